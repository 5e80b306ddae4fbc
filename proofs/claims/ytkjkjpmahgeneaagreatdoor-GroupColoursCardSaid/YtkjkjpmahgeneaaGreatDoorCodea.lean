import Derived.Test.YtkjkjpmahgeneaaGreatDoorIrT
import Derived.KernelRfl
import Derived.Test.YtkjkjpmahgeneaaGreatDoorEvD
set_option linter.unusedSimpArgs false
set_option linter.unusedVariables false
noncomputable section
namespace Go.Ev
open Go Go.Proofs
set_option maxRecDepth 100000
variable {N:Nat} {C:Calls Prop} {K0:Kw Prop} {K R:Ks Prop} {h:T Blk} {nx:Pa} {b c g e f i l a0 a1 a2 q p s a d o u v w y z A B D E F G H:AV}
theorem F93.zaw (X3:IR) (O:uq Prop) (t:T AV):IR.run (F93.g2 X3) C N O K t h nx=IR.run X3 C N (O.blk 0 K) K t h nx:=by kernel_rfl
theorem F93.tab:T.get none (.of 93) tbl=some F93:=by kernel_rfl
theorem F93.go:zV tbl N C (.of 93) [a0] h nx K0 =
 sLen a0 fun v1=>zx .gtr .int v1 (I 256) fun v2=>yD v2 (K0 (I 5) h nx) (sLen a0 fun v3=>gU 1 1 [(.bool false)] v3 v3 h nx fun v4 h5 n6=>IR.run F93.b2 C N (fnO F93.res K0) (IR.run F93.b10 C N (fnO F93.res K0) (gq F93.res K0)) (F93.fr a0 (I 0) v4 (I 0) v2 .undef .undef) h5 n6):=by
 rw [zJ F93.tab];kernel_rfl
theorem F93.L2 (Inv:Nat->AV->T Blk->Pa->Prop) {m:Nat} (hm:m<N) (hi:Inv m e h nx)
  (step:∀ (m:Nat) (z1 z3 z5 z6:AV) (h:T Blk) (nx:Pa) (R:Ks Prop),Inv m z3 h nx->(∀ (m':Nat) (w1 w3 w5 w6:AV) (h':T Blk) (nx':Pa),m'<m->Inv m' w3 h' nx'->R (F93.fr b w1 g w3 f w5 w6) h' nx'=.ok True) ->
   (sLen b fun v1=>zx .lss .int z3 v1 fun v2=>yD v2 (zS 1 b z3 fun v3=>zF v3 h fun v4=>zx .lss .int v4 (I 0) fun v5=>sG v5 false (fun k=>k b) fun v6=>sG v5 false (fun k=>k z3) fun v7=>sG v5 false (fun k=>zS 1 v6 v7 k) fun v8=>sG v5 false (fun k=>zF v8 h k) fun v9=>sG v5 false (fun k=>k b) fun vA=>sG v5 false (fun k=>sLen vA k) fun vB=>sG v5 false (fun k=>zx .geq .int v9 vB k) fun vC=>jS v5 (.bool true) vC fun vD=>sG vD false (fun k=>k g) fun vE=>sG vD false (fun k=>k b) fun vF=>sG vD false (fun k=>k z3) fun vG=>sG vD false (fun k=>zS 1 vF vG k) fun vH=>sG vD false (fun k=>zF vH h k) fun vI=>sG vD false (fun k=>zS 1 vE vI k) fun vJ=>sG vD false (fun k=>zF vJ h k) fun vK=>jS vD (.bool true) vK fun vL=>yD vL (K0 (I 14) h nx) ((IR.run F93.b8 C N (((fnO F93.res K0).blk 0 K).blk 1 (IR.run F93.b9 C N ((fnO F93.res K0).blk 0 K) R)) (IR.run F93.b9 C N ((fnO F93.res K0).blk 0 K) R)) (F93.fr b z1 g z3 f v2 vL) h nx)) (K (F93.fr b z1 g z3 f v2 z6) h nx))=.ok True) :
  IR.run F93.b2 C N (fnO F93.res K0) K (F93.fr b c g e f i l) h nx=.ok True:=by
 rw [F93.b2,F93.zaw,F93.b3];refine yK (fun m tm h nx=>∃ z1 z3 z5 z6,tm=(F93.fr b z1 g z3 f z5 z6)/\Inv m z3 h nx) ?_ hm ⟨_,_,_,_,rfl,hi⟩;rintro m tm h nx R ⟨z1,z3,z5,z6,rfl,hi⟩ hR;refine Eq.trans ?_ (step m z1 z3 z5 z6 h nx R hi fun m' w1 w3 w5 w6 h' nx' hlt hi'=>hR m' _ h' nx' hlt ⟨_,_,_,_,rfl,hi'⟩)
 kernel_rfl
theorem F93.k10:IR.run F93.b10 C N (fnO F93.res K0) K (F93.fr b c g e f i l) h nx =
 K0 (I 0) h nx:=by kernel_rfl
theorem F93.k9 {E0:Ks Prop}:IR.run F93.b9 C N ((fnO F93.res K0).blk 0 E0) K (F93.fr b c g e f i l) h nx =
 zx .add .int e (I 1) fun v1=>K (F93.fr b c g v1 f i l) h nx:=by kernel_rfl
theorem F93.k8 {E0 E1:Ks Prop}:IR.run F93.b8 C N (((fnO F93.res K0).blk 0 E0).blk 1 E1) K (F93.fr b c g e f i l) h nx =
 zS 1 b e fun v1=>zF v1 h fun v2=>zS 1 g v2 fun v3=>zM 1 v3 (.bool true) h nx fun v4 h5 n6=>K (F93.fr b c g e f i l) h5 n6:=by kernel_rfl
theorem F26.tab:T.get none (.of 26) tbl=some F26:=by kernel_rfl
theorem F26.go:zV tbl N C (.of 26) [a0,a1] h nx K0 =
 rP a0 h nx fun v1 h2 n3=>C.fn 25 (.of 25) [a1] h2 n3 fun v4 h5 n6=>zx .neq .int v4 (I 0) fun v7=>yD v7 (K0 (I 3) h5 n6) (zQ 0 v1 fun v8=>zF v8 h5 fun v9=>sLen v9 fun vA=>zx .neq .int vA a1 fun vB=>yD vB (K0 (I 2) h5 n6) (zQ 0 v1 fun vC=>zF vC h5 fun vD=>C.fn 93 (.of 93) [vD] h5 n6 fun vE hA nA=>K0 vE hA nA)):=by
 rw [zJ F26.tab];kernel_rfl
theorem F25.tab:T.get none (.of 25) tbl=some F25:=by kernel_rfl
theorem F25.go:zV tbl N C (.of 25) [a0] h nx K0 =
 zx .lss .int a0 (I 0) fun v1=>sG v1 false (fun k=>k a0) fun v2=>sG v1 false (fun k=>zx .gtr .int v2 (I 256) k) fun v3=>jS v1 (.bool true) v3 fun v4=>yD v4 (K0 (I 3) h nx) (K0 (I 0) h nx):=by
 rw [zJ F25.tab];kernel_rfl
theorem F82.zaw (X3:IR) (O:uq Prop) (t:T AV):IR.run (F82.g2 X3) C N O K t h nx=IR.run X3 C N (O.blk 0 K) K t h nx:=by kernel_rfl
theorem F82.tab:T.get none (.of 82) tbl=some F82:=by kernel_rfl
theorem F82.go:zV tbl N C (.of 82) [a0,a1] h nx K0 =
 sLen a0 fun v1=>sLen a1 fun v2=>zx .neq .int v1 v2 fun v3=>yD v3 (K0 (.bool false) h nx) (IR.run F82.b2 C N (fnO F82.res K0) (IR.run F82.b9 C N (fnO F82.res K0) (gq F82.res K0)) (F82.fr a0 a1 (.bool false) (I 0) v3 .undef .undef) h nx):=by
 rw [zJ F82.tab];kernel_rfl
theorem F82.L2 (Inv:Nat->AV->T Blk->Pa->Prop) {m:Nat} (hm:m<N) (hi:Inv m e h nx)
  (step:∀ (m:Nat) (z2 z3 z5 z6:AV) (h:T Blk) (nx:Pa) (R:Ks Prop),Inv m z3 h nx->(∀ (m':Nat) (w2 w3 w5 w6:AV) (h':T Blk) (nx':Pa),m'<m->Inv m' w3 h' nx'->R (F82.fr b c w2 w3 f w5 w6) h' nx'=.ok True) ->
   (sLen b fun v1=>zx .lss .int z3 v1 fun v2=>yD v2 (zS 1 b z3 fun v3=>zF v3 h fun v4=>zS 1 c z3 fun v5=>zF v5 h fun v6=>zx .neq .int v4 v6 fun v7=>yD v7 (K0 (.bool false) h nx) (zx .add .int z3 (I 1) fun v8=>R (F82.fr b c z2 v8 f v2 v7) h nx)) (K (F82.fr b c z2 z3 f v2 z6) h nx))=.ok True) :
  IR.run F82.b2 C N (fnO F82.res K0) K (F82.fr b c g e f i l) h nx=.ok True:=by
 rw [F82.b2,F82.zaw,F82.b3];refine yK (fun m tm h nx=>∃ z2 z3 z5 z6,tm=(F82.fr b c z2 z3 f z5 z6)/\Inv m z3 h nx) ?_ hm ⟨_,_,_,_,rfl,hi⟩;rintro m tm h nx R ⟨z2,z3,z5,z6,rfl,hi⟩ hR;refine Eq.trans ?_ (step m z2 z3 z5 z6 h nx R hi fun m' w2 w3 w5 w6 h' nx' hlt hi'=>hR m' _ h' nx' hlt ⟨_,_,_,_,rfl,hi'⟩)
 kernel_rfl
theorem F82.k9:IR.run F82.b9 C N (fnO F82.res K0) K (F82.fr b c g e f i l) h nx =
 K0 (.bool true) h nx:=by kernel_rfl
theorem eU.tab:T.get none (.of 106) tbl=some eU:=by kernel_rfl
theorem eU.go:zV tbl N C (.of 106) [a0] h nx K0 =
 zx .eql (.nil .sl) a0 .zf fun v1=>yD v1 (K0 .zf h nx) (jA 1 0 [(I 0)] [] h nx fun v2 h3 n4=>tX 1 8 v2 a0 h3 n4 fun v5 h6 n7=>K0 v5 h6 n7):=by
 rw [zJ eU.tab];kernel_rfl
theorem uw.zaw (X3:IR) (O:uq Prop) (t:T AV):IR.run (uw.g2 X3) C N O K t h nx=IR.run X3 C N (O.blk 0 K) K t h nx:=by kernel_rfl
theorem uw.tab:T.get none (.of 158) tbl=some uw:=by kernel_rfl
theorem uw.go:zV tbl N C (.of 158) [a0,a1] h nx K0 =
 sLen a0 fun v1=>sLen a1 fun v2=>zx .neq .int v1 v2 fun v3=>yD v3 (K0 (.bool false) h nx) (sLen a0 fun v4=>IR.run uw.b2 C N (fnO uw.res K0) (IR.run uw.b9 C N (fnO uw.res K0) (gq uw.res K0)) (uw.fr a0 a1 (.bool false) .undef v3 v4 (I 0) .undef .undef) h nx):=by
 rw [zJ uw.tab];kernel_rfl
theorem uw.L2 (Inv:Nat->AV->T Blk->Pa->Prop) {m:Nat} (hm:m<N) (hi:Inv m l h nx)
  (step:∀ (m:Nat) (z2 z3 z6 z7 z8:AV) (h:T Blk) (nx:Pa) (R:Ks Prop),Inv m z6 h nx->(∀ (m':Nat) (w2 w3 w6 w7 w8:AV) (h':T Blk) (nx':Pa),m'<m->Inv m' w6 h' nx'->R (uw.fr b c w2 w3 f i w6 w7 w8) h' nx'=.ok True) ->
   (zx .lss .int z6 i fun v1=>yD v1 (zS 1 b z6 fun v2=>zF v2 h fun v3=>zS 1 c z6 fun v4=>zF v4 h fun v5=>zx .neq .int v3 v5 fun v6=>yD v6 (K0 (.bool false) h nx) (zx .add .int z6 (I 1) fun v7=>R (uw.fr b c z2 z6 f i v7 v1 v6) h nx)) (K (uw.fr b c z2 z3 f i z6 v1 z8) h nx))=.ok True) :
  IR.run uw.b2 C N (fnO uw.res K0) K (uw.fr b c g e f i l q p) h nx=.ok True:=by
 rw [uw.b2,uw.zaw,uw.b3];refine yK (fun m tm h nx=>∃ z2 z3 z6 z7 z8,tm=(uw.fr b c z2 z3 f i z6 z7 z8)/\Inv m z6 h nx) ?_ hm ⟨_,_,_,_,_,rfl,hi⟩;rintro m tm h nx R ⟨z2,z3,z6,z7,z8,rfl,hi⟩ hR;refine Eq.trans ?_ (step m z2 z3 z6 z7 z8 h nx R hi fun m' w2 w3 w6 w7 w8 h' nx' hlt hi'=>hR m' _ h' nx' hlt ⟨_,_,_,_,_,rfl,hi'⟩)
 kernel_rfl
theorem uw.k9:IR.run uw.b9 C N (fnO uw.res K0) K (uw.fr b c g e f i l q p) h nx =
 K0 (.bool true) h nx:=by kernel_rfl
theorem F136.tab:T.get none (.of 136) tbl=some F136:=by kernel_rfl
theorem F136.go:zV tbl N C (.of 136) [a0,a1] h nx K0 =
 C.fn 197 (.of 197) [a0,a1] h nx fun v1 h2 n3=>zx .geq .int v1 (I 0) fun v4=>K0 v4 h2 n3:=by
 rw [zJ F136.tab];kernel_rfl
theorem uz.rQ (X2:IR) (O:uq Prop) (t:T AV):IR.run (uz.g1 X2) C N O K t h nx=IR.run X2 C N (O.blk 0 K) K t h nx:=by kernel_rfl
theorem uz.tab:T.get none (.of 197) tbl=some uz:=by kernel_rfl
theorem uz.go:zV tbl N C (.of 197) [a0,a1] h nx K0 =
 sLen a0 fun v1=>IR.run uz.b1 C N (fnO uz.res K0) (IR.run uz.b8 C N (fnO uz.res K0) (gq uz.res K0)) (uz.fr a0 a1 (I 0) .undef v1 (I 0) .undef .undef) h nx:=by
 rw [zJ uz.tab];kernel_rfl
theorem uz.L1 (Inv:Nat->AV->T Blk->Pa->Prop) {m:Nat} (hm:m<N) (hi:Inv m i h nx)
  (step:∀ (m:Nat) (z2 z3 z5 z6 z7:AV) (h:T Blk) (nx:Pa) (R:Ks Prop),Inv m z5 h nx->(∀ (m':Nat) (w2 w3 w5 w6 w7:AV) (h':T Blk) (nx':Pa),m'<m->Inv m' w5 h' nx'->R (uz.fr b c w2 w3 f w5 w6 w7) h' nx'=.ok True) ->
   (zx .lss .int z5 f fun v1=>yD v1 (zS 1 b z5 fun v2=>zF v2 h fun v3=>bE C c [v3] h nx fun v4 h5 n6=>yD v4 (K0 z5 h5 n6) (zx .add .int z5 (I 1) fun v7=>R (uz.fr b c z2 z5 f v7 v1 v4) h5 n6)) (K (uz.fr b c z2 z3 f z5 v1 z7) h nx))=.ok True) :
  IR.run uz.b1 C N (fnO uz.res K0) K (uz.fr b c g e f i l q) h nx=.ok True:=by
 rw [uz.b1,uz.rQ,uz.b2];refine yK (fun m tm h nx=>∃ z2 z3 z5 z6 z7,tm=(uz.fr b c z2 z3 f z5 z6 z7)/\Inv m z5 h nx) ?_ hm ⟨_,_,_,_,_,rfl,hi⟩;rintro m tm h nx R ⟨z2,z3,z5,z6,z7,rfl,hi⟩ hR;refine Eq.trans ?_ (step m z2 z3 z5 z6 z7 h nx R hi fun m' w2 w3 w5 w6 w7 h' nx' hlt hi'=>hR m' _ h' nx' hlt ⟨_,_,_,_,_,rfl,hi'⟩)
 kernel_rfl
theorem uz.k8:IR.run uz.b8 C N (fnO uz.res K0) K (uz.fr b c g e f i l q) h nx =
 K0 (I (-1)) h nx:=by kernel_rfl
theorem F85.tab:T.get none (.of 85) tbl=some F85:=by kernel_rfl
theorem F85.go:zV tbl N C (.of 85) [a0,a1] h nx K0 =
 rP a0 h nx fun v1 h2 n3=>rP a1 h2 n3 fun v4 h5 n6=>zQ 0 v1 fun v7=>zF v7 h5 fun v8=>zQ 0 v4 fun v9=>zF v9 h5 fun vA=>C.fn 82 (.of 82) [v8,vA] h5 n6 fun vB hB nB=>yD vB (zQ 1 v1 fun vE=>zF vE hB fun vF=>sNot vF fun vG=>sG vG true (fun k=>zQ 1 v4 k) fun vH=>sG vG true (fun k=>zF vH hB k) fun vI=>jS vG vI (.bool false) fun vJ=>K0 vJ hB nB) (zQ 0 v1 fun vK=>zF vK hB fun vL=>zQ 0 v4 fun vM=>zF vM hB fun vN=>C.fn 88 (.of 88) [vL,vN] hB nB fun vO hC nC=>K0 vO hC nC):=by
 rw [zJ F85.tab];kernel_rfl
theorem F84.rQ (X2:IR) (O:uq Prop) (t:T AV):IR.run (F84.g1 X2) C N O K t h nx=IR.run X2 C N (O.blk 0 K) K t h nx:=by kernel_rfl
theorem F84.tab:T.get none (.of 84) tbl=some F84:=by kernel_rfl
theorem F84.go:zV tbl N C (.of 84) [a0,a1] h nx K0 =
 rP a1 h nx fun v1 h2 n3=>IR.run F84.b1 C N (fnO F84.res K0) (IR.run F84.b8 C N (fnO F84.res K0) (gq F84.res K0)) (F84.fr a0 a1 v1 (I 0) (I 0) .undef .undef) h2 n3:=by
 rw [zJ F84.tab];kernel_rfl
theorem F84.L1 (Inv:Nat->AV->T Blk->Pa->Prop) {m:Nat} (hm:m<N) (hi:Inv m f h nx)
  (step:∀ (m:Nat) (z3 z4 z5 z6:AV) (h:T Blk) (nx:Pa) (R:Ks Prop),Inv m z4 h nx->(∀ (m':Nat) (w3 w4 w5 w6:AV) (h':T Blk) (nx':Pa),m'<m->Inv m' w4 h' nx'->R (F84.fr b c g w3 w4 w5 w6) h' nx'=.ok True) ->
   (sLen b fun v1=>zx .lss .int z4 v1 fun v2=>yD v2 (zS 2 b z4 fun v3=>zK 2 v3 h fun v4=>zK 2 g h fun v5=>C.fn 30 (.of 30) [v4,v5] h nx fun v6 h7 n8=>yD v6 (K0 z4 h7 n8) (zx .add .int z4 (I 1) fun v9=>R (F84.fr b c g z3 v9 v2 v6) h7 n8)) (K (F84.fr b c g z3 z4 v2 z6) h nx))=.ok True) :
  IR.run F84.b1 C N (fnO F84.res K0) K (F84.fr b c g e f i l) h nx=.ok True:=by
 rw [F84.b1,F84.rQ,F84.b2];refine yK (fun m tm h nx=>∃ z3 z4 z5 z6,tm=(F84.fr b c g z3 z4 z5 z6)/\Inv m z4 h nx) ?_ hm ⟨_,_,_,_,rfl,hi⟩;rintro m tm h nx R ⟨z3,z4,z5,z6,rfl,hi⟩ hR;refine Eq.trans ?_ (step m z3 z4 z5 z6 h nx R hi fun m' w3 w4 w5 w6 h' nx' hlt hi'=>hR m' _ h' nx' hlt ⟨_,_,_,_,rfl,hi'⟩)
 kernel_rfl
theorem F84.k8:IR.run F84.b8 C N (fnO F84.res K0) K (F84.fr b c g e f i l) h nx =
 K0 (I (-1)) h nx:=by kernel_rfl
theorem F65.tab:T.get none (.of 65) tbl=some F65:=by kernel_rfl
theorem F65.go:zV tbl N C (.of 65) [a0,a1] h nx K0 =
 rP a0 h nx fun v1 h2 n3=>rP a1 h2 n3 fun v4 h5 n6=>yB [.zf,(.bool false)] h5 n6 fun v7 h8 n9=>zQ 0 v1 fun vA=>zF vA h8 fun vB=>zQ 0 v4 fun vC=>zF vC h8 fun vD=>zQ 1 v1 fun vE=>zF vE h8 fun vF=>zQ 1 v4 fun vG=>zF vG h8 fun vH=>zx .neq .bool vF vH fun vI=>C.fn 144 (.of 144) [vB,vD] h8 n9 fun vJ hD nD=>(zx .neq .bool vF vH fun vP=>zL vP vI ((zF vG hD fun vQ=>zL vQ vH ((zQ 1 v4 fun vR=>zL vR vG ((zF vE hD fun vS=>zL vS vF ((zQ 1 v1 fun vT=>zL vT vE (gO [.zf,(.bool false)] [(0,1,vJ),(1,1,vI)] fun vM=>zM 2 v7 vM hD nD fun vN hE nE=>zK 2 v7 hE fun vU=>K0 vU hE nE)))))))))):=by
 rw [zJ F65.tab];kernel_rfl
theorem F30.tab:T.get none (.of 30) tbl=some F30:=by kernel_rfl
theorem F30.go:zV tbl N C (.of 30) [a0,a1] h nx K0 =
 rP a0 h nx fun v1 h2 n3=>rP a1 h2 n3 fun v4 h5 n6=>zQ 1 v1 fun v7=>zF v7 h5 fun v8=>zQ 1 v4 fun v9=>zF v9 h5 fun vA=>zx .eql .bool v8 vA fun vB=>sG vB true (fun k=>zQ 0 v1 k) fun vC=>sG vB true (fun k=>zF vC h5 k) fun vD=>sG vB true (fun k=>zQ 0 v4 k) fun vE=>sG vB true (fun k=>zF vE h5 k) fun vF=>sGW vB true (fun k=>C.fn 82 (.of 82) [vD,vF] h5 n6 k) h5 n6 fun vG hF nF=>jS vB vG (.bool false) fun vJ=>K0 vJ hF nF:=by
 rw [zJ F30.tab];kernel_rfl
theorem ku.rQ (X2:IR) (O:uq Prop) (t:T AV):IR.run (ku.g1 X2) C N O K t h nx=IR.run X2 C N (O.blk 0 K) K t h nx:=by kernel_rfl
theorem ku.tab:T.get none (.of 144) tbl=some ku:=by kernel_rfl
theorem ku.go:zV tbl N C (.of 144) [a0,a1] h nx K0 =
 IR.run ku.b1 C N (fnO ku.res K0) (IR.run ku.b8 C N (fnO ku.res K0) (gq ku.res K0)) (ku.fr a0 a1 .zf .zf (I 0) .undef) h nx:=by
 rw [zJ ku.tab];kernel_rfl
theorem ku.L1 (Inv:Nat->AV->AV->T Blk->Pa->Prop) {m:Nat} (hm:m<N) (hi:Inv m e f h nx)
  (step:∀ (m:Nat) (z3 z4 z5:AV) (h:T Blk) (nx:Pa) (R:Ks Prop),Inv m z3 z4 h nx->(∀ (m':Nat) (w3 w4 w5:AV) (h':T Blk) (nx':Pa),m'<m->Inv m' w3 w4 h' nx'->R (ku.fr b c g w3 w4 w5) h' nx'=.ok True) ->
   (sLen c fun v1=>zx .lss .int z4 v1 fun v2=>yD v2 (zS 1 c z4 fun v3=>zF v3 h fun v4=>zS 1 b v4 fun v5=>zF v5 h fun v6=>jA 1 1 [(I 0)] [(0,1,v6)] h nx fun v7 h8 n9=>tX 1 8 z3 v7 h8 n9 fun vA hG nG=>zx .add .int z4 (I 1) fun vD=>R (ku.fr b c g vA vD v2) hG nG) (K (ku.fr b c g z3 z4 v2) h nx))=.ok True) :
  IR.run ku.b1 C N (fnO ku.res K0) K (ku.fr b c g e f i) h nx=.ok True:=by
 rw [ku.b1,ku.rQ,ku.b2];refine yK (fun m tm h nx=>∃ z3 z4 z5,tm=(ku.fr b c g z3 z4 z5)/\Inv m z3 z4 h nx) ?_ hm ⟨_,_,_,rfl,hi⟩;rintro m tm h nx R ⟨z3,z4,z5,rfl,hi⟩ hR;refine Eq.trans ?_ (step m z3 z4 z5 h nx R hi fun m' w3 w4 w5 h' nx' hlt hi'=>hR m' _ h' nx' hlt ⟨_,_,_,rfl,hi'⟩)
 kernel_rfl
theorem ku.k8:IR.run ku.b8 C N (fnO ku.res K0) K (ku.fr b c g e f i) h nx =
 K0 e h nx:=by kernel_rfl
theorem F20.zv7 (X5:IR) (O:uq Prop) (t:T AV):IR.run (F20.g4 X5) C N O K t h nx=IR.run X5 C N (O.blk 0 K) K t h nx:=by kernel_rfl
theorem F20.zt6 (X13:IR) (O:uq Prop) (t:T AV):IR.run (F20.g12 X13) C N O K t h nx=IR.run X13 C N (O.blk 2 K) K t h nx:=by kernel_rfl
theorem F20.zt7 (X27:IR) (O:uq Prop) (t:T AV):IR.run (F20.g26 X27) C N O K t h nx=IR.run X27 C N (O.blk 6 K) K t h nx:=by kernel_rfl
theorem F20.zt8 (X21:IR) (O:uq Prop) (t:T AV):IR.run (F20.g20 X21) C N O K t h nx=IR.run X21 C N (O.blk 4 K) K t h nx:=by kernel_rfl
theorem F20.tab:T.get none (.of 20) tbl=some F20:=by kernel_rfl
theorem F20.go:zV tbl N C (.of 20) [a0,a1] h nx K0 =
 C.fn 25 (.of 25) [a1] h nx fun v1 h2 n3=>zx .neq .int v1 (I 0) fun v4=>yD v4 (K0 (I 3) h2 n3) (sLen a0 fun v5=>zx .eql .int v5 (I 0) fun v6=>yD v6 (K0 (I 12) h2 n3) (sLen a0 fun v7=>zx .gtr .int v7 (I 1536) fun v8=>yD v8 (K0 (I 5) h2 n3) (IR.run F20.b4 C N (fnO F20.res K0) (IR.run F20.b11 C N (fnO F20.res K0) (gq F20.res K0)) (F20.fr a0 a1 (I 0) (I 0) .undef .undef .undef .undef v4 v6 v8 .undef .undef .undef .undef .undef .undef .undef) h2 n3))):=by
 rw [zJ F20.tab];kernel_rfl
theorem F20.L4 (Inv:Nat->AV->T Blk->Pa->Prop) {m:Nat} (hm:m<N) (hi:Inv m e h nx)
  (step:∀ (m:Nat) (z2 z3 z4 zA zB:AV) (h:T Blk) (nx:Pa) (R:Ks Prop),Inv m z3 h nx->(∀ (m':Nat) (w2 w3 w4 wA wB:AV) (h':T Blk) (nx':Pa),m'<m->Inv m' w3 h' nx'->R (F20.fr b c w2 w3 w4 i l q p s a wA wB u v w y z) h' nx'=.ok True) ->
   (sLen b fun v1=>zx .lss .int z3 v1 fun v2=>yD v2 (zS 2 b z3 fun v3=>zK 2 v3 h fun v4=>C.fn 26 (.of 26) [v4,c] h nx fun v5 h6 n7=>zx .neq .int v5 (I 0) fun v8=>yD v8 (K0 v5 h6 n7) (zx .add .int z3 (I 1) fun v9=>R (F20.fr b c z2 v9 v5 i l q p s a v2 v8 u v w y z) h6 n7)) (K (F20.fr b c z2 z3 z4 i l q p s a v2 zB u v w y z) h nx))=.ok True) :
  IR.run F20.b4 C N (fnO F20.res K0) K (F20.fr b c g e f i l q p s a d o u v w y z) h nx=.ok True:=by
 rw [F20.b4,F20.zv7,F20.b5];refine yK (fun m tm h nx=>∃ z2 z3 z4 zA zB,tm=(F20.fr b c z2 z3 z4 i l q p s a zA zB u v w y z)/\Inv m z3 h nx) ?_ hm ⟨_,_,_,_,_,rfl,hi⟩;rintro m tm h nx R ⟨z2,z3,z4,zA,zB,rfl,hi⟩ hR;refine Eq.trans ?_ (step m z2 z3 z4 zA zB h nx R hi fun m' w2 w3 w4 wA wB h' nx' hlt hi'=>hR m' _ h' nx' hlt ⟨_,_,_,_,_,rfl,hi'⟩)
 kernel_rfl
theorem F20.k11:IR.run F20.b11 C N (fnO F20.res K0) K (F20.fr b c g e f i l q p s a d o u v w y z) h nx =
 IR.run F20.b12 C N (fnO F20.res K0) (IR.run F20.b19 C N (fnO F20.res K0) K) (F20.fr b c g e f (I 1) l q p s a d o u v w y z) h nx:=by kernel_rfl
theorem F20.L12 (Inv:Nat->AV->T Blk->Pa->Prop) {m:Nat} (hm:m<N) (hi:Inv m i h nx)
  (step:∀ (m:Nat) (z2 z5 zC zD:AV) (h:T Blk) (nx:Pa) (R:Ks Prop),Inv m z5 h nx->(∀ (m':Nat) (w2 w5 wC wD:AV) (h':T Blk) (nx':Pa),m'<m->Inv m' w5 h' nx'->R (F20.fr b c w2 e f w5 l q p s a d o wC wD w y z) h' nx'=.ok True) ->
   (sLen b fun v1=>zx .lss .int z5 v1 fun v2=>yD v2 (zx .sub .int z5 (I 1) fun v3=>zS 2 b v3 fun v4=>zK 2 v4 h fun v5=>zS 2 b z5 fun v6=>zK 2 v6 h fun v7=>C.fn 85 (.of 85) [v5,v7] h nx fun v8 h9 nH=>sNot v8 fun vB=>yD vB (K0 (I 11) h9 nH) (zx .add .int z5 (I 1) fun vC=>R (F20.fr b c z2 e f vC l q p s a d o v2 vB w y z) h9 nH)) (K (F20.fr b c z2 e f z5 l q p s a d o v2 zD w y z) h nx))=.ok True) :
  IR.run F20.b12 C N (fnO F20.res K0) K (F20.fr b c g e f i l q p s a d o u v w y z) h nx=.ok True:=by
 rw [F20.b12,F20.zt6,F20.b13];refine yK (fun m tm h nx=>∃ z2 z5 zC zD,tm=(F20.fr b c z2 e f z5 l q p s a d o zC zD w y z)/\Inv m z5 h nx) ?_ hm ⟨_,_,_,_,rfl,hi⟩;rintro m tm h nx R ⟨z2,z5,zC,zD,rfl,hi⟩ hR;refine Eq.trans ?_ (step m z2 z5 zC zD h nx R hi fun m' w2 w5 wC wD h' nx' hlt hi'=>hR m' _ h' nx' hlt ⟨_,_,_,_,rfl,hi'⟩)
 kernel_rfl
theorem F20.k19:IR.run F20.b19 C N (fnO F20.res K0) K (F20.fr b c g e f i l q p s a d o u v w y z) h nx =
 IR.run F20.b20 C N (fnO F20.res K0) (IR.run F20.b34 C N (fnO F20.res K0) K) (F20.fr b c g e f i (I 0) q p s a d o u v w y z) h nx:=by kernel_rfl
theorem F20.L20 (Inv:Nat->AV->T Blk->Pa->Prop) {m:Nat} (hm:m<N) (hi:Inv m l h nx)
  (step:∀ (m:Nat) (z2 z6 z7 zE zG zH:AV) (h:T Blk) (nx:Pa) (R:Ks Prop),Inv m z6 h nx->(∀ (m':Nat) (w2 w6 w7 wE wF wG:AV) (h':T Blk) (nx':Pa),m'<m->Inv m' w6 h' nx'->R (F20.fr b c w2 e f i w6 w7 p s a d o u v wE wF wG) h' nx'=.ok True) ->
   (sLen b fun v1=>zx .lss .int z6 v1 fun v2=>yD v2 (IR.run F20.b26 C N (((fnO F20.res K0).blk 4 K).blk 5 (IR.run F20.b33 C N ((fnO F20.res K0).blk 4 K) R)) (IR.run F20.b33 C N ((fnO F20.res K0).blk 4 K) R) (F20.fr b c z2 e f i z6 (I 0) p s a d o u v v2 zG zH) h nx) (K (F20.fr b c z2 e f i z6 z7 p s a d o u v v2 zG zH) h nx))=.ok True) :
  IR.run F20.b20 C N (fnO F20.res K0) K (F20.fr b c g e f i l q p s a d o u v w y z) h nx=.ok True:=by
 rw [F20.b20,F20.zt8,F20.b21];refine yK (fun m tm h nx=>∃ z2 z6 z7 zE zG zH,tm=(F20.fr b c z2 e f i z6 z7 p s a d o u v zE zG zH)/\Inv m z6 h nx) ?_ hm ⟨_,_,_,_,_,_,rfl,hi⟩;rintro m tm h nx R ⟨z2,z6,z7,zE,zG,zH,rfl,hi⟩ hR;refine Eq.trans ?_ (step m z2 z6 z7 zE zG zH h nx R hi fun m' w2 w6 w7 wE wF wG h' nx' hlt hi'=>hR m' _ h' nx' hlt ⟨_,_,_,_,_,_,rfl,hi'⟩)
 kernel_rfl
theorem F20.k34:IR.run F20.b34 C N (fnO F20.res K0) K (F20.fr b c g e f i l q p s a d o u v w y z) h nx =
 K0 (I 0) h nx:=by kernel_rfl
theorem F20.k33 {E4:Ks Prop}:IR.run F20.b33 C N ((fnO F20.res K0).blk 4 E4) K (F20.fr b c g e f i l q p s a d o u v w y z) h nx =
 zx .add .int l (I 1) fun v1=>K (F20.fr b c g e f i v1 q p s a d o u v w y z) h nx:=by kernel_rfl
theorem F20.L26 {E4 E5:Ks Prop} (Inv:Nat->AV->T Blk->Pa->Prop) {m:Nat} (hm:m<N) (hi:Inv m q h nx)
  (step:∀ (m:Nat) (z2 z7 zG zH:AV) (h:T Blk) (nx:Pa) (R:Ks Prop),Inv m z7 h nx->(∀ (m':Nat) (w2 w7 wF wG:AV) (h':T Blk) (nx':Pa),m'<m->Inv m' w7 h' nx'->R (F20.fr b c w2 e f i l w7 p s a d o u v w wF wG) h' nx'=.ok True) ->
   (sLen b fun v1=>zx .lss .int z7 v1 fun v2=>yD v2 (zS 2 b l fun v3=>zK 2 v3 h fun v4=>zS 2 b z7 fun v5=>zK 2 v5 h fun v6=>C.fn 65 (.of 65) [v4,v6] h nx fun v7 h8 n9=>zL b b (C.fn 84 (.of 84) [b,v7] h8 n9 fun vA hG nG=>zx .lss .int vA (I 0) fun vD=>yD vD (K0 (I 28) hG nG) (zx .add .int z7 (I 1) fun vE=>R (F20.fr b c z2 e f i l vE p s a d o u v w v2 vD) hG nG))) (K (F20.fr b c z2 e f i l z7 p s a d o u v w v2 zH) h nx))=.ok True) :
  IR.run F20.b26 C N (((fnO F20.res K0).blk 4 E4).blk 5 E5) K (F20.fr b c g e f i l q p s a d o u v w y z) h nx=.ok True:=by
 rw [F20.b26,F20.zt7,F20.b27];refine yK (fun m tm h nx=>∃ z2 z7 zG zH,tm=(F20.fr b c z2 e f i l z7 p s a d o u v w zG zH)/\Inv m z7 h nx) ?_ hm ⟨_,_,_,_,rfl,hi⟩;rintro m tm h nx R ⟨z2,z7,zG,zH,rfl,hi⟩ hR;refine Eq.trans ?_ (step m z2 z7 zG zH h nx R hi fun m' w2 w7 wF wG h' nx' hlt hi'=>hR m' _ h' nx' hlt ⟨_,_,_,_,rfl,hi'⟩)
 kernel_rfl
theorem F88.rQ (X2:IR) (O:uq Prop) (t:T AV):IR.run (F88.g1 X2) C N O K t h nx=IR.run X2 C N (O.blk 0 K) K t h nx:=by kernel_rfl
theorem F88.tab:T.get none (.of 88) tbl=some F88:=by kernel_rfl
theorem F88.go:zV tbl N C (.of 88) [a0,a1] h nx K0 =
 IR.run F88.b1 C N (fnO F88.res K0) (IR.run F88.b8 C N (fnO F88.res K0) (gq F88.res K0)) (F88.fr a0 a1 (.bool false) (I 0) .undef .undef) h nx:=by
 rw [zJ F88.tab];kernel_rfl
theorem F88.L1 (Inv:Nat->AV->T Blk->Pa->Prop) {m:Nat} (hm:m<N) (hi:Inv m e h nx)
  (step:∀ (m:Nat) (z2 z3 z4 z5:AV) (h:T Blk) (nx:Pa) (R:Ks Prop),Inv m z3 h nx->(∀ (m':Nat) (w2 w3 w4 w5:AV) (h':T Blk) (nx':Pa),m'<m->Inv m' w3 h' nx'->R (F88.fr b c w2 w3 w4 w5) h' nx'=.ok True) ->
   (sLen b fun v1=>zx .lss .int z3 v1 fun v2=>sG v2 true (fun k=>k z3) fun v3=>sG v2 true (fun k=>k c) fun v4=>sG v2 true (fun k=>sLen v4 k) fun v5=>sG v2 true (fun k=>zx .lss .int v3 v5 k) fun v6=>jS v2 v6 (.bool false) fun v7=>yD v7 ((IR.run F88.b4 C N ((fnO F88.res K0).blk 0 K) R) (F88.fr b c z2 z3 v7 z5) h nx) (K (F88.fr b c z2 z3 v7 z5) h nx))=.ok True) :
  IR.run F88.b1 C N (fnO F88.res K0) K (F88.fr b c g e f i) h nx=.ok True:=by
 rw [F88.b1,F88.rQ,F88.b2];refine yK (fun m tm h nx=>∃ z2 z3 z4 z5,tm=(F88.fr b c z2 z3 z4 z5)/\Inv m z3 h nx) ?_ hm ⟨_,_,_,_,rfl,hi⟩;rintro m tm h nx R ⟨z2,z3,z4,z5,rfl,hi⟩ hR;refine Eq.trans ?_ (step m z2 z3 z4 z5 h nx R hi fun m' w2 w3 w4 w5 h' nx' hlt hi'=>hR m' _ h' nx' hlt ⟨_,_,_,_,rfl,hi'⟩)
 kernel_rfl
theorem F88.k8:IR.run F88.b8 C N (fnO F88.res K0) K (F88.fr b c g e f i) h nx =
 sLen b fun v1=>sLen c fun v2=>zx .lss .int v1 v2 fun v3=>K0 v3 h nx:=by kernel_rfl
theorem F88.k4 {E0:Ks Prop}:IR.run F88.b4 C N ((fnO F88.res K0).blk 0 E0) K (F88.fr b c g e f i) h nx =
 zS 1 b e fun v1=>zF v1 h fun v2=>zS 1 c e fun v3=>zF v3 h fun v4=>zx .neq .int v2 v4 fun v5=>yD v5 (zS 1 b e fun v6=>zF v6 h fun v7=>zS 1 c e fun v8=>zF v8 h fun v9=>zx .lss .int v7 v9 fun vA=>K0 vA h nx) (zx .add .int e (I 1) fun vB=>K (F88.fr b c g vB f v5) h nx):=by kernel_rfl
theorem uf.rQ (X2:IR) (O:uq Prop) (t:T AV):IR.run (uf.g1 X2) C N O K t h nx=IR.run X2 C N (O.blk 0 K) K t h nx:=by kernel_rfl
theorem uf.tab:T.get none (.of 201) tbl=some uf:=by kernel_rfl
theorem uf.go:zV tbl N C (.of 201) [a0,a1] h nx K0 =
 sLen a0 fun v1=>IR.run uf.b1 C N (fnO uf.res K0) (IR.run uf.b9 C N (fnO uf.res K0) (gq uf.res K0)) (uf.fr a0 a1 (I 0) .undef .undef .undef .undef a0 v1 (I 0) .undef .undef .undef .undef) h nx:=by
 rw [zJ uf.tab];kernel_rfl
theorem uf.L1 (Inv:Nat->AV->T Blk->Pa->Prop) {m:Nat} (hm:m<N) (hi:Inv m s h nx)
  (step:∀ (m:Nat) (z2 z3 z4 z5 z6 z9 zI zA zB:AV) (h:T Blk) (nx:Pa) (R:Ks Prop),Inv m z9 h nx->(∀ (m':Nat) (w2 w3 w4 w5 w6 w9 wH wA wB:AV) (h':T Blk) (nx':Pa),m'<m->Inv m' w9 h' nx'->R (uf.fr b c w2 w3 w4 w5 w6 q p w9 wH wA wB u) h' nx'=.ok True) ->
   (zx .lss .int z9 p fun v1=>yD v1 (zS 1 q z9 fun v2=>zF v2 h fun v3=>sLen c fun v4=>zx .geq .int z9 v4 fun v5=>yD v5 (K0 (I 1) h nx) (zS 1 c z9 fun v6=>zF v6 h fun v7=>C.fn 244 (.of 244) [v3,v7] h nx fun v8 h9 nH=>zx .neq .int v8 (I 0) fun vB=>yD vB (K0 v8 h9 nH) (zx .add .int z9 (I 1) fun vC=>R (uf.fr b c z2 z9 v3 v7 v8 q p vC v1 v5 vB u) h9 nH))) (K (uf.fr b c z2 z3 z4 z5 z6 q p z9 v1 zA zB u) h nx))=.ok True) :
  IR.run uf.b1 C N (fnO uf.res K0) K (uf.fr b c g e f i l q p s a d o u) h nx=.ok True:=by
 rw [uf.b1,uf.rQ,uf.b2];refine yK (fun m tm h nx=>∃ z2 z3 z4 z5 z6 z9 zI zA zB,tm=(uf.fr b c z2 z3 z4 z5 z6 q p z9 zI zA zB u)/\Inv m z9 h nx) ?_ hm ⟨_,_,_,_,_,_,_,_,_,rfl,hi⟩;rintro m tm h nx R ⟨z2,z3,z4,z5,z6,z9,zI,zA,zB,rfl,hi⟩ hR;refine Eq.trans ?_ (step m z2 z3 z4 z5 z6 z9 zI zA zB h nx R hi fun m' w2 w3 w4 w5 w6 w9 wH wA wB h' nx' hlt hi'=>hR m' _ h' nx' hlt ⟨_,_,_,_,_,_,_,_,_,rfl,hi'⟩)
 kernel_rfl
theorem uf.k9:IR.run uf.b9 C N (fnO uf.res K0) K (uf.fr b c g e f i l q p s a d o u) h nx =
 sLen b fun v1=>sLen c fun v2=>zx .lss .int v1 v2 fun v3=>yD v3 (K0 (I (-1)) h nx) (K0 (I 0) h nx):=by kernel_rfl
theorem rW.tab:T.get none (.of 244) tbl=some rW:=by kernel_rfl
theorem rW.go:zV tbl N C (.of 244) [a0,a1] h nx K0 =
 C.fn 250 (.of 250) [a0] h nx fun v1 h2 n3=>C.fn 250 (.of 250) [a1] h2 n3 fun v4 h5 n6=>yD v1 (yD v4 (K0 (I 0) h5 n6) (K0 (I (-1)) h5 n6)) (yD v4 (K0 (I 1) h5 n6) (zx .lss .int a0 a1 fun v7=>yD v7 (K0 (I (-1)) h5 n6) (zx .gtr .int a0 a1 fun v8=>yD v8 (K0 (I 1) h5 n6) (K0 (I 0) h5 n6)))):=by
 rw [zJ rW.tab];kernel_rfl
theorem F250.tab:T.get none (.of 250) tbl=some F250:=by kernel_rfl
theorem F250.go:zV tbl N C (.of 250) [a0] h nx K0 =
 zx .neq .int a0 a0 fun v1=>K0 v1 h nx:=by
 rw [zJ F250.tab];kernel_rfl
theorem F97.rQ (X2:IR) (O:uq Prop) (t:T AV):IR.run (F97.g1 X2) C N O K t h nx=IR.run X2 C N (O.blk 0 K) K t h nx:=by kernel_rfl
theorem F97.tab:T.get none (.of 97) tbl=some F97:=by kernel_rfl
theorem F97.go:zV tbl N C (.of 97) [a0,a1] h nx K0 =
 sLen a0 fun v1=>IR.run F97.b1 C N (fnO F97.res K0) (IR.run F97.b8 C N (fnO F97.res K0) (gq F97.res K0)) (F97.fr a0 a1 (I 0) .undef .undef a0 v1 (I 0) .undef .undef) h nx:=by
 rw [zJ F97.tab];kernel_rfl
theorem F97.L1 (Inv:Nat->AV->T Blk->Pa->Prop) {m:Nat} (hm:m<N) (hi:Inv m q h nx)
  (step:∀ (m:Nat) (z2 z3 z4 z7 z8 z9:AV) (h:T Blk) (nx:Pa) (R:Ks Prop),Inv m z7 h nx->(∀ (m':Nat) (w2 w3 w4 w7 w8 w9:AV) (h':T Blk) (nx':Pa),m'<m->Inv m' w7 h' nx'->R (F97.fr b c w2 w3 w4 i l w7 w8 w9) h' nx'=.ok True) ->
   (zx .lss .int z7 l fun v1=>yD v1 (zS 2 i z7 fun v2=>zK 2 v2 h fun v3=>yB [.zf,(.bool false)] h nx fun v4 h5 n6=>zM 2 v4 v3 h5 n6 fun v7 h8 n9=>zK 2 v4 h8 fun vA=>C.fn 56 (.of 56) [vA,c] h8 n9 fun vB hB nB=>zx .neq .int vB (I 0) fun vE=>yD vE (K0 vB hB nB) (zx .add .int z7 (I 1) fun vF=>R (F97.fr b c z2 v4 vB i l vF v1 vE) hB nB)) (K (F97.fr b c z2 z3 z4 i l z7 v1 z9) h nx))=.ok True) :
  IR.run F97.b1 C N (fnO F97.res K0) K (F97.fr b c g e f i l q p s) h nx=.ok True:=by
 rw [F97.b1,F97.rQ,F97.b2];refine yK (fun m tm h nx=>∃ z2 z3 z4 z7 z8 z9,tm=(F97.fr b c z2 z3 z4 i l z7 z8 z9)/\Inv m z7 h nx) ?_ hm ⟨_,_,_,_,_,_,rfl,hi⟩;rintro m tm h nx R ⟨z2,z3,z4,z7,z8,z9,rfl,hi⟩ hR;refine Eq.trans ?_ (step m z2 z3 z4 z7 z8 z9 h nx R hi fun m' w2 w3 w4 w7 w8 w9 h' nx' hlt hi'=>hR m' _ h' nx' hlt ⟨_,_,_,_,_,_,rfl,hi'⟩)
 kernel_rfl
theorem F97.k8:IR.run F97.b8 C N (fnO F97.res K0) K (F97.fr b c g e f i l q p s) h nx =
 K0 (I 0) h nx:=by kernel_rfl
theorem F90.tab:T.get none (.of 90) tbl=some F90:=by kernel_rfl
theorem F90.go:zV tbl N C (.of 90) [a0] h nx K0 =
 rP a0 h nx fun v1 h2 n3=>K0 (.fn 159 (.of 159) [v1]) h2 n3:=by
 rw [zJ F90.tab];kernel_rfl
theorem rX.tab:T.get none (.of 162) tbl=some rX:=by kernel_rfl
theorem rX.go:zV tbl N C (.of 162) [a0,a1] h nx K0 =
 rP a0 h nx fun v1 h2 n3=>rP a1 h2 n3 fun v4 h5 n6=>zQ 0 v1 fun v7=>zF v7 h5 fun v8=>zQ 0 v4 fun v9=>zF v9 h5 fun vA=>C.fn 201 (.of 201) [v8,vA] h5 n6 fun vB hB nB=>zx .neq .int vB (I 0) fun vE=>sG vE false (fun k=>zQ 1 v1 k) fun vF=>sG vE false (fun k=>zF vF hB k) fun vG=>sG vE false (fun k=>zQ 1 v4 k) fun vH=>sG vE false (fun k=>zF vH hB k) fun vI=>sG vE false (fun k=>zx .eql .bool vG vI k) fun vJ=>jS vE (.bool true) vJ fun vK=>yD vK (K0 vB hB nB) ((IR.run rX.b1 C N (fnO rX.res K0) (gq rX.res K0)) (rX.fr a0 a1 v1 v4 (I 0) vB vK .undef) hB nB):=by
 rw [zJ rX.tab];kernel_rfl
theorem rX.k1:IR.run rX.b1 C N (fnO rX.res K0) K (rX.fr b c g e f i l q) h nx =
 zQ 1 g fun v1=>zF v1 h fun v2=>yD v2 (K0 (I 1) h nx) (K0 (I (-1)) h nx):=by kernel_rfl
theorem F56.tab:T.get none (.of 56) tbl=some F56:=by kernel_rfl
theorem F56.go:zV tbl N C (.of 56) [a0,a1] h nx K0 =
 rP a0 h nx fun v1 h2 n3=>zQ 0 v1 fun v4=>zF v4 h2 fun v5=>sLen v5 fun v6=>zx .neq .int v6 a1 fun v7=>zQ 0 v1 fun v8=>zF v8 h2 fun v9=>C.fn 95 (.of 95) [a1] h2 n3 fun vA hG nG=>(zF v8 hG fun vV=>zL vV v9 ((zQ 0 v1 fun vW=>zL vW v8 ((zx .neq .int v6 a1 fun vX=>zL vX v7 (zL a1 a1 ((sLen v5 fun vY=>zL vY v6 ((zF v4 hG fun vZ=>zL vZ v5 ((zQ 0 v1 fun vP=>zL vP v4 (C.fn 96 (.of 96) [v7,(I 2)] hG nG fun vD hH nI=>(zF v8 hH fun vQ=>zL vQ v9 ((zQ 0 v1 fun vR=>zL vR v8 (C.fn 140 (.of 140) [v9] hH nI fun vG hF nF=>sNot vG fun vJ=>C.fn 96 (.of 96) [vJ,(I 14)] hF nF fun vK hI nJ=>jA 1 3 [(I 0)] [(0,1,vA),(1,1,vD),(2,1,vK)] hI nJ fun vN hE nE=>C.fn 94 (.of 94) [vN] hE nE fun vU hJ nK=>K0 vU hJ nK))))))))))))))))):=by
 rw [zJ F56.tab];kernel_rfl
theorem qy.rQ (X2:IR) (O:uq Prop) (t:T AV):IR.run (qy.g1 X2) C N O K t h nx=IR.run X2 C N (O.blk 0 K) K t h nx:=by kernel_rfl
theorem qy.tab:T.get none (.of 159) tbl=some qy:=by kernel_rfl
theorem qy.go:zV tbl N C (.of 159) [a0,a1] h nx K0 =
 zF a1 h fun v1=>sLen v1 fun v2=>IR.run qy.b1 C N (fnO qy.res K0) (gq qy.res K0) (qy.fr a0 a1 .undef .undef v1 v2 (I 0) .undef .undef) h nx:=by
 rw [zJ qy.tab];kernel_rfl
theorem qy.L1 (Inv:Nat->AV->T Blk->Pa->Prop) {m:Nat} (hm:m<N) (hi:Inv m l h nx)
  (step:∀ (m:Nat) (z2 z3 z6 z7 z8:AV) (h:T Blk) (nx:Pa) (R:Ks Prop),Inv m z6 h nx->(∀ (m':Nat) (w2 w3 w6 w7 w8:AV) (h':T Blk) (nx':Pa),m'<m->Inv m' w6 h' nx'->R (qy.fr b c w2 w3 f i w6 w7 w8) h' nx'=.ok True) ->
   (zx .lss .int z6 i fun v1=>yD v1 (zS 2 f z6 fun v2=>zK 2 v2 h fun v3=>yB [.zf,(.bool false)] h nx fun v4 h5 n6=>zM 2 v4 v3 h5 n6 fun v7 h8 n9=>zK 2 v4 h8 fun vA=>bE C b [z6,vA] h8 n9 fun vB hB nB=>sNot vB fun vE=>yD vE (K0 (.tup []) hB nB) (zx .add .int z6 (I 1) fun vF=>R (qy.fr b c z6 v4 f i vF v1 vE) hB nB)) (K (qy.fr b c z2 z3 f i z6 v1 z8) h nx))=.ok True) :
  IR.run qy.b1 C N (fnO qy.res K0) K (qy.fr b c g e f i l q p) h nx=.ok True:=by
 rw [qy.b1,qy.rQ,qy.b2];refine yK (fun m tm h nx=>∃ z2 z3 z6 z7 z8,tm=(qy.fr b c z2 z3 f i z6 z7 z8)/\Inv m z6 h nx) ?_ hm ⟨_,_,_,_,_,rfl,hi⟩;rintro m tm h nx R ⟨z2,z3,z6,z7,z8,rfl,hi⟩ hR;refine Eq.trans ?_ (step m z2 z3 z6 z7 z8 h nx R hi fun m' w2 w3 w6 w7 w8 h' nx' hlt hi'=>hR m' _ h' nx' hlt ⟨_,_,_,_,_,rfl,hi'⟩)
 kernel_rfl
theorem qc.rQ (X2:IR) (O:uq Prop) (t:T AV):IR.run (qc.g1 X2) C N O K t h nx=IR.run X2 C N (O.blk 0 K) K t h nx:=by kernel_rfl
theorem qc.tab:T.get none (.of 163) tbl=some qc:=by kernel_rfl
theorem qc.go:zV tbl N C (.of 163) [a0] h nx K0 =
 yB [.zf,(.bool false)] h nx fun v1 h2 n3=>gU 1 8 [(I 0)] a0 a0 h2 n3 fun v4 h5 n6=>gO [.zf,(.bool false)] [(0,1,v4)] fun v7=>yB [.zf,(.bool false)] h5 n6 fun v8 h9 nH=>zM 2 v8 v7 h9 nH fun vB hB nB=>zQ 0 v8 fun vE=>zF vE hB fun vF=>sLen vF fun vG=>IR.run qc.b1 C N (fnO qc.res K0) (IR.run qc.b8 C N (fnO qc.res K0) (gq qc.res K0)) (qc.fr a0 v1 v8 .undef vG (I 0) .undef) hB nB:=by
 rw [zJ qc.tab];kernel_rfl
theorem qc.L1 (Inv:Nat->AV->T Blk->Pa->Prop) {m:Nat} (hm:m<N) (hi:Inv m i h nx)
  (step:∀ (m:Nat) (z3 z5 z6:AV) (h:T Blk) (nx:Pa) (R:Ks Prop),Inv m z5 h nx->(∀ (m':Nat) (w3 w5 w6:AV) (h':T Blk) (nx':Pa),m'<m->Inv m' w5 h' nx'->R (qc.fr b c g w3 f w5 w6) h' nx'=.ok True) ->
   (zx .lss .int z5 f fun v1=>yD v1 (zQ 0 g fun v2=>zF v2 h fun v3=>zS 1 v3 z5 fun v4=>zM 1 v4 z5 h nx fun v5 h6 n7=>zx .add .int z5 (I 1) fun v8=>R (qc.fr b c g z5 f v8 v1) h6 n7) (K (qc.fr b c g z3 f z5 v1) h nx))=.ok True) :
  IR.run qc.b1 C N (fnO qc.res K0) K (qc.fr b c g e f i l) h nx=.ok True:=by
 rw [qc.b1,qc.rQ,qc.b2];refine yK (fun m tm h nx=>∃ z3 z5 z6,tm=(qc.fr b c g z3 f z5 z6)/\Inv m z5 h nx) ?_ hm ⟨_,_,_,rfl,hi⟩;rintro m tm h nx R ⟨z3,z5,z6,rfl,hi⟩ hR;refine Eq.trans ?_ (step m z3 z5 z6 h nx R hi fun m' w3 w5 w6 h' nx' hlt hi'=>hR m' _ h' nx' hlt ⟨_,_,_,rfl,hi'⟩)
 kernel_rfl
theorem qc.k8:IR.run qc.b8 C N (fnO qc.res K0) K (qc.fr b c g e f i l) h nx =
 zK 2 g h fun v1=>zM 2 c v1 h nx fun v2 h3 n4=>zK 2 c h3 fun v5=>K0 v5 h3 n4:=by kernel_rfl
theorem uy.rQ (X2:IR) (O:uq Prop) (t:T AV):IR.run (uy.g1 X2) C N O K t h nx=IR.run X2 C N (O.blk 0 K) K t h nx:=by kernel_rfl
theorem uy.tab:T.get none (.of 123) tbl=some uy:=by kernel_rfl
theorem uy.go:zV tbl N C (.of 123) [a0] h nx K0 =
 rP a0 h nx fun v1 h2 n3=>zQ 0 v1 fun v4=>zF v4 h2 fun v5=>sLen v5 fun v6=>zx .add .int v6 (I 1) fun v7=>gU 1 1 [(.int .u8 0)] (I 0) v7 h2 n3 fun v8 h9 nH=>zQ 0 v1 fun vB=>zF vB h9 fun vC=>sLen vC fun vD=>IR.run uy.b1 C N (fnO uy.res K0) (IR.run uy.b8 C N (fnO uy.res K0) (gq uy.res K0)) (uy.fr a0 v1 (.str []) v8 .undef vC vD (I 0) .undef .undef) h9 nH:=by
 rw [zJ uy.tab];kernel_rfl
theorem uy.L1 (Inv:Nat->AV->AV->T Blk->Pa->Prop) {m:Nat} (hm:m<N) (hi:Inv m e q h nx)
  (step:∀ (m:Nat) (z3 z4 z7 z8:AV) (h:T Blk) (nx:Pa) (R:Ks Prop),Inv m z3 z7 h nx->(∀ (m':Nat) (w3 w4 w7 w8:AV) (h':T Blk) (nx':Pa),m'<m->Inv m' w3 w7 h' nx'->R (uy.fr b c g w3 w4 i l w7 w8 s) h' nx'=.ok True) ->
   (zx .lss .int z7 l fun v1=>yD v1 (zS 1 i z7 fun v2=>zF v2 h fun v3=>zfl .u8 v3 fun v4=>jA 1 1 [(.int .u8 0)] [(0,1,v4)] h nx fun v5 h6 n7=>tX 1 1 z3 v5 h6 n7 fun v8 h9 nH=>zx .add .int z7 (I 1) fun vB=>R (uy.fr b c g v8 v3 i l vB v1 s) h9 nH) (K (uy.fr b c g z3 z4 i l z7 v1 s) h nx))=.ok True) :
  IR.run uy.b1 C N (fnO uy.res K0) K (uy.fr b c g e f i l q p s) h nx=.ok True:=by
 rw [uy.b1,uy.rQ,uy.b2];refine yK (fun m tm h nx=>∃ z3 z4 z7 z8,tm=(uy.fr b c g z3 z4 i l z7 z8 s)/\Inv m z3 z7 h nx) ?_ hm ⟨_,_,_,_,rfl,hi⟩;rintro m tm h nx R ⟨z3,z4,z7,z8,rfl,hi⟩ hR;refine Eq.trans ?_ (step m z3 z4 z7 z8 h nx R hi fun m' w3 w4 w7 w8 h' nx' hlt hi'=>hR m' _ h' nx' hlt ⟨_,_,_,_,rfl,hi'⟩)
 kernel_rfl
theorem uy.k8:IR.run uy.b8 C N (fnO uy.res K0) K (uy.fr b c g e f i l q p s) h nx =
 zQ 1 c fun v1=>zF v1 h fun v2=>yD v2 (jA 1 1 [(.int .u8 0)] [(0,1,(.int .u8 1))] h nx fun v3 h4 n5=>tX 1 1 e v3 h4 n5 fun v6 h7 n8=>sB2s v6 h7 fun v9=>K0 v9 h7 n8) (sB2s e h fun vA=>K0 vA h nx):=by kernel_rfl
theorem F121.tab:T.get none (.of 121) tbl=some F121:=by kernel_rfl
theorem F121.go:zV tbl N C (.of 121) [a0,a1] h nx K0 =
 rP a1 h nx fun v1 h2 n3=>zK 2 v1 h2 fun v4=>C.fn 123 (.of 123) [v4] h2 n3 fun v5 h6 n7=>zmw .str (.agg [.zf,(.bool false)]) true a0 v5 h6 fun v8=>bY 0 v8 fun v9=>bY 1 v8 fun vA=>yB [.zf,(.bool false)] h6 n7 fun vB hB nB=>zM 2 vB v9 hB nB fun vE hA nA=>K0 vA hA nA:=by
 rw [zJ F121.tab];kernel_rfl
theorem qg.rQ (X2:IR) (O:uq Prop) (t:T AV):IR.run (qg.g1 X2) C N O K t h nx=IR.run X2 C N (O.blk 0 K) K t h nx:=by kernel_rfl
theorem qg.tab:T.get none (.of 122) tbl=some qg:=by kernel_rfl
theorem qg.go:zV tbl N C (.of 122) [a0,a1] h nx K0 =
 rP a0 h nx fun v1 h2 n3=>rP a1 h2 n3 fun v4 h5 n6=>yB [.zf,(.bool false)] h5 n6 fun v7 h8 n9=>sChk (true&&true) (zQ 0 v4 fun vA=>zF vA h8 fun vB=>sLen vB fun vC=>sChk (mkSl 8 vC vC&&true) (zQ 1 v1 fun vD=>zF vD h8 fun vE=>zQ 1 v4 fun vF=>zF vF h8 fun vG=>zx .neq .bool vE vG fun vH=>gU 1 8 [(I 0)] vC vC h8 n9 fun vI hK nL=>(zx .neq .bool vE vG fun v47=>zL v47 vH ((zF vF hK fun v46=>zL v46 vG ((zQ 1 v4 fun v45=>zL v45 vF ((zF vD hK fun v44=>zL v44 vE ((zQ 1 v1 fun v43=>zL v43 vD ((sLen vB fun v42=>zL v42 vC ((zF vA hK fun v41=>zL v41 vB ((zQ 0 v4 fun v40=>zL v40 vA (gO [.zf,(.bool false)] [(0,1,vI),(1,1,vH)] fun vL=>yB [.zf,(.bool false)] hK nL fun vM hL nM=>(gO [.zf,(.bool false)] [(0,1,vI),(1,1,vH)] fun v39=>zL v39 vL ((zx .neq .bool vE vG fun v38=>zL v38 vH ((zF vF hL fun v37=>zL v37 vG ((zQ 1 v4 fun vV=>zL vV vF ((zF vD hL fun vW=>zL vW vE ((zQ 1 v1 fun vX=>zL vX vD ((sLen vB fun vY=>zL vY vC ((zF vA hL fun vZ=>zL vZ vB ((zQ 0 v4 fun vP=>zL vP vA (zM 2 vM vL hL nM fun v25 hM nN=>zQ 0 v4 fun vS=>zF vS hM fun vR=>sLen vR fun vQ=>IR.run qg.b1 C N (fnO qg.res K0) (IR.run qg.b8 C N (fnO qg.res K0) (gq qg.res K0)) (qg.fr a0 a1 v1 v4 v7 vM .undef .undef vR vQ (I 0) .undef) hM nN)))))))))))))))))))))))))))))))))))):=by
 rw [zJ qg.tab];kernel_rfl
theorem qg.L1 (Inv:Nat->AV->T Blk->Pa->Prop) {m:Nat} (hm:m<N) (hi:Inv m a h nx)
  (step:∀ (m:Nat) (z6 z7 zI zA:AV) (h:T Blk) (nx:Pa) (R:Ks Prop),Inv m zI h nx->(∀ (m':Nat) (w6 w7 wH wA:AV) (h':T Blk) (nx':Pa),m'<m->Inv m' wH h' nx'->R (qg.fr b c g e f i w6 w7 p s wH wA) h' nx'=.ok True) ->
   (zx .lss .int zI s fun v1=>yD v1 (zS 1 p zI fun v2=>zF v2 h fun v3=>zQ 0 i fun v4=>zF v4 h fun v5=>zQ 0 g fun v6=>zF v6 h fun v7=>zS 1 v7 v3 fun v8=>zF v8 h fun v9=>zS 1 v5 zI fun vA=>zM 1 vA v9 h nx fun vB hB nB=>zx .add .int zI (I 1) fun vE=>R (qg.fr b c g e f i zI v3 p s vE v1) hB nB) (K (qg.fr b c g e f i z6 z7 p s zI v1) h nx))=.ok True) :
  IR.run qg.b1 C N (fnO qg.res K0) K (qg.fr b c g e f i l q p s a d) h nx=.ok True:=by
 rw [qg.b1,qg.rQ,qg.b2];refine yK (fun m tm h nx=>∃ z6 z7 zI zA,tm=(qg.fr b c g e f i z6 z7 p s zI zA)/\Inv m zI h nx) ?_ hm ⟨_,_,_,_,rfl,hi⟩;rintro m tm h nx R ⟨z6,z7,zI,zA,rfl,hi⟩ hR;refine Eq.trans ?_ (step m z6 z7 zI zA h nx R hi fun m' w6 w7 wH wA h' nx' hlt hi'=>hR m' _ h' nx' hlt ⟨_,_,_,_,rfl,hi'⟩)
 kernel_rfl
theorem qg.k8:IR.run qg.b8 C N (fnO qg.res K0) K (qg.fr b c g e f i l q p s a d) h nx =
 zK 2 i h fun v1=>zM 2 f v1 h nx fun v2 h3 n4=>zK 2 f h3 fun v5=>K0 v5 h3 n4:=by kernel_rfl
theorem F140.tab:T.get none (.of 140) tbl=some F140:=by kernel_rfl
theorem F140.go:zV tbl N C (.of 140) [a0] h nx K0 =
 C.fn 198 (.of 198) [a0] h nx fun v1 h2 n3=>zx .eql .int v1 (I 0) fun v4=>K0 v4 h2 n3:=by
 rw [zJ F140.tab];kernel_rfl
theorem jq.zaw (X3:IR) (O:uq Prop) (t:T AV):IR.run (jq.g2 X3) C N O K t h nx=IR.run X3 C N (O.blk 0 K) K t h nx:=by kernel_rfl
theorem jq.tab:T.get none (.of 198) tbl=some jq:=by kernel_rfl
theorem jq.go:zV tbl N C (.of 198) [a0] h nx K0 =
 sLen a0 fun v1=>zx .gtr .int v1 (I 256) fun v2=>yD v2 (K0 (I 5) h nx) (sLen a0 fun v3=>gU 1 1 [(.bool false)] v3 v3 h nx fun v4 h5 n6=>sLen a0 fun v7=>IR.run jq.b2 C N (fnO jq.res K0) (IR.run jq.b10 C N (fnO jq.res K0) (gq jq.res K0)) (jq.fr a0 (I 0) v4 .undef v2 a0 v7 (I 0) .undef .undef) h5 n6):=by
 rw [zJ jq.tab];kernel_rfl
theorem jq.L2 (Inv:Nat->AV->T Blk->Pa->Prop) {m:Nat} (hm:m<N) (hi:Inv m q h nx)
  (step:∀ (m:Nat) (z1 z3 z7 z8 z9:AV) (h:T Blk) (nx:Pa) (R:Ks Prop),Inv m z7 h nx->(∀ (m':Nat) (w1 w3 w7 w8 w9:AV) (h':T Blk) (nx':Pa),m'<m->Inv m' w7 h' nx'->R (jq.fr b w1 g w3 f i l w7 w8 w9) h' nx'=.ok True) ->
   (zx .lss .int z7 l fun v1=>yD v1 (zS 1 i z7 fun v2=>zF v2 h fun v3=>zx .lss .int v3 (I 0) fun v4=>sG v4 false (fun k=>k v3) fun v5=>sG v4 false (fun k=>k b) fun v6=>sG v4 false (fun k=>sLen v6 k) fun v7=>sG v4 false (fun k=>zx .geq .int v5 v7 k) fun v8=>jS v4 (.bool true) v8 fun v9=>sG v9 false (fun k=>k g) fun vA=>sG v9 false (fun k=>k v3) fun vB=>sG v9 false (fun k=>zS 1 vA vB k) fun vC=>sG v9 false (fun k=>zF vC h k) fun vD=>jS v9 (.bool true) vD fun vE=>yD vE (K0 (I 14) h nx) ((IR.run jq.b8 C N (((fnO jq.res K0).blk 0 K).blk 1 (IR.run jq.b9 C N ((fnO jq.res K0).blk 0 K) R)) (IR.run jq.b9 C N ((fnO jq.res K0).blk 0 K) R)) (jq.fr b z1 g v3 f i l z7 v1 vE) h nx)) (K (jq.fr b z1 g z3 f i l z7 v1 z9) h nx))=.ok True) :
  IR.run jq.b2 C N (fnO jq.res K0) K (jq.fr b c g e f i l q p s) h nx=.ok True:=by
 rw [jq.b2,jq.zaw,jq.b3];refine yK (fun m tm h nx=>∃ z1 z3 z7 z8 z9,tm=(jq.fr b z1 g z3 f i l z7 z8 z9)/\Inv m z7 h nx) ?_ hm ⟨_,_,_,_,_,rfl,hi⟩;rintro m tm h nx R ⟨z1,z3,z7,z8,z9,rfl,hi⟩ hR;refine Eq.trans ?_ (step m z1 z3 z7 z8 z9 h nx R hi fun m' w1 w3 w7 w8 w9 h' nx' hlt hi'=>hR m' _ h' nx' hlt ⟨_,_,_,_,_,rfl,hi'⟩)
 kernel_rfl
theorem jq.k10:IR.run jq.b10 C N (fnO jq.res K0) K (jq.fr b c g e f i l q p s) h nx =
 K0 (I 0) h nx:=by kernel_rfl
theorem jq.k9 {E0:Ks Prop}:IR.run jq.b9 C N ((fnO jq.res K0).blk 0 E0) K (jq.fr b c g e f i l q p s) h nx =
 zx .add .int q (I 1) fun v1=>K (jq.fr b c g e f i l v1 p s) h nx:=by kernel_rfl
theorem jq.k8 {E0 E1:Ks Prop}:IR.run jq.b8 C N (((fnO jq.res K0).blk 0 E0).blk 1 E1) K (jq.fr b c g e f i l q p s) h nx =
 zS 1 g e fun v1=>zM 1 v1 (.bool true) h nx fun v2 h3 n4=>K (jq.fr b c g e f i l q p s) h3 n4:=by kernel_rfl
theorem F94.rQ (X2:IR) (O:uq Prop) (t:T AV):IR.run (F94.g1 X2) C N O K t h nx=IR.run X2 C N (O.blk 0 K) K t h nx:=by kernel_rfl
theorem F94.tab:T.get none (.of 94) tbl=some F94:=by kernel_rfl
theorem F94.go:zV tbl N C (.of 94) [a0] h nx K0 =
 sLen a0 fun v1=>IR.run F94.b1 C N (fnO F94.res K0) (IR.run F94.b8 C N (fnO F94.res K0) (gq F94.res K0)) (F94.fr a0 (I 0) .undef a0 v1 (I 0) .undef .undef) h nx:=by
 rw [zJ F94.tab];kernel_rfl
theorem F94.L1 (Inv:Nat->AV->T Blk->Pa->Prop) {m:Nat} (hm:m<N) (hi:Inv m i h nx)
  (step:∀ (m:Nat) (z1 z2 z5 z6 z7:AV) (h:T Blk) (nx:Pa) (R:Ks Prop),Inv m z5 h nx->(∀ (m':Nat) (w1 w2 w5 w6 w7:AV) (h':T Blk) (nx':Pa),m'<m->Inv m' w5 h' nx'->R (F94.fr b w1 w2 e f w5 w6 w7) h' nx'=.ok True) ->
   (zx .lss .int z5 f fun v1=>yD v1 (zS 1 e z5 fun v2=>zF v2 h fun v3=>zx .neq .int v3 (I 0) fun v4=>yD v4 (K0 v3 h nx) (zx .add .int z5 (I 1) fun v5=>R (F94.fr b z1 v3 e f v5 v1 v4) h nx)) (K (F94.fr b z1 z2 e f z5 v1 z7) h nx))=.ok True) :
  IR.run F94.b1 C N (fnO F94.res K0) K (F94.fr b c g e f i l q) h nx=.ok True:=by
 rw [F94.b1,F94.rQ,F94.b2];refine yK (fun m tm h nx=>∃ z1 z2 z5 z6 z7,tm=(F94.fr b z1 z2 e f z5 z6 z7)/\Inv m z5 h nx) ?_ hm ⟨_,_,_,_,_,rfl,hi⟩;rintro m tm h nx R ⟨z1,z2,z5,z6,z7,rfl,hi⟩ hR;refine Eq.trans ?_ (step m z1 z2 z5 z6 z7 h nx R hi fun m' w1 w2 w5 w6 w7 h' nx' hlt hi'=>hR m' _ h' nx' hlt ⟨_,_,_,_,_,rfl,hi'⟩)
 kernel_rfl
theorem F94.k8:IR.run F94.b8 C N (fnO F94.res K0) K (F94.fr b c g e f i l q) h nx =
 K0 (I 0) h nx:=by kernel_rfl
theorem F95.tab:T.get none (.of 95) tbl=some F95:=by kernel_rfl
theorem F95.go:zV tbl N C (.of 95) [a0] h nx K0 =
 zx .lss .int a0 (I 0) fun v1=>sG v1 false (fun k=>k a0) fun v2=>sG v1 false (fun k=>zx .gtr .int v2 (I 256) k) fun v3=>jS v1 (.bool true) v3 fun v4=>C.fn 96 (.of 96) [v4,(I 3)] h nx fun v5 h6 n7=>K0 v5 h6 n7:=by
 rw [zJ F95.tab];kernel_rfl
theorem F96.tab:T.get none (.of 96) tbl=some F96:=by kernel_rfl
theorem F96.go:zV tbl N C (.of 96) [a0,a1] h nx K0 =
 yD a0 (K0 a1 h nx) (K0 (I 0) h nx):=by
 rw [zJ F96.tab];kernel_rfl
theorem F98.zt9 (X14:IR) (O:uq Prop) (t:T AV):IR.run (F98.g13 X14) C N O K t h nx=IR.run X14 C N (O.blk 4 K) K t h nx:=by kernel_rfl
theorem F98.zmx (X8:IR) (O:uq Prop) (t:T AV):IR.run (F98.g7 X8) C N O K t h nx=IR.run X8 C N (O.blk 2 K) K t h nx:=by kernel_rfl
theorem F98.tab:T.get none (.of 98) tbl=some F98:=by kernel_rfl
theorem F98.go:zV tbl N C (.of 98) [a0,a1,a2] h nx K0 =
 rP a2 h nx fun v1 h2 n3=>yB [.ug] h2 n3 fun v4 h5 n6=>yB [.zf] h5 n6 fun v7 h8 n9=>yB [(.bool false)] h8 n9 fun vA hG nG=>C.fn 163 (.of 163) [a1] hG nG fun vD hH nI=>yB [.zf,(.bool false)] hH nI fun vG hF nF=>zM 2 vG vD hF nF fun vJ hD nD=>sChk (true&&(true&&true)) (zK 2 vG hD fun vM=>zK 2 vG hD fun vN=>C.fn 123 (.of 123) [vM] hD nD fun vO hC nC=>(zK 2 vG hC fun v52=>zL v52 vN ((zK 2 vG hC fun v51=>zL v51 vM (zax hC nC fun vT hN nO=>(zK 2 vG hN fun v50=>zL v50 vN ((zK 2 vG hN fun v49=>zL v49 vM (mM .str vT vO vN hN nO fun vQ hO nP=>(zK 2 vG hO fun v48=>zL v48 vN ((zK 2 vG hO fun v47=>zL v47 vM (yB [.ug] hO nP fun vY hP nQ=>zL vT vT ((zK 2 vG hP fun v46=>zL v46 vN ((zK 2 vG hP fun v45=>zL v45 vM (zM 1 vY vT hP nQ fun vV hQ nR=>yB [.zf] hQ nR fun v39 hS nS=>C.fn 90 (.of 90) [a0] hS nS fun v42 hT nT=>IR.run (.rf (.t (.of 14)) [(.of 15),(.of 16)] F98.b3 F98.b4) C N ((fnO F98.res K0).blk 0 (IR.run F98.b23 C N (fnO F98.res K0) (gq F98.res K0))) (IR.run F98.b23 C N (fnO F98.res K0) (gq F98.res K0)) (F98.fr a0 a1 a2 v1 v4 v7 vA vG vY v39 .undef .undef .undef .undef v42 .undef .undef .undef .undef .undef .undef .undef .undef .undef .undef) hT nT)))))))))))))))))):=by
 rw [zJ F98.tab];kernel_rfl
theorem F98.k23:IR.run F98.b23 C N (fnO F98.res K0) K (F98.fr b c g e f i l q p s a d o u v w y z A B D E F G H) h nx =
 zF p h fun v1=>zF s h fun v2=>zM 1 f v1 h nx fun v3 h4 n5=>(zF s h4 fun vF=>zL vF v2 (zM 1 i v2 h4 n5 fun v6 h7 n8=>zM 1 l (.bool true) h7 n8 fun v9 hU nU=>zF f hU fun vC=>zF i hU fun vD=>zF l hU fun vE=>K0 (.tup [vC,vD,vE]) hU nU)):=by kernel_rfl
theorem F98.p4 {N:Nat} {C:Calls Prop} {K0:Kw Prop} {id nx:Pa} {j:Jump} {h:T Blk} {b c g e f i l q p s a d o u v w y z A B D E F G H z0 z1:AV} (hl:T.get .no id h=.loop .ready j (F98.fr b c g e f i l q p s a d o u v w y z A B D E F G H) [.of 15,.of 16] F98.b3 F98.b4) :
 wM N C id [z0,z1] h nx K0 =
 yB [.zf,(.bool false)] h nx fun v1 h2 n3=>zM 2 v1 z1 h2 n3 fun v4 h5 n6=>rMid N C id K0 F98.b4 (F98.fr b c g e f i l q p s v1 d o u v z0 z1 z A B D E F G H) h5 n6:=by
 rw [zed hl (tm1:=(F98.fr b c g e f i l q p s a d o u v z0 z1 z A B D E F G H)) (by intro k;kernel_rfl)];kernel_rfl
theorem F98.y4 {N:Nat} {C:Calls Prop} {K0:Kw Prop} {id nx:Pa} {h:T Blk} {b c g e f i l q p s a d o u v w y z A B D E F G H:AV} :
 IR.run F98.b4 C N (rO id K0) (yT id K0 .none true) (F98.fr b c g e f i l q p s a d o u v w y z A B D E F G H) h nx =
 zF p h fun v1=>zK 2 a h fun v2=>C.fn 121 (.of 121) [v1,v2] h nx fun v3 h4 n5=>yD v3 (yT id K0 .none true .e h4 n5) (zF s h4 fun v6=>zK 2 a h4 fun v7=>jA 2 1 [.zf,(.bool false)] [(0,2,v7)] h4 n5 fun v8 h9 nH=>dN C 2 32 v6 v8 h9 nH fun vB hB nB=>zM 1 s vB hB nB fun vE hA nA=>sChk (true&&true) (zK 2 q hA fun vH=>zK 2 q hA fun vI=>C.fn 123 (.of 123) [vH] hA nA fun vJ hD nD=>(zK 2 q hD fun v38=>zL v38 vI ((zK 2 q hD fun v37=>zL v37 vH (zax hD nD fun vM hL nM=>(zK 2 q hL fun vV=>zL vV vI ((zK 2 q hL fun vW=>zL vW vH (mM .str vM vJ vI hL nM fun v25 hM nN=>zM 1 p vM hM nN fun vS hV nV=>zK 2 q hV fun vP=>jA 2 1 [.zf,(.bool false)] [(0,2,vP)] hV nV fun vZ hW nW=>IR.run F98.b7 C N ((rO id K0).blk 1 (yT id K0 .none true)) (yT id K0 .none true) (F98.fr b c g e f i l q p s a vZ o u v w y v3 A B D E F G H) hW nW)))))))))):=by kernel_rfl
theorem F98.L7 {id:Pa} {E1:Ks Prop} (Inv:Nat->AV->T Blk->Pa->Prop) {m:Nat} (hm:m<N) (hi:Inv m d h nx)
  (step:∀ (m:Nat) (zA zB zC zN zO zP zR zT zU zW:AV) (h:T Blk) (nx:Pa) (R:Ks Prop),Inv m zA h nx->(∀ (m':Nat) (wA wB wC wI wJ wK wL wN wO wP:AV) (h':T Blk) (nx':Pa),m'<m->Inv m' wA h' nx'->R (F98.fr b c g e f i l q p s a wA wB wC v w y z wI wJ wK wL wN wO wP) h' nx'=.ok True) ->
   (sLen zA fun v1=>zx .gtr .int v1 (I 0) fun v2=>yD v2 (zF s h fun v3=>sLen v3 fun v4=>IR.run F98.b13 C N ((((rO id K0).blk 1 E1).blk 2 K).blk 3 (IR.run F98.b22 C N (((rO id K0).blk 1 E1).blk 2 K) R)) (IR.run F98.b22 C N (((rO id K0).blk 1 E1).blk 2 K) R) (F98.fr b c g e f i l q p s a zA zB zC v w y z v2 v3 v4 (I 0) zT zU zW) h nx) (K (F98.fr b c g e f i l q p s a zA zB zC v w y z v2 zO zP zR zT zU zW) h nx))=.ok True) :
  IR.run F98.b7 C N ((rO id K0).blk 1 E1) K (F98.fr b c g e f i l q p s a d o u v w y z A B D E F G H) h nx=.ok True:=by
 rw [F98.b7,F98.zmx,F98.b8];refine yK (fun m tm h nx=>∃ zA zB zC zN zO zP zR zT zU zW,tm=(F98.fr b c g e f i l q p s a zA zB zC v w y z zN zO zP zR zT zU zW)/\Inv m zA h nx) ?_ hm ⟨_,_,_,_,_,_,_,_,_,_,rfl,hi⟩;rintro m tm h nx R ⟨zA,zB,zC,zN,zO,zP,zR,zT,zU,zW,rfl,hi⟩ hR;refine Eq.trans ?_ (step m zA zB zC zN zO zP zR zT zU zW h nx R hi fun m' wA wB wC wI wJ wK wL wN wO wP h' nx' hlt hi'=>hR m' _ h' nx' hlt ⟨_,_,_,_,_,_,_,_,_,_,rfl,hi'⟩)
 kernel_rfl
theorem F98.k22 {id:Pa} {E1 E2:Ks Prop}:IR.run F98.b22 C N (((rO id K0).blk 1 E1).blk 2 E2) K (F98.fr b c g e f i l q p s a d o u v w y z A B D E F G H) h nx =
 jX 2 d (some (I 1)) none none fun v1=>K (F98.fr b c g e f i l q p s a v1 o u v w y z A B D E F G H) h nx:=by kernel_rfl
theorem F98.L13 {id:Pa} {E1 E2 E3:Ks Prop} (Inv:Nat->AV->AV->T Blk->Pa->Prop) {m:Nat} (hm:m<N) (hi:Inv m d E h nx)
  (step:∀ (m:Nat) (zA zB zC zR zT zU zW:AV) (h:T Blk) (nx:Pa) (R:Ks Prop),Inv m zA zR h nx->(∀ (m':Nat) (wA wB wC wL wN wO wP:AV) (h':T Blk) (nx':Pa),m'<m->Inv m' wA wL h' nx'->R (F98.fr b c g e f i l q p s a wA wB wC v w y z A B D wL wN wO wP) h' nx'=.ok True) ->
   (zx .lss .int zR D fun v1=>yD v1 (zS 2 B zR fun v2=>zK 2 v2 h fun v3=>yB [.zf,(.bool false)] h nx fun v4 h5 n6=>zM 2 v4 v3 h5 n6 fun v7 h8 n9=>sChk (true&&true) (zK 2 v4 h8 fun vA=>zS 2 zA (I 0) fun vB=>zK 2 vB h8 fun vC=>C.fn 122 (.of 122) [vA,vC] h8 n9 fun vD hH nI=>(zK 2 vB hH fun v65=>zL v65 vC ((zS 2 zA (I 0) fun v64=>zL v64 vB (zL zA zA ((zK 2 v4 hH fun v63=>zL v63 vA (yB [.zf,(.bool false)] hH nI fun vG hF nF=>(zK 2 vB hF fun v62=>zL v62 vC ((zS 2 zA (I 0) fun v61=>zL v61 vB (zL zA zA ((zK 2 v4 hF fun v60=>zL v60 vA (zM 2 vG vD hF nF fun vJ hD nD=>zF p hD fun vM=>zK 2 vG hD fun vN=>C.fn 121 (.of 121) [vM,vN] hD nD fun vO hC nC=>yD vO (zx .add .int zR (I 1) fun vT=>R (F98.fr b c g e f i l q p s a zA v4 vG v w y z A B D vT v1 vO zW) hC nC) (zF p hC fun vS=>zja vS hC fun vR=>zF e hC fun vQ=>zx .eql .int vR vQ fun vP=>yD vP (zM 1 f .ug hC nC fun vZ hW nW=>zM 1 i .zf hW nW fun vW hX nX=>zM 1 l (.bool false) hX nX fun v38 hY nY=>yT id K0 .ret false .e hY nY) (zF p hC fun v41=>zK 2 vG hC fun v42=>zK 2 vG hC fun v43=>C.fn 123 (.of 123) [v42] hC nC fun v44 hZ nZ=>(zK 2 vG hZ fun v59=>zL v59 v43 ((zF p hZ fun v58=>zL v58 v41 (mM .str v41 v44 v43 hZ nZ fun v47 h48 n49=>zK 2 vG h48 fun v50=>jA 2 1 [.zf,(.bool false)] [(0,2,v50)] h48 n49 fun v51 h52 n53=>dN C 2 32 zA v51 h52 n53 fun v54 h55 n56=>zx .add .int zR (I 1) fun v57=>R (F98.fr b c g e f i l q p s a v54 v4 vG v w y z A B D v57 v1 vO vP) h55 n56)))))))))))))))))))))) (K (F98.fr b c g e f i l q p s a zA zB zC v w y z A B D zR v1 zU zW) h nx))=.ok True) :
  IR.run F98.b13 C N ((((rO id K0).blk 1 E1).blk 2 E2).blk 3 E3) K (F98.fr b c g e f i l q p s a d o u v w y z A B D E F G H) h nx=.ok True:=by
 rw [F98.b13,F98.zt9,F98.b14];refine yK (fun m tm h nx=>∃ zA zB zC zR zT zU zW,tm=(F98.fr b c g e f i l q p s a zA zB zC v w y z A B D zR zT zU zW)/\Inv m zA zR h nx) ?_ hm ⟨_,_,_,_,_,_,_,rfl,hi⟩;rintro m tm h nx R ⟨zA,zB,zC,zR,zT,zU,zW,rfl,hi⟩ hR;refine Eq.trans ?_ (step m zA zB zC zR zT zU zW h nx R hi fun m' wA wB wC wL wN wO wP h' nx' hlt hi'=>hR m' _ h' nx' hlt ⟨_,_,_,_,_,_,_,rfl,hi'⟩)
 kernel_rfl
theorem F92.tab:T.get none (.of 92) tbl=some F92:=by kernel_rfl
theorem F92.go:zV tbl N C (.of 92) [a0,a1] h nx K0 =
 rP a0 h nx fun v1 h2 n3=>yB [.ug] h2 n3 fun v4 h5 n6=>yB [.zf] h5 n6 fun v7 h8 n9=>yB [(I 0)] h8 n9 fun vA hG nG=>zF v1 hG fun vD=>sLen vD fun vE=>zx .eql .int vE (I 0) fun vF=>zF v1 hG fun vG=>sLen vG fun vH=>zx .gtr .int vH (I 1536) fun vI=>C.fn 95 (.of 95) [a1] hG nG fun vJ hD nD=>(zx .gtr .int vH (I 1536) fun v76=>zL v76 vI ((sLen vG fun v75=>zL v75 vH ((zF v1 hD fun v74=>zL v74 vG ((zx .eql .int vE (I 0) fun v73=>zL v73 vF ((sLen vD fun v72=>zL v72 vE ((zF v1 hD fun v71=>zL v71 vD (C.fn 96 (.of 96) [vF,(I 12)] hD nD fun vM hL nM=>(zx .gtr .int vH (I 1536) fun v70=>zL v70 vI ((sLen vG fun v69=>zL v69 vH ((zF v1 hL fun v68=>zL v68 vG (C.fn 96 (.of 96) [vI,(I 5)] hL nM fun v25 hM nN=>jA 1 3 [(I 0)] [(0,1,vJ),(1,1,vM),(2,1,v25)] hM nN fun vS hV nV=>C.fn 94 (.of 94) [vS] hV nV fun vP h32 n33=>zx .neq .int vP (I 0) fun vX=>yD vX (zM 1 v4 .ug h32 n33 fun vW hX nX=>zM 1 v7 .zf hX nX fun v38 hY nY=>zM 1 vA vP hY nY fun v41 h42 n43=>zF v4 h42 fun v44=>zF v7 h42 fun v45=>zF vA h42 fun v46=>K0 (.tup [v44,v45,v46]) h42 n43) (zF v1 h32 fun v47=>C.fn 97 (.of 97) [v47,a1] h32 n33 fun v48 h49 n50=>zx .neq .int v48 (I 0) fun v51=>yD v51 (zM 1 v4 .ug h49 n50 fun v52 h53 n54=>zM 1 v7 .zf h53 n54 fun v55 h56 n57=>zM 1 vA v48 h56 n57 fun v58 h59 n60=>zF v4 h59 fun v61=>zF v7 h59 fun v62=>zF vA h59 fun v63=>K0 (.tup [v61,v62,v63]) h59 n60) (zF v1 h49 fun v64=>C.fn 90 (.of 90) [v64] h49 n50 fun v65 h66 n67=>IR.run (.rf (.t (.of 15)) [(.of 16),(.of 17)] F92.b5 F92.b6) C N ((fnO F92.res K0).blk 0 (IR.run F92.b8 C N (fnO F92.res K0) (gq F92.res K0))) (IR.run F92.b8 C N (fnO F92.res K0) (gq F92.res K0)) (F92.fr a0 a1 v1 v4 v7 vA vP v48 .undef .undef .undef .undef .undef vX v51 v65 .undef .undef .undef .undef) h66 n67)))))))))))))))))))):=by
 rw [zJ F92.tab];kernel_rfl
theorem F92.k8:IR.run F92.b8 C N (fnO F92.res K0) K (F92.fr b c g e f i l q p s a d o u v w y z A B) h nx =
 zF g h fun v1=>zF g h fun v2=>sLen v2 fun v3=>C.fn 98 (.of 98) [v1,c,v3] h nx fun v4 h5 n6=>bY 0 v4 fun v7=>bY 1 v4 fun v8=>bY 2 v4 fun v9=>sNot v9 fun vA=>sG vA false (fun k=>k v7) fun vB=>sG vA false (fun k=>zja vB h5 k) fun vC=>sG vA false (fun k=>zF g h5 k) fun vD=>sG vA false (fun k=>sLen vD k) fun vE=>sG vA false (fun k=>zx .neq .int vC vE k) fun vF=>jS vA (.bool true) vF fun vG=>yD vG (zM 1 e .ug h5 n6 fun vH h18 n19=>zM 1 f .zf h18 n19 fun vK hI nJ=>zM 1 i (I 28) hI nJ fun vN hE nE=>zF e hE fun vU=>zF f hE fun vT=>zF i hE fun vS=>K0 (.tup [vU,vT,vS]) hE nE) ((IR.run F92.b9 C N (fnO F92.res K0) K) (F92.fr b c g e f i l q p s v7 v8 v9 u v w y z A vG) h5 n6):=by kernel_rfl
theorem F92.p6 {N:Nat} {C:Calls Prop} {K0:Kw Prop} {id nx:Pa} {j:Jump} {h:T Blk} {b c g e f i l q p s a d o u v w y z A B z0 z1:AV} (hl:T.get .no id h=.loop .ready j (F92.fr b c g e f i l q p s a d o u v w y z A B) [.of 16,.of 17] F92.b5 F92.b6) :
 wM N C id [z0,z1] h nx K0 =
 yB [.zf,(.bool false)] h nx fun v1 h2 n3=>zM 2 v1 z1 h2 n3 fun v4 h5 n6=>rMid N C id K0 F92.b6 (F92.fr b c g e f i l q z0 v1 a d o u v w z0 z1 A B) h5 n6:=by
 rw [zed hl (tm1:=(F92.fr b c g e f i l q p s a d o u v w z0 z1 A B)) (by intro k;kernel_rfl)];kernel_rfl
theorem F92.y6 {N:Nat} {C:Calls Prop} {K0:Kw Prop} {id nx:Pa} {h:T Blk} {b c g e f i l q p s a d o u v w y z A B:AV} :
 IR.run F92.b6 C N (rO id K0) (yT id K0 .none true) (F92.fr b c g e f i l q p s a d o u v w y z A B) h nx =
 zx .gtr .int p (I 0) fun v1=>sG v1 true (fun k=>zF g h k) fun v2=>sG v1 true (fun k=>k p) fun v3=>sG v1 true (fun k=>zx .sub .int v3 (I 1) k) fun v4=>sG v1 true (fun k=>zS 2 v2 v4 k) fun v5=>sG v1 true (fun k=>zK 2 v5 h k) fun v6=>sG v1 true (fun k=>zK 2 s h k) fun v7=>sGW v1 true (fun k=>C.fn 162 (.of 162) [v6,v7] h nx k) h nx fun v8 h9 nH=>sG v1 true (fun k=>zx .geq .int v8 (I 0) k) fun vB=>jS v1 vB (.bool false) fun vC=>yD vC (zM 1 e .ug h9 nH fun vD hH nI=>zM 1 f .zf hH nI fun vG hF nF=>zM 1 i (I 11) hF nF fun vJ hD nD=>yT id K0 .ret false .e hD nD) (yT id K0 .none true .e h9 nH):=by kernel_rfl
theorem F92.k9:IR.run F92.b9 C N (fnO F92.res K0) K (F92.fr b c g e f i l q p s a d o u v w y z A B) h nx =
 zM 1 e a h nx fun v1 h2 n3=>zM 1 f d h2 n3 fun v4 h5 n6=>zM 1 i (I 0) h5 n6 fun v7 h8 n9=>zF e h8 fun vA=>zF f h8 fun vB=>zF i h8 fun vC=>K0 (.tup [vA,vB,vC]) h8 n9:=by kernel_rfl
theorem F22.tab:T.get none (.of 22) tbl=some F22:=by kernel_rfl
theorem F22.go:zV tbl N C (.of 22) [a0,a1] h nx K0 =
 C.fn 92 (.of 92) [a0,a1] h nx fun v1 h2 n3=>bY 0 v1 fun v4=>bY 1 v1 fun v5=>bY 2 v1 fun v6=>K0 v6 h2 n3:=by
 rw [zJ F22.tab];kernel_rfl
end Go.Ev
namespace Go.Ev
open Go Go.Proofs
set_option maxRecDepth 100000
section
variable {N:Nat} {C:Calls Prop} {K0:Kw Prop} {K:Ks Prop} {h:T Blk} {nx:Pa} {b c g e f i l q p s a d a0 a1:AV} {O:uq Prop} {tm:T AV} {Kt:KTm} {r:List RO} {s0 s1 s2 s3 s4 s5 s6 s7 s8 s9 s10 s11 s12 s13 s14 s15 s16 s17 s18 s19 s20 s21 s22 s23 s24 s25 s26 s27 s28 s29 s30 s31 s32 s33 s34 s35 s36 s37 s38 s39 s40 s41 s42 s43 s44 s45 s46 s47 s48 s49 s50 s51 s52 s53 s54 s55 s56 s57 s58 s59:AV}
def yg.t0:IR:=.reg [.w (.loc (.of 2)) none (.box (.t (.of 0))),.q (.of 3) (.mv (.c .zf))]
def yg.t1:IR:=.reg [.s (.mv (.t (.of 1))),.s (.len (.s 0)),.w .push none (.gy 1 8 [(I 0)] (.s 0) (.s 0)),.q (.of 4) (.mv (.s 0))]
def yg.t2:IR:=.reg [.q (.of 7) (.mv (.t (.of 1))),.q (.of 8) (.len (.t (.of 7))),.q (.of 9) (.mv (.c (I 0)))]
def yg.t3:IR:=.reg [.q (.of 10) (.bin .lss .int (.t (.of 9)) (.t (.of 8)))]
def yg.t4:IR:=.cond (.t (.of 10)) .skip (.exit 0)
def yg.t5:IR:=.reg [.s (.mv (.t (.of 9))),.s (.zo 1 (.t (.of 7)) (.t (.of 9))),.s (.load (.s 0)),.q (.of 5) (.mv (.s 2)),.q (.of 6) (.mv (.s 0))]
def yg.t6:IR:=.reg [.s (.zu 1 (.t (.of 2))),.q (.of 11) (.load (.s 0))]
def yg.t7:IR:=.reg [.s (.mv (.t (.of 1))),.s (.len (.s 0)),.s (.bin .add .int (.s 0) (.c (I 1))),.s (.mv (.t (.of 6))),.s (.bin .sub .int (.s 1) (.s 0)),.q (.of 6) (.mv (.s 0))]
def yg.t8:IR:=.cond (.t (.of 11)) yg.t7 .skip
def yg.t9:IR:=.seq yg.t6 yg.t8
def yg.t10:IR:=.reg [.s (.mv (.t (.of 4))),.s (.zu 0 (.t (.of 2))),.s (.load (.s 0)),.s (.mv (.t (.of 5))),.s (.zo 1 (.s 1) (.s 0)),.s (.load (.s 0)),.s (.mv (.t (.of 6))),.s (.zo 1 (.s 6) (.s 1)),.w .none none (.store 1 (.s 0) (.s 1))]
def yg.t11:IR:=.seq yg.t9 yg.t10
def yg.t12:IR:=.seq yg.t5 yg.t11
def yg.t13:IR:=.block 1 yg.t12
def yg.t14:IR:=.reg [.s (.bin .add .int (.t (.of 9)) (.c (I 1))),.q (.of 9) (.mv (.s 0))]
def yg.t15:IR:=.seq yg.t13 yg.t14
def yg.t16:IR:=.seq yg.t4 yg.t15
def yg.t17:IR:=.seq yg.t3 yg.t16
def yg.t18:IR:=.loop yg.t17
def yg.t19:IR:=.block 0 yg.t18
def yg.t20:IR:=.seq yg.t2 yg.t19
def yg.t21:IR:=.reg [.s (.mv (.t (.of 4))),.q (.of 3) (.mv (.s 0))]
def yg.t22:IR:=.seq yg.t21 .ret
def yg.t23:IR:=.seq yg.t20 yg.t22
def yg.t24:IR:=.seq yg.t1 yg.t23
def yg.t25:IR:=.seq yg.t0 yg.t24
theorem yg.xq:IR.run yg.t0 C N O K (yg.fr b c g e f i l q p s a d) h nx =
 rP b h nx fun v1 h2 n3=>K (yg.fr b c v1 .zf f i l q p s a d) h2 n3:=by kernel_rfl
theorem yg.xu:IR.run yg.t1 C N O K (yg.fr b c g e f i l q p s a d) h nx =
 sLen c fun v1=>gU 1 8 [(I 0)] v1 v1 h nx fun v2 h3 n4=>K (yg.fr b c g e v2 i l q p s a d) h3 n4:=by kernel_rfl
theorem yg.fO:IR.run yg.t2 C N O K (yg.fr b c g e f i l q p s a d) h nx =
 sLen c fun v1=>K (yg.fr b c g e f i l c v1 (I 0) a d) h nx:=by kernel_rfl
theorem yg.rY:IR.run yg.t3 C N O K (yg.fr b c g e f i l q p s a d) h nx =
 zx .lss .int s p fun v1=>K (yg.fr b c g e f i l q p s v1 d) h nx:=by kernel_rfl
theorem yg.v10:Arg.ev (.t (.of 10)) ⟨(yg.fr b c g e f i l q p s a d),[]⟩=a:=by kernel_rfl
theorem yg.t5_s:IR.run yg.t5 C N O K (yg.fr b c g e f i l q p s a d) h nx =
 zS 1 q s fun v1=>zF v1 h fun v2=>K (yg.fr b c g e f s v2 q p s a d) h nx:=by kernel_rfl
theorem yg.t6_s:IR.run yg.t6 C N O K (yg.fr b c g e f i l q p s a d) h nx =
 zQ 1 g fun v1=>zF v1 h fun v2=>K (yg.fr b c g e f i l q p s a v2) h nx:=by kernel_rfl
theorem yg.t7_s:IR.run yg.t7 C N O K (yg.fr b c g e f i l q p s a d) h nx =
 sLen c fun v1=>zx .add .int v1 (I 1) fun v2=>zx .sub .int v2 l fun v3=>K (yg.fr b c g e f i v3 q p s a d) h nx:=by kernel_rfl
theorem yg.v11:Arg.ev (.t (.of 11)) ⟨(yg.fr b c g e f i l q p s a d),[]⟩=d:=by kernel_rfl
theorem yg.sN:IR.run yg.t10 C N O K (yg.fr b c g e f i l q p s a d) h nx =
 zQ 0 g fun v1=>zF v1 h fun v2=>zS 1 v2 i fun v3=>zF v3 h fun v4=>zS 1 f v4 fun v5=>zM 1 v5 l h nx fun v6 h7 n8=>K (yg.fr b c g e f i l q p s a d) h7 n8:=by kernel_rfl
theorem yg.zas:IR.run yg.t14 C N O K (yg.fr b c g e f i l q p s a d) h nx =
 zx .add .int s (I 1) fun v1=>K (yg.fr b c g e f i l q p v1 a d) h nx:=by kernel_rfl
theorem yg.zv8 (Inv:Nat->AV->T Blk->Pa->Prop) {m:Nat} (hm:m<N) (hi:Inv m s h nx)
  (step:∀ (m:Nat) (z5 z6 z9 zI zA:AV) (h:T Blk) (nx:Pa) (R:Ks Prop),Inv m z9 h nx->(∀ (m':Nat) (w5 w6 w9 wH wA:AV) (h':T Blk) (nx':Pa),m'<m->Inv m' w9 h' nx'->R (yg.fr b c g e f w5 w6 q p w9 wH wA) h' nx'=.ok True)->IR.run yg.t17 C N O R (yg.fr b c g e f z5 z6 q p z9 zI zA) h nx=.ok True) :
  IR.run yg.t18 C N O K (yg.fr b c g e f i l q p s a d) h nx=.ok True:=by
 rw [yg.t18];refine yK (fun m tm h nx=>∃ z5 z6 z9 zI zA,tm=(yg.fr b c g e f z5 z6 q p z9 zI zA)/\Inv m z9 h nx) ?_ hm ⟨_,_,_,_,_,rfl,hi⟩;rintro m tm h nx R ⟨z5,z6,z9,zI,zA,rfl,hi⟩ hR;exact step m z5 z6 z9 zI zA h nx R hi fun m' w5 w6 w9 wH wA h' nx' hlt hi'=>hR m' _ h' nx' hlt ⟨_,_,_,_,_,rfl,hi'⟩
theorem yg.zmy:IR.run yg.t21 C N O K (yg.fr b c g e f i l q p s a d) h nx =
 K (yg.fr b c g f f i l q p s a d) h nx:=by kernel_rfl
theorem yg.tab:T.get none (.of 135) tbl=some yg:=by kernel_rfl
theorem yg.bind (k:T AV->OP):zX yg.params [a0,a1] yg.init k=k (yg.fr a0 a1 .undef .undef .undef .undef .undef .undef .undef .undef .undef .undef):=by kernel_rfl
theorem yg.jf:yg.body=yg.t25:=by kernel_rfl
theorem yg.go:zV tbl N C (.of 135) [a0,a1] h nx K0=IR.run yg.t25 C N (fnO yg.res K0) (gq yg.res K0) (yg.fr a0 a1 .undef .undef .undef .undef .undef .undef .undef .undef .undef .undef) h nx:=by
 rw [zJ yg.tab,yg.bind,yg.jf];kernel_rfl
theorem yg.ret:gq yg.res K0 (yg.fr b c g e f i l q p s a d) h nx=K0 e h nx:=by kernel_rfl
def xw.t0:IR:=.reg [.q (.of 1) (.mv (.c (I 0)))]
def xw.t1:IR:=.reg [.s (.mv (.t (.of 0))),.s (.len (.s 0)),.s (.bin .gtr .int (.s 0) (.c (I 256))),.w .push none (.call (.c (.fn 96 (.of 96) [])) [(.s 0),(.c (I 5))]),.s (.mv (.t (.of 0))),.w .push none (.call (.c (.fn 136 (.of 136) [])) [(.s 0),(.c (.fn 137 (.of 137) []))]),.w .push none (.call (.c (.fn 96 (.of 96) [])) [(.s 0),(.c (I 3))]),.w .push none (.zy 1 2 [(I 0)] [(0,1,(.s 3)),(1,1,(.s 0))]),.w .push none (.call (.c (.fn 94 (.of 94) [])) [(.s 0)]),.q (.of 1) (.mv (.s 0))]
def xw.t2:IR:=.seq xw.t1 .ret
def xw.t3:IR:=.seq xw.t0 xw.t2
theorem xw.xq:IR.run xw.t0 C N O K (xw.fr b c) h nx =
 K (xw.fr b (I 0)) h nx:=by kernel_rfl
theorem xw.xu:IR.run xw.t1 C N O K (xw.fr b c) h nx =
 sLen b fun v1=>zx .gtr .int v1 (I 256) fun v2=>C.fn 96 (.of 96) [v2,(I 5)] h nx fun v3 h4 n5=>C.fn 136 (.of 136) [b,(.fn 137 (.of 137) [])] h4 n5 fun v6 h7 n8=>C.fn 96 (.of 96) [v6,(I 3)] h7 n8 fun v9 hU nU=>jA 1 2 [(I 0)] [(0,1,v3),(1,1,v9)] hU nU fun vC h13 n14=>C.fn 94 (.of 94) [vC] h13 n14 fun vF h16 n17=>K (xw.fr b vF) h16 n17:=by kernel_rfl
theorem xw.tab:T.get none (.of 134) tbl=some xw:=by kernel_rfl
theorem xw.bind (k:T AV->OP):zX xw.params [a0] xw.init k=k (xw.fr a0 .undef):=by kernel_rfl
theorem xw.jf:xw.body=xw.t3:=by kernel_rfl
theorem xw.go:zV tbl N C (.of 134) [a0] h nx K0=IR.run xw.t3 C N (fnO xw.res K0) (gq xw.res K0) (xw.fr a0 .undef) h nx:=by
 rw [zJ xw.tab,xw.bind,xw.jf];kernel_rfl
theorem xw.ret:gq xw.res K0 (xw.fr b c) h nx=K0 c h nx:=by kernel_rfl
def xk.t0:IR:=.reg [.q (.of 1) (.mv (.c (.bool false)))]
def xk.t1:IR:=.reg [.s (.mv (.t (.of 0))),.s (.bin .lss .int (.s 0) (.c (I (-999999999)))),.s (.mv (.s 0)),.p .push (some ((.s 0),false)) (.mv (.t (.of 0))),.p .push (some ((.s 1),false)) (.bin .gtr .int (.s 0) (.c (I 999999999))),.s (.pick (.s 2) (.c (.bool true)) (.s 0)),.q (.of 1) (.mv (.s 0))]
def xk.t2:IR:=.seq xk.t1 .ret
def xk.t3:IR:=.seq xk.t0 xk.t2
theorem xk.xq:IR.run xk.t0 C N O K (xk.fr b c) h nx =
 K (xk.fr b (.bool false)) h nx:=by kernel_rfl
theorem xk.xu:IR.run xk.t1 C N O K (xk.fr b c) h nx =
 zx .lss .int b (I (-999999999)) fun v1=>sG v1 false (fun k=>k b) fun v2=>sG v1 false (fun k=>zx .gtr .int v2 (I 999999999) k) fun v3=>jS v1 (.bool true) v3 fun v4=>K (xk.fr b v4) h nx:=by kernel_rfl
theorem xk.tab:T.get none (.of 137) tbl=some xk:=by kernel_rfl
theorem xk.bind (k:T AV->OP):zX xk.params [a0] xk.init k=k (xk.fr a0 .undef):=by kernel_rfl
theorem xk.jf:xk.body=xk.t3:=by kernel_rfl
theorem xk.go:zV tbl N C (.of 137) [a0] h nx K0=IR.run xk.t3 C N (fnO xk.res K0) (gq xk.res K0) (xk.fr a0 .undef) h nx:=by
 rw [zJ xk.tab,xk.bind,xk.jf];kernel_rfl
theorem xk.ret:gq xk.res K0 (xk.fr b c) h nx=K0 c h nx:=by kernel_rfl
end
end Go.Ev
namespace Go.Ev
open Go Go.Proofs
set_option maxRecDepth 100000
section
variable {N:Nat} {C:Calls Prop} {K0:Kw Prop} {K:Ks Prop} {h:T Blk} {nx:Pa} {b c g e f i l a0 a1 a2 a3:AV} {O:uq Prop} {tm:T AV} {Kt:KTm} {r:List RO} {s0 s1 s2 s3 s4 s5 s6 s7 s8 s9 s10 s11 s12 s13 s14 s15 s16 s17 s18 s19 s20 s21 s22 s23 s24 s25 s26 s27 s28 s29 s30 s31 s32 s33 s34 s35 s36 s37 s38 s39 s40 s41 s42 s43 s44 s45 s46 s47 s48 s49 s50 s51 s52 s53 s54 s55 s56 s57 s58 s59:AV}
end
end Go.Ev
namespace Go.Ev
open Go Go.Proofs
set_option maxRecDepth 100000
section
variable {N:Nat} {C:Calls Prop} {K0:Kw Prop} {K:Ks Prop} {h:T Blk} {nx:Pa} {b c g e f i l q p s a d o u v w a0 a1 a2 a3:AV} {O:uq Prop} {tm:T AV} {Kt:KTm} {r:List RO} {s0 s1 s2 s3 s4 s5 s6 s7 s8 s9 s10 s11 s12 s13 s14 s15 s16 s17 s18 s19 s20 s21 s22 s23 s24 s25 s26 s27 s28 s29 s30 s31 s32 s33 s34 s35 s36 s37 s38 s39 s40 s41 s42 s43 s44 s45 s46 s47 s48 s49 s50 s51 s52 s53 s54 s55 s56 s57 s58 s59:AV}
end
end Go.Ev
namespace Go.Ev
open Go Go.Proofs
set_option maxRecDepth 100000
section
variable {N:Nat} {C:Calls Prop} {K0:Kw Prop} {K:Ks Prop} {h:T Blk} {nx:Pa} {b c g e f i l q p s a d o u v w y z a0 a1 a2:AV} {O:uq Prop} {tm:T AV} {Kt:KTm} {r:List RO} {s0 s1 s2 s3 s4 s5 s6 s7 s8 s9 s10 s11 s12 s13 s14 s15 s16 s17 s18 s19 s20 s21 s22 s23 s24 s25 s26 s27 s28 s29 s30 s31 s32 s33 s34 s35 s36 s37 s38 s39 s40 s41 s42 s43 s44 s45 s46 s47 s48 s49 s50 s51 s52 s53 s54 s55 s56 s57 s58 s59:AV}
def zn.t0:IR:=.reg [.q (.of 3) (.mv (.c .ug)),.w (.loc (.of 4)) none (.alloc [.zf,.zf]),.q (.of 5) (.mv (.c (I 0)))]
def zn.t1:IR:=.reg [.w (.loc (.of 6)) none (.alloc [.zf,.zf])]
def zn.t2:IR:=.reg [.s (.mv (.t (.of 0))),.s (.mv (.t (.of 2))),.w .push none (.call (.c (.fn 92 (.of 92) [])) [(.s 1),(.s 0)]),.s (.mv (.s 0)),.s (.ext 0 (.s 0)),.s (.ext 1 (.s 1)),.s (.ext 2 (.s 2)),.q (.of 7) (.mv (.s 2)),.q (.of 8) (.mv (.s 1)),.q (.of 9) (.mv (.s 0))]
def zn.t3:IR:=.reg [.s (.mv (.t (.of 9))),.q (.of 13) (.bin .neq .int (.s 0) (.c (I 0)))]
def zn.t4:IR:=.yw [] [(.s (.zh 2 (.t (.of 6))),0,[]),(.s (.mv (.t (.of 9))),1,[]),(.q (.of 3) (.mv (.c .ug)),0,[]),(.w .none none (.store 2 (.t (.of 4)) (.s 1)),0,[]),(.q (.of 5) (.mv (.s 0)),0,[])]
def zn.t5:IR:=.seq zn.t4 .ret
def zn.t6:IR:=.cond (.t (.of 13)) zn.t5 .skip
def zn.t7:IR:=.seq zn.t3 zn.t6
def zn.t8:IR:=.reg [.s (.mv (.t (.of 1))),.s (.mv (.t (.of 2))),.w .push none (.call (.c (.fn 92 (.of 92) [])) [(.s 1),(.s 0)]),.s (.mv (.s 0)),.s (.ext 0 (.s 0)),.s (.ext 1 (.s 1)),.s (.ext 2 (.s 2)),.q (.of 10) (.mv (.s 2)),.q (.of 11) (.mv (.s 1)),.q (.of 9) (.mv (.s 0))]
def zn.t9:IR:=.reg [.s (.mv (.t (.of 9))),.q (.of 14) (.bin .neq .int (.s 0) (.c (I 0)))]
def zn.t10:IR:=.yw [] [(.s (.zh 2 (.t (.of 6))),0,[]),(.s (.mv (.t (.of 9))),1,[]),(.q (.of 3) (.mv (.c .ug)),0,[]),(.w .none none (.store 2 (.t (.of 4)) (.s 1)),0,[]),(.q (.of 5) (.mv (.s 0)),0,[])]
def zn.t11:IR:=.seq zn.t10 .ret
def zn.t12:IR:=.cond (.t (.of 14)) zn.t11 .skip
def zn.t13:IR:=.seq zn.t9 zn.t12
def zn.t14:IR:=.reg [.s (.mv (.t (.of 10))),.w (.loc (.of 15)) none (.range (.s 0))]
def zn.t15:IR:=.reg [.w .push none (.next (.t (.of 15))),.q (.of 16) (.ext 0 (.s 0))]
def zn.t16:IR:=.cond (.t (.of 16)) .skip (.exit 0)
def zn.t17:IR:=.reg [.s (.entry (.t (.of 15))),.s (.ext 1 (.s 0)),.w (.loc (.of 12)) none (.alloc [.zf,(.bool false)]),.w .none none (.store 2 (.t (.of 12)) (.s 0))]
def zn.t18:IR:=.reg [.s (.mv (.t (.of 7))),.s (.zh 2 (.t (.of 12))),.w .push none (.call (.c (.fn 121 (.of 121) [])) [(.s 1),(.s 0)]),.q (.of 17) (.not (.s 0))]
def zn.t19:IR:=.yw [] [(.s (.zh 2 (.t (.of 6))),0,[]),(.q (.of 3) (.mv (.c .ug)),0,[]),(.w .none none (.store 2 (.t (.of 4)) (.s 0)),0,[]),(.q (.of 5) (.mv (.c (I 28))),0,[])]
def zn.t20:IR:=.seq zn.t19 .ret
def zn.t21:IR:=.cond (.t (.of 17)) zn.t20 .skip
def zn.t22:IR:=.seq zn.t18 zn.t21
def zn.t23:IR:=.seq zn.t17 zn.t22
def zn.t24:IR:=.block 1 zn.t23
def zn.t25:IR:=.seq zn.t16 zn.t24
def zn.t26:IR:=.seq zn.t15 zn.t25
def zn.t27:IR:=.loop zn.t26
def zn.t28:IR:=.block 0 zn.t27
def zn.t29:IR:=.seq zn.t14 zn.t28
def zn.t30:IR:=.reg [.s (.mv (.t (.of 8))),.s (.mv (.t (.of 11))),.s (.oz 1 2 (.t (.of 6)) (.c (I 0))),.w .none none (.store 1 (.s 0) (.s 2)),.s (.oz 1 2 (.t (.of 6)) (.c (I 1))),.w .none none (.store 1 (.s 0) (.s 2))]
def zn.t31:IR:=.yw [] [(.s (.mv (.t (.of 10))),0,[]),(.s (.zh 2 (.t (.of 6))),0,[]),(.q (.of 3) (.mv (.s 1)),0,[]),(.w .none none (.store 2 (.t (.of 4)) (.s 0)),0,[]),(.q (.of 5) (.mv (.c (I 0))),0,[])]
def zn.t32:IR:=.seq zn.t31 .ret
def zn.t33:IR:=.seq zn.t30 zn.t32
def zn.t34:IR:=.seq zn.t29 zn.t33
def zn.t35:IR:=.seq zn.t13 zn.t34
def zn.t36:IR:=.seq zn.t8 zn.t35
def zn.t37:IR:=.seq zn.t7 zn.t36
def zn.t38:IR:=.seq zn.t2 zn.t37
def zn.t39:IR:=.seq zn.t1 zn.t38
def zn.t40:IR:=.seq zn.t0 zn.t39
theorem zn.xq:IR.run zn.t0 C N O K (zn.fr b c g e f i l q p s a d o u v w y z) h nx =
 yB [.zf,.zf] h nx fun v1 h2 n3=>K (zn.fr b c g .ug v1 (I 0) l q p s a d o u v w y z) h2 n3:=by kernel_rfl
theorem zn.xu:IR.run zn.t1 C N O K (zn.fr b c g e f i l q p s a d o u v w y z) h nx =
 yB [.zf,.zf] h nx fun v1 h2 n3=>K (zn.fr b c g e f i v1 q p s a d o u v w y z) h2 n3:=by kernel_rfl
theorem zn.fO:IR.run zn.t2 C N O K (zn.fr b c g e f i l q p s a d o u v w y z) h nx =
 C.fn 92 (.of 92) [b,g] h nx fun v1 h2 n3=>bY 0 v1 fun v4=>bY 1 v1 fun v5=>bY 2 v1 fun v6=>K (zn.fr b c g e f i l v4 v5 v6 a d o u v w y z) h2 n3:=by kernel_rfl
theorem zn.rY:IR.run zn.t3 C N O K (zn.fr b c g e f i l q p s a d o u v w y z) h nx =
 zx .neq .int s (I 0) fun v1=>K (zn.fr b c g e f i l q p s a d o v1 v w y z) h nx:=by kernel_rfl
theorem zn.t4_s:IR.run zn.t4 C N O K (zn.fr b c g e f i l q p s a d o u v w y z) h nx =
 zK 2 l h fun v1=>zM 2 f v1 h nx fun v2 h3 n4=>zL s s (K (zn.fr b c g .ug f s l q p s a d o u v w y z) h3 n4):=by kernel_rfl
theorem zn.v13:Arg.ev (.t (.of 13)) ⟨(zn.fr b c g e f i l q p s a d o u v w y z),[]⟩=u:=by kernel_rfl
theorem zn.eX:IR.run zn.t8 C N O K (zn.fr b c g e f i l q p s a d o u v w y z) h nx =
 C.fn 92 (.of 92) [c,g] h nx fun v1 h2 n3=>bY 0 v1 fun v4=>bY 1 v1 fun v5=>bY 2 v1 fun v6=>K (zn.fr b c g e f i l q p v6 v4 v5 o u v w y z) h2 n3:=by kernel_rfl
theorem zn.t9_s:IR.run zn.t9 C N O K (zn.fr b c g e f i l q p s a d o u v w y z) h nx =
 zx .neq .int s (I 0) fun v1=>K (zn.fr b c g e f i l q p s a d o u v1 w y z) h nx:=by kernel_rfl
theorem zn.sN:IR.run zn.t10 C N O K (zn.fr b c g e f i l q p s a d o u v w y z) h nx =
 zK 2 l h fun v1=>zM 2 f v1 h nx fun v2 h3 n4=>zL s s (K (zn.fr b c g .ug f s l q p s a d o u v w y z) h3 n4):=by kernel_rfl
theorem zn.v14:Arg.ev (.t (.of 14)) ⟨(zn.fr b c g e f i l q p s a d o u v w y z),[]⟩=v:=by kernel_rfl
theorem zn.zas:IR.run zn.t14 C N O K (zn.fr b c g e f i l q p s a d o u v w y z) h nx =
 zee a h nx fun v1 h2 n3=>K (zn.fr b c g e f i l q p s a d o u v v1 y z) h2 n3:=by kernel_rfl
theorem zn.zaj:IR.run zn.t15 C N O K (zn.fr b c g e f i l q p s a d o u v w y z) h nx =
 zjb C w h nx fun v1 h2 n3=>bY 0 v1 fun v4=>K (zn.fr b c g e f i l q p s a d o u v w v4 z) h2 n3:=by kernel_rfl
theorem zn.v16:Arg.ev (.t (.of 16)) ⟨(zn.fr b c g e f i l q p s a d o u v w y z),[]⟩=y:=by kernel_rfl
theorem zn.oO:IR.run zn.t17 C N O K (zn.fr b c g e f i l q p s a d o u v w y z) h nx =
 zef w h fun v1=>bY 1 v1 fun v2=>yB [.zf,(.bool false)] h nx fun v3 h4 n5=>zM 2 v3 v2 h4 n5 fun v6 h7 n8=>K (zn.fr b c g e f i l q p s a d v3 u v w y z) h7 n8:=by kernel_rfl
theorem zn.zak:IR.run zn.t18 C N O K (zn.fr b c g e f i l q p s a d o u v w y z) h nx =
 zK 2 o h fun v1=>C.fn 121 (.of 121) [q,v1] h nx fun v2 h3 n4=>sNot v2 fun v5=>K (zn.fr b c g e f i l q p s a d o u v w y v5) h3 n4:=by kernel_rfl
theorem zn.zv9:IR.run zn.t19 C N O K (zn.fr b c g e f i l q p s a d o u v w y z) h nx =
 zK 2 l h fun v1=>zM 2 f v1 h nx fun v2 h3 n4=>K (zn.fr b c g .ug f (I 28) l q p s a d o u v w y z) h3 n4:=by kernel_rfl
theorem zn.v17:Arg.ev (.t (.of 17)) ⟨(zn.fr b c g e f i l q p s a d o u v w y z),[]⟩=z:=by kernel_rfl
theorem zn.zwa (Inv:Nat->T Blk->Pa->Prop) {m:Nat} (hm:m<N) (hi:Inv m h nx)
  (step:∀ (m:Nat) (z3 z5 zB zG zH:AV) (h:T Blk) (nx:Pa) (R:Ks Prop),Inv m h nx->(∀ (m':Nat) (w3 w5 wB wF wG:AV) (h':T Blk) (nx':Pa),m'<m->Inv m' h' nx'->R (zn.fr b c g w3 f w5 l q p s a d wB u v w wF wG) h' nx'=.ok True)->IR.run zn.t26 C N O R (zn.fr b c g z3 f z5 l q p s a d zB u v w zG zH) h nx=.ok True) :
  IR.run zn.t27 C N O K (zn.fr b c g e f i l q p s a d o u v w y z) h nx=.ok True:=by
 rw [zn.t27];refine yK (fun m tm h nx=>∃ z3 z5 zB zG zH,tm=(zn.fr b c g z3 f z5 l q p s a d zB u v w zG zH)/\Inv m h nx) ?_ hm ⟨_,_,_,_,_,rfl,hi⟩;rintro m tm h nx R ⟨z3,z5,zB,zG,zH,rfl,hi⟩ hR;exact step m z3 z5 zB zG zH h nx R hi fun m' w3 w5 wB wF wG h' nx' hlt hi'=>hR m' _ h' nx' hlt ⟨_,_,_,_,_,rfl,hi'⟩
theorem zn.zc9:IR.run zn.t30 C N O K (zn.fr b c g e f i l q p s a d o u v w y z) h nx =
 d5 1 2 l (I 0) fun v1=>zM 1 v1 p h nx fun v2 h3 n4=>d5 1 2 l (I 1) fun v5=>zM 1 v5 d h3 n4 fun v6 h7 n8=>K (zn.fr b c g e f i l q p s a d o u v w y z) h7 n8:=by kernel_rfl
theorem zn.zfm:IR.run zn.t31 C N O K (zn.fr b c g e f i l q p s a d o u v w y z) h nx =
 zK 2 l h fun v1=>zM 2 f v1 h nx fun v2 h3 n4=>K (zn.fr b c g a f (I 0) l q p s a d o u v w y z) h3 n4:=by kernel_rfl
theorem zn.tab:T.get none (.of 120) tbl=some zn:=by kernel_rfl
theorem zn.bind (k:T AV->OP):zX zn.params [a0,a1,a2] zn.init k=k (zn.fr a0 a1 a2 .undef .undef .undef .undef .undef .undef .undef .undef .undef .undef .undef .undef .undef .undef .undef):=by kernel_rfl
theorem zn.jf:zn.body=zn.t40:=by kernel_rfl
theorem zn.go:zV tbl N C (.of 120) [a0,a1,a2] h nx K0=IR.run zn.t40 C N (fnO zn.res K0) (gq zn.res K0) (zn.fr a0 a1 a2 .undef .undef .undef .undef .undef .undef .undef .undef .undef .undef .undef .undef .undef .undef .undef) h nx:=by
 rw [zJ zn.tab,zn.bind,zn.jf];kernel_rfl
theorem zn.ret:gq zn.res K0 (zn.fr b c g e f i l q p s a d o u v w y z) h nx=zK 2 f h fun v1=>K0 (.tup [e,v1,i]) h nx:=by kernel_rfl
def F27.t0:IR:=.reg [.q (.of 2) (.mv (.c .zf)),.q (.of 3) (.mv (.c (I 0)))]
def F27.t1:IR:=.reg [.s (.mv (.t (.of 1))),.w .push none (.call (.c (.fn 95 (.of 95) [])) [(.s 0)]),.s (.mv (.t (.of 0))),.s (.len (.s 0)),.s (.bin .gtr .int (.s 0) (.c (I 256))),.w .push none (.call (.c (.fn 96 (.of 96) [])) [(.s 0),(.c (I 5))]),.w .push none (.zy 1 2 [(I 0)] [(0,1,(.s 4)),(1,1,(.s 0))]),.w .push none (.call (.c (.fn 94 (.of 94) [])) [(.s 0)]),.q (.of 4) (.mv (.s 0))]
def F27.t2:IR:=.reg [.s (.mv (.t (.of 4))),.q (.of 8) (.bin .neq .int (.s 0) (.c (I 0)))]
def F27.t3:IR:=.reg [.s (.mv (.t (.of 4))),.q (.of 2) (.mv (.c .zf)),.q (.of 3) (.mv (.s 0))]
def F27.t4:IR:=.seq F27.t3 .ret
def F27.t5:IR:=.cond (.t (.of 8)) F27.t4 .skip
def F27.t6:IR:=.seq F27.t2 F27.t5
def F27.t7:IR:=.seq F27.t1 F27.t6
def F27.t8:IR:=.reg [.s (.mv (.t (.of 0))),.s (.mv (.t (.of 1))),.w .push none (.call (.c (.fn 97 (.of 97) [])) [(.s 1),(.s 0)]),.q (.of 5) (.mv (.s 0))]
def F27.t9:IR:=.reg [.s (.mv (.t (.of 5))),.q (.of 9) (.bin .neq .int (.s 0) (.c (I 0)))]
def F27.t10:IR:=.reg [.s (.mv (.t (.of 5))),.q (.of 2) (.mv (.c .zf)),.q (.of 3) (.mv (.s 0))]
def F27.t11:IR:=.seq F27.t10 .ret
def F27.t12:IR:=.cond (.t (.of 9)) F27.t11 .skip
def F27.t13:IR:=.seq F27.t9 F27.t12
def F27.t14:IR:=.seq F27.t8 F27.t13
def F27.t15:IR:=.reg [.s (.mv (.t (.of 0))),.s (.mv (.t (.of 1))),.w .push none (.call (.c (.fn 98 (.of 98) [])) [(.s 1),(.s 0),(.c (I 1536))]),.s (.mv (.s 0)),.s (.ext 0 (.s 0)),.s (.ext 1 (.s 1)),.s (.ext 2 (.s 2)),.q (.of 6) (.mv (.s 2)),.s (.mv (.s 1)),.q (.of 7) (.mv (.s 1))]
def F27.t16:IR:=.reg [.s (.mv (.t (.of 7))),.q (.of 10) (.not (.s 0))]
def F27.t17:IR:=.reg [.q (.of 2) (.mv (.c .zf)),.q (.of 3) (.mv (.c (I 20)))]
def F27.t18:IR:=.seq F27.t17 .ret
def F27.t19:IR:=.cond (.t (.of 10)) F27.t18 .skip
def F27.t20:IR:=.seq F27.t16 F27.t19
def F27.t21:IR:=.reg [.s (.mv (.t (.of 6))),.w .push none (.call (.c (.fn 99 (.of 99) [])) [(.s 0)]),.q (.of 2) (.mv (.s 0)),.q (.of 3) (.mv (.c (I 0)))]
def F27.t22:IR:=.seq F27.t21 .ret
def F27.t23:IR:=.seq F27.t20 F27.t22
def F27.t24:IR:=.seq F27.t15 F27.t23
def F27.t25:IR:=.seq F27.t14 F27.t24
def F27.t26:IR:=.seq F27.t7 F27.t25
def F27.t27:IR:=.seq F27.t0 F27.t26
theorem F27.xq:IR.run F27.t0 C N O K (F27.fr b c g e f i l q p s a) h nx =
 K (F27.fr b c .zf (I 0) f i l q p s a) h nx:=by kernel_rfl
theorem F27.xu:IR.run F27.t1 C N O K (F27.fr b c g e f i l q p s a) h nx =
 C.fn 95 (.of 95) [c] h nx fun v1 h2 n3=>sLen b fun v4=>zx .gtr .int v4 (I 256) fun v5=>C.fn 96 (.of 96) [v5,(I 5)] h2 n3 fun v6 h7 n8=>jA 1 2 [(I 0)] [(0,1,v1),(1,1,v6)] h7 n8 fun v9 hU nU=>C.fn 94 (.of 94) [v9] hU nU fun vC h13 n14=>K (F27.fr b c g e vC i l q p s a) h13 n14:=by kernel_rfl
theorem F27.fO:IR.run F27.t2 C N O K (F27.fr b c g e f i l q p s a) h nx =
 zx .neq .int f (I 0) fun v1=>K (F27.fr b c g e f i l q v1 s a) h nx:=by kernel_rfl
theorem F27.rY:IR.run F27.t3 C N O K (F27.fr b c g e f i l q p s a) h nx =
 K (F27.fr b c .zf f f i l q p s a) h nx:=by kernel_rfl
theorem F27.v8:Arg.ev (.t (.of 8)) ⟨(F27.fr b c g e f i l q p s a),[]⟩=p:=by kernel_rfl
theorem F27.eX:IR.run F27.t8 C N O K (F27.fr b c g e f i l q p s a) h nx =
 C.fn 97 (.of 97) [b,c] h nx fun v1 h2 n3=>K (F27.fr b c g e f v1 l q p s a) h2 n3:=by kernel_rfl
theorem F27.t9_s:IR.run F27.t9 C N O K (F27.fr b c g e f i l q p s a) h nx =
 zx .neq .int i (I 0) fun v1=>K (F27.fr b c g e f i l q p v1 a) h nx:=by kernel_rfl
theorem F27.sN:IR.run F27.t10 C N O K (F27.fr b c g e f i l q p s a) h nx =
 K (F27.fr b c .zf i f i l q p s a) h nx:=by kernel_rfl
theorem F27.v9:Arg.ev (.t (.of 9)) ⟨(F27.fr b c g e f i l q p s a),[]⟩=s:=by kernel_rfl
theorem F27.zaj:IR.run F27.t15 C N O K (F27.fr b c g e f i l q p s a) h nx =
 C.fn 98 (.of 98) [b,c,(I 1536)] h nx fun v1 h2 n3=>bY 0 v1 fun v4=>bY 1 v1 fun v5=>bY 2 v1 fun v6=>K (F27.fr b c g e f i v4 v6 p s a) h2 n3:=by kernel_rfl
theorem F27.au:IR.run F27.t16 C N O K (F27.fr b c g e f i l q p s a) h nx =
 sNot q fun v1=>K (F27.fr b c g e f i l q p s v1) h nx:=by kernel_rfl
theorem F27.oO:IR.run F27.t17 C N O K (F27.fr b c g e f i l q p s a) h nx =
 K (F27.fr b c .zf (I 20) f i l q p s a) h nx:=by kernel_rfl
theorem F27.v10:Arg.ev (.t (.of 10)) ⟨(F27.fr b c g e f i l q p s a),[]⟩=a:=by kernel_rfl
theorem F27.zmy:IR.run F27.t21 C N O K (F27.fr b c g e f i l q p s a) h nx =
 C.fn 99 (.of 99) [l] h nx fun v1 h2 n3=>K (F27.fr b c v1 (I 0) f i l q p s a) h2 n3:=by kernel_rfl
theorem F27.tab:T.get none (.of 27) tbl=some F27:=by kernel_rfl
theorem F27.bind (k:T AV->OP):zX F27.params [a0,a1] F27.init k=k (F27.fr a0 a1 .undef .undef .undef .undef .undef .undef .undef .undef .undef):=by kernel_rfl
theorem F27.jf:F27.body=F27.t27:=by kernel_rfl
theorem F27.go:zV tbl N C (.of 27) [a0,a1] h nx K0=IR.run F27.t27 C N (fnO F27.res K0) (gq F27.res K0) (F27.fr a0 a1 .undef .undef .undef .undef .undef .undef .undef .undef .undef) h nx:=by
 rw [zJ F27.tab,F27.bind,F27.jf];kernel_rfl
theorem F27.ret:gq F27.res K0 (F27.fr b c g e f i l q p s a) h nx=K0 (.tup [g,e]) h nx:=by kernel_rfl
end
end Go.Ev
namespace Go.Ev
open Go Go.Proofs
set_option maxRecDepth 100000
variable {N:Nat} {C:Calls Prop} {K0:Kw Prop} {K R:Ks Prop} {h:T Blk} {nx:Pa} {b c g e f i l a0 a1 a2 q p s a d o u v w y z A B D E F G H:AV}
theorem F99.rQ (X2:IR) (O:uq Prop) (t:T AV):IR.run (F99.g1 X2) C N O K t h nx=IR.run X2 C N (O.blk 0 K) K t h nx:=by kernel_rfl
theorem F99.zmx (X8:IR) (O:uq Prop) (t:T AV):IR.run (F99.g7 X8) C N O K t h nx=IR.run X8 C N (O.blk 2 K) K t h nx:=by kernel_rfl
theorem F99.tab:T.get none (.of 99) tbl=some F99:=by kernel_rfl
theorem F99.go:zV tbl N C (.of 99) [a0] h nx K0 =
 zee a0 h nx fun v1 h2 n3=>IR.run F99.b1 C N (fnO F99.res K0) (IR.run F99.b6 C N (fnO F99.res K0) (gq F99.res K0)) (F99.fr a0 .zf .zf .undef .undef .undef v1 .undef .undef .undef .undef .undef) h2 n3:=by
 rw [zJ F99.tab];kernel_rfl
theorem F99.L1 (Inv:Nat->AV->T Blk->Pa->Prop) {m:Nat} (hm:m<N) (hi:Inv m g h nx)
  (step:∀ (m:Nat) (z2 z3 z7:AV) (h:T Blk) (nx:Pa) (R:Ks Prop),Inv m z2 h nx->(∀ (m':Nat) (w2 w3 w7:AV) (h':T Blk) (nx':Pa),m'<m->Inv m' w2 h' nx'->R (F99.fr b c w2 w3 f i l w7 p s a d) h' nx'=.ok True) ->
   (zjb C l h nx fun v1 h2 n3=>bY 0 v1 fun v4=>yD v4 (zef l h2 fun v5=>bY 1 v5 fun v6=>yB [.zf,(.bool false)] h2 n3 fun v7 h8 n9=>zM 2 v7 v6 h8 n9 fun vA hG nG=>zK 2 v7 hG fun vD=>jA 2 1 [.zf,(.bool false)] [(0,2,vD)] hG nG fun vE hA nA=>dN C 2 32 z2 vE hA nA fun vH h18 n19=>R (F99.fr b c vH v7 f i l v4 p s a d) h18 n19) (K (F99.fr b c z2 z3 f i l v4 p s a d) h2 n3))=.ok True) :
  IR.run F99.b1 C N (fnO F99.res K0) K (F99.fr b c g e f i l q p s a d) h nx=.ok True:=by
 rw [F99.b1,F99.rQ,F99.b2];refine yK (fun m tm h nx=>∃ z2 z3 z7,tm=(F99.fr b c z2 z3 f i l z7 p s a d)/\Inv m z2 h nx) ?_ hm ⟨_,_,_,rfl,hi⟩;rintro m tm h nx R ⟨z2,z3,z7,rfl,hi⟩ hR;refine Eq.trans ?_ (step m z2 z3 z7 h nx R hi fun m' w2 w3 w7 h' nx' hlt hi'=>hR m' _ h' nx' hlt ⟨_,_,_,rfl,hi'⟩)
 kernel_rfl
theorem F99.k6:IR.run F99.b6 C N (fnO F99.res K0) K (F99.fr b c g e f i l q p s a d) h nx =
 C.fn 164 (.of 164) [g,(.fn 162 (.of 162) [])] h nx fun v1 h2 n3=>sLen g fun v4=>IR.run F99.b7 C N (fnO F99.res K0) (IR.run F99.b14 C N (fnO F99.res K0) K) (F99.fr b c g e .zf i l q g v4 (I 0) d) h2 n3:=by kernel_rfl
theorem F99.L7 (Inv:Nat->AV->AV->T Blk->Pa->Prop) {m:Nat} (hm:m<N) (hi:Inv m f a h nx)
  (step:∀ (m:Nat) (z4 z5 zI zA:AV) (h:T Blk) (nx:Pa) (R:Ks Prop),Inv m z4 zI h nx->(∀ (m':Nat) (w4 w5 wH wA:AV) (h':T Blk) (nx':Pa),m'<m->Inv m' w4 wH h' nx'->R (F99.fr b c g e w4 w5 l q p s wH wA) h' nx'=.ok True) ->
   (zx .lss .int zI s fun v1=>yD v1 (zS 2 p zI fun v2=>zK 2 v2 h fun v3=>yB [.zf,(.bool false)] h nx fun v4 h5 n6=>zM 2 v4 v3 h5 n6 fun v7 h8 n9=>zK 2 v4 h8 fun vA=>jA 2 1 [.zf,(.bool false)] [(0,2,vA)] h8 n9 fun vB hB nB=>dN C 2 32 z4 vB hB nB fun vE hA nA=>zx .add .int zI (I 1) fun vH=>R (F99.fr b c g e vE v4 l q p s vH v1) hA nA) (K (F99.fr b c g e z4 z5 l q p s zI v1) h nx))=.ok True) :
  IR.run F99.b7 C N (fnO F99.res K0) K (F99.fr b c g e f i l q p s a d) h nx=.ok True:=by
 rw [F99.b7,F99.zmx,F99.b8];refine yK (fun m tm h nx=>∃ z4 z5 zI zA,tm=(F99.fr b c g e z4 z5 l q p s zI zA)/\Inv m z4 zI h nx) ?_ hm ⟨_,_,_,_,rfl,hi⟩;rintro m tm h nx R ⟨z4,z5,zI,zA,rfl,hi⟩ hR;refine Eq.trans ?_ (step m z4 z5 zI zA h nx R hi fun m' w4 w5 wH wA h' nx' hlt hi'=>hR m' _ h' nx' hlt ⟨_,_,_,_,rfl,hi'⟩)
 kernel_rfl
theorem F99.k14:IR.run F99.b14 C N (fnO F99.res K0) K (F99.fr b c g e f i l q p s a d) h nx =
 K0 f h nx:=by kernel_rfl
end Go.Ev
namespace Go.Ev
open Go Go.Proofs
set_option maxRecDepth 100000
section
variable {N:Nat} {C:Calls Prop} {K0:Kw Prop} {K:Ks Prop} {h:T Blk} {nx:Pa} {b c g e f i l q p s a d o u v w y z A B a0 a1 a2:AV} {O:uq Prop} {tm:T AV} {Kt:KTm} {r:List RO} {s0 s1 s2 s3 s4 s5 s6 s7 s8 s9 s10 s11 s12 s13 s14 s15 s16 s17 s18 s19 s20 s21 s22 s23 s24 s25 s26 s27 s28 s29 s30 s31 s32 s33 s34 s35 s36 s37 s38 s39 s40 s41 s42 s43 s44 s45 s46 s47 s48 s49 s50 s51 s52 s53 s54 s55 s56 s57 s58 s59:AV}
def F39.t0:IR:=.reg [.w (.loc (.of 3)) none (.box (.t (.of 1))),.q (.of 4) (.mv (.c .zf)),.q (.of 5) (.mv (.c (I 0)))]
def F39.t1:IR:=.reg [.s (.mv (.t (.of 0))),.s (.load (.t (.of 3))),.s (.mv (.t (.of 2))),.w .push none (.call (.c (.fn 120 (.of 120) [])) [(.s 2),(.s 1),(.s 0)]),.s (.mv (.s 0)),.s (.ext 0 (.s 0)),.s (.ext 1 (.s 1)),.s (.ext 2 (.s 2)),.w .push none (.alloc [.zf,.zf]),.s (.mv (.s 3)),.w .none none (.store 2 (.s 1) (.s 3)),.q (.of 6) (.mv (.s 2))]
def F39.t2:IR:=.reg [.s (.mv (.t (.of 6))),.q (.of 12) (.bin .neq .int (.s 0) (.c (I 0)))]
def F39.t3:IR:=.reg [.s (.mv (.t (.of 6))),.q (.of 4) (.mv (.c .zf)),.q (.of 5) (.mv (.s 0))]
def F39.t4:IR:=.seq F39.t3 .ret
def F39.t5:IR:=.cond (.t (.of 12)) F39.t4 .skip
def F39.t6:IR:=.seq F39.t2 F39.t5
def F39.t7:IR:=.seq F39.t1 F39.t6
def F39.t8:IR:=.reg [.w .push none .tC,.w (.loc (.of 7)) none (.alloc [.ug]),.w .none none (.store 1 (.t (.of 7)) (.s 0))]
def F39.t9:IR:=.reg [.w (.loc (.of 8)) none (.alloc [.zf])]
def F39.t10:IR:=.reg [.s (.mv (.t (.of 0))),.w (.loc (.of 13)) none (.call (.c (.fn 90 (.of 90) [])) [(.s 0)])]
def F39.t11:IR:=.reg [.w (.loc (.of 9)) none (.alloc [.zf,(.bool false)]),.w .none none (.store 2 (.t (.of 9)) (.t (.of 15)))]
def F39.t12:IR:=.reg [.s (.load (.t (.of 7))),.s (.zh 2 (.t (.of 9))),.w (.loc (.of 16)) none (.call (.c (.fn 121 (.of 121) [])) [(.s 1),(.s 0)])]
def F39.t13:IR:=.cond (.t (.of 16)) (.exit 1) .skip
def F39.t14:IR:=.seq F39.t12 F39.t13
def F39.t15:IR:=.reg [.s (.load (.t (.of 3))),.w (.loc (.of 17)) none (.call (.c (.fn 90 (.of 90) [])) [(.s 0)])]
def F39.t16:IR:=.reg [.w (.loc (.of 10)) none (.alloc [.zf,(.bool false)]),.w .none none (.store 2 (.t (.of 10)) (.t (.of 19)))]
def F39.t17:IR:=.reg [.s (.zh 2 (.t (.of 9))),.s (.zh 2 (.t (.of 10))),.w .push none (.call (.c (.fn 122 (.of 122) [])) [(.s 1),(.s 0)]),.w (.loc (.of 11)) none (.alloc [.zf,(.bool false)]),.w .none none (.store 2 (.t (.of 11)) (.s 0))]
def F39.t18:IR:=.yw [] [(.s (.load (.t (.of 7))),1,[]),(.s (.zh 2 (.t (.of 11))),0,[]),(.s (.zh 2 (.t (.of 11))),1,[]),(.w .push none (.call (.c (.fn 123 (.of 123) [])) [(.s 1)]),0,[]),(.w .none none (.zal .str (.s 3) (.s 0) (.s 1)),0,[])]
def F39.t19:IR:=.seq F39.t17 F39.t18
def F39.t20:IR:=.block 3 F39.t19
def F39.t21:IR:=.rf (.t (.of 17)) [(.of 18),(.of 19)] F39.t16 F39.t20
def F39.t22:IR:=.block 2 F39.t21
def F39.t23:IR:=.seq F39.t15 F39.t22
def F39.t24:IR:=.yw [] [(.s (.load (.t (.of 8))),2,[]),(.s (.zu 0 (.t (.of 9))),0,[]),(.s (.load (.s 0)),0,[]),(.s (.zu 1 (.t (.of 9))),1,[]),(.s (.load (.s 0)),1,[]),(.w .push none (.call (.c (.fn 106 (.of 106) [])) [(.s 2)]),0,[]),(.s (.build [.zf,(.bool false)] [(0,1,(.s 0)),(1,1,(.s 1))]),0,[]),(.w .push none (.zy 2 1 [.zf,(.bool false)] [(0,2,(.s 0))]),0,[]),(.w .push none (.appq 2 32 (.s 7) (.s 0)),0,[]),(.w .none none (.store 1 (.t (.of 8)) (.s 0)),0,[])]
def F39.t25:IR:=.seq F39.t23 F39.t24
def F39.t26:IR:=.seq F39.t14 F39.t25
def F39.t27:IR:=.block 1 F39.t26
def F39.t28:IR:=.rf (.t (.of 13)) [(.of 14),(.of 15)] F39.t11 F39.t27
def F39.t29:IR:=.block 0 F39.t28
def F39.t30:IR:=.seq F39.t10 F39.t29
def F39.t31:IR:=.reg [.s (.load (.t (.of 8))),.q (.of 4) (.mv (.s 0)),.q (.of 5) (.mv (.c (I 0)))]
def F39.t32:IR:=.seq F39.t31 .ret
def F39.t33:IR:=.seq F39.t30 F39.t32
def F39.t34:IR:=.seq F39.t9 F39.t33
def F39.t35:IR:=.seq F39.t8 F39.t34
def F39.t36:IR:=.seq F39.t7 F39.t35
def F39.t37:IR:=.seq F39.t0 F39.t36
theorem F39.xq:IR.run F39.t0 C N O K (F39.fr b c g e f i l q p s a d o u v w y z A B) h nx =
 rP c h nx fun v1 h2 n3=>K (F39.fr b c g v1 .zf (I 0) l q p s a d o u v w y z A B) h2 n3:=by kernel_rfl
theorem F39.xu:IR.run F39.t1 C N O K (F39.fr b c g e f i l q p s a d o u v w y z A B) h nx =
 zF e h fun v1=>C.fn 120 (.of 120) [b,v1,g] h nx fun v2 h3 n4=>bY 0 v2 fun v5=>bY 1 v2 fun v6=>bY 2 v2 fun v7=>yB [.zf,.zf] h3 n4 fun v8 h9 nH=>zM 2 v8 v6 h9 nH fun vB hB nB=>K (F39.fr b c g e f i v7 q p s a d o u v w y z A B) hB nB:=by kernel_rfl
theorem F39.fO:IR.run F39.t2 C N O K (F39.fr b c g e f i l q p s a d o u v w y z A B) h nx =
 zx .neq .int l (I 0) fun v1=>K (F39.fr b c g e f i l q p s a d v1 u v w y z A B) h nx:=by kernel_rfl
theorem F39.v12:Arg.ev (.t (.of 12)) ⟨(F39.fr b c g e f i l q p s a d o u v w y z A B),[]⟩=o:=by kernel_rfl
theorem F39.eX:IR.run F39.t8 C N O K (F39.fr b c g e f i l q p s a d o u v w y z A B) h nx =
 zax h nx fun v1 h2 n3=>yB [.ug] h2 n3 fun v4 h5 n6=>zM 1 v4 v1 h5 n6 fun v7 h8 n9=>K (F39.fr b c g e f i l v4 p s a d o u v w y z A B) h8 n9:=by kernel_rfl
theorem F39.t9_s:IR.run F39.t9 C N O K (F39.fr b c g e f i l q p s a d o u v w y z A B) h nx =
 yB [.zf] h nx fun v1 h2 n3=>K (F39.fr b c g e f i l q v1 s a d o u v w y z A B) h2 n3:=by kernel_rfl
theorem F39.sN:IR.run F39.t10 C N O K (F39.fr b c g e f i l q p s a d o u v w y z A B) h nx =
 C.fn 90 (.of 90) [b] h nx fun v1 h2 n3=>K (F39.fr b c g e f i l q p s a d o v1 v w y z A B) h2 n3:=by kernel_rfl
theorem F39.aZ:IR.run F39.t11 C N O K (F39.fr b c g e f i l q p s a d o u v w y z A B) h nx =
 yB [.zf,(.bool false)] h nx fun v1 h2 n3=>zM 2 v1 w h2 n3 fun v4 h5 n6=>K (F39.fr b c g e f i l q p v1 a d o u v w y z A B) h5 n6:=by kernel_rfl
theorem F39.zam:IR.run F39.t12 C N O K (F39.fr b c g e f i l q p s a d o u v w y z A B) h nx =
 zF q h fun v1=>zK 2 s h fun v2=>C.fn 121 (.of 121) [v1,v2] h nx fun v3 h4 n5=>K (F39.fr b c g e f i l q p s a d o u v w v3 z A B) h4 n5:=by kernel_rfl
theorem F39.v16:Arg.ev (.t (.of 16)) ⟨(F39.fr b c g e f i l q p s a d o u v w y z A B),[]⟩=y:=by kernel_rfl
theorem F39.zaj:IR.run F39.t15 C N O K (F39.fr b c g e f i l q p s a d o u v w y z A B) h nx =
 zF e h fun v1=>C.fn 90 (.of 90) [v1] h nx fun v2 h3 n4=>K (F39.fr b c g e f i l q p s a d o u v w y v2 A B) h3 n4:=by kernel_rfl
theorem F39.au:IR.run F39.t16 C N O K (F39.fr b c g e f i l q p s a d o u v w y z A B) h nx =
 yB [.zf,(.bool false)] h nx fun v1 h2 n3=>zM 2 v1 B h2 n3 fun v4 h5 n6=>K (F39.fr b c g e f i l q p s v1 d o u v w y z A B) h5 n6:=by kernel_rfl
theorem F39.oO:IR.run F39.t17 C N O K (F39.fr b c g e f i l q p s a d o u v w y z A B) h nx =
 zK 2 s h fun v1=>zK 2 a h fun v2=>C.fn 122 (.of 122) [v1,v2] h nx fun v3 h4 n5=>yB [.zf,(.bool false)] h4 n5 fun v6 h7 n8=>zM 2 v6 v3 h7 n8 fun v9 hU nU=>K (F39.fr b c g e f i l q p s a v6 o u v w y z A B) hU nU:=by kernel_rfl
theorem F39.zak:IR.run F39.t18 C N O K (F39.fr b c g e f i l q p s a d o u v w y z A B) h nx =
 zF q h fun v1=>zK 2 d h fun v2=>zK 2 d h fun v3=>C.fn 123 (.of 123) [v2] h nx fun v4 h5 n6=>(zK 2 d h5 fun vB=>zL vB v3 ((zF q h5 fun vA=>zL vA v1 (mM .str v1 v4 v3 h5 n6 fun v7 h8 n9=>K (F39.fr b c g e f i l q p s a d o u v w y z A B) h8 n9)))):=by kernel_rfl
theorem F39.zwb:Arg.ev (.t (.of 17)) ⟨(F39.fr b c g e f i l q p s a d o u v w y z A B),[]⟩=z:=by kernel_rfl
theorem F39.zwc {z0 z1:AV} (k:T AV->OP):zX [(.of 18),(.of 19)] [z0,z1] (F39.fr b c g e f i l q p s a d o u v w y z A B) k=k (F39.fr b c g e f i l q p s a d o u v w y z z0 z1):=by kernel_rfl
theorem F39.zwd:IR.run F39.t24 C N O K (F39.fr b c g e f i l q p s a d o u v w y z A B) h nx =
 zF p h fun v1=>zQ 0 s fun v2=>zF v2 h fun v3=>zQ 1 s fun v4=>zF v4 h fun v5=>C.fn 106 (.of 106) [v3] h nx fun v6 h7 n8=>(zF v4 h7 fun vM=>zL vM v5 ((zQ 1 s fun vL=>zL vL v4 ((zF p h7 fun vK=>zL vK v1 (gO [.zf,(.bool false)] [(0,1,v6),(1,1,v5)] fun v9=>jA 2 1 [.zf,(.bool false)] [(0,2,v9)] h7 n8 fun vA hG nG=>(zF p hG fun vJ=>zL vJ v1 (dN C 2 32 v1 vA hG nG fun vD hH nI=>zM 1 p vD hH nI fun vG hF nF=>K (F39.fr b c g e f i l q p s a d o u v w y z A B) hF nF)))))))):=by kernel_rfl
theorem F39.zwe:Arg.ev (.t (.of 13)) ⟨(F39.fr b c g e f i l q p s a d o u v w y z A B),[]⟩=u:=by kernel_rfl
theorem F39.zwf {z0 z1:AV} (k:T AV->OP):zX [(.of 14),(.of 15)] [z0,z1] (F39.fr b c g e f i l q p s a d o u v w y z A B) k=k (F39.fr b c g e f i l q p s a d o u z0 z1 y z A B):=by kernel_rfl
theorem F39.zfm:IR.run F39.t31 C N O K (F39.fr b c g e f i l q p s a d o u v w y z A B) h nx =
 zF p h fun v1=>K (F39.fr b c g e v1 (I 0) l q p s a d o u v w y z A B) h nx:=by kernel_rfl
theorem F39.tab:T.get none (.of 39) tbl=some F39:=by kernel_rfl
theorem F39.bind (k:T AV->OP):zX F39.params [a0,a1,a2] F39.init k=k (F39.fr a0 a1 a2 .undef .undef .undef .undef .undef .undef .undef .undef .undef .undef .undef .undef .undef .undef .undef .undef .undef):=by kernel_rfl
theorem F39.jf:F39.body=F39.t37:=by kernel_rfl
theorem F39.go:zV tbl N C (.of 39) [a0,a1,a2] h nx K0=IR.run F39.t37 C N (fnO F39.res K0) (gq F39.res K0) (F39.fr a0 a1 a2 .undef .undef .undef .undef .undef .undef .undef .undef .undef .undef .undef .undef .undef .undef .undef .undef .undef) h nx:=by
 rw [zJ F39.tab,F39.bind,F39.jf];kernel_rfl
theorem F39.ret:gq F39.res K0 (F39.fr b c g e f i l q p s a d o u v w y z A B) h nx=K0 (.tup [f,i]) h nx:=by kernel_rfl
def F40.t0:IR:=.reg [.q (.of 3) (.mv (.c (.bool false))),.q (.of 4) (.mv (.c (I 0)))]
def F40.t1:IR:=.reg [.s (.mv (.t (.of 0))),.s (.mv (.t (.of 1))),.s (.mv (.t (.of 2))),.w .push none (.call (.c (.fn 120 (.of 120) [])) [(.s 2),(.s 1),(.s 0)]),.s (.mv (.s 0)),.s (.ext 0 (.s 0)),.s (.ext 1 (.s 1)),.s (.ext 2 (.s 2)),.w (.loc (.of 6)) none (.alloc [.zf,.zf]),.q (.of 5) (.mv (.s 2)),.w .none none (.store 2 (.t (.of 6)) (.s 1)),.q (.of 7) (.mv (.s 0))]
def F40.t2:IR:=.reg [.s (.mv (.t (.of 7))),.q (.of 10) (.bin .neq .int (.s 0) (.c (I 0)))]
def F40.t3:IR:=.reg [.s (.mv (.t (.of 7))),.q (.of 3) (.mv (.c (.bool false))),.q (.of 4) (.mv (.s 0))]
def F40.t4:IR:=.seq F40.t3 .ret
def F40.t5:IR:=.cond (.t (.of 10)) F40.t4 .skip
def F40.t6:IR:=.seq F40.t2 F40.t5
def F40.t7:IR:=.reg [.s (.oz 1 2 (.t (.of 6)) (.c (I 0))),.q (.of 11) (.load (.s 0)),.q (.of 12) (.len (.t (.of 11))),.q (.of 13) (.mv (.c (I 0)))]
def F40.t8:IR:=.reg [.q (.of 14) (.bin .lss .int (.t (.of 13)) (.t (.of 12)))]
def F40.t9:IR:=.cond (.t (.of 14)) .skip (.exit 0)
def F40.t10:IR:=.reg [.s (.zo 2 (.t (.of 11)) (.t (.of 13))),.s (.zh 2 (.s 0)),.w (.loc (.of 8)) none (.alloc [.zf,(.bool false)]),.w .none none (.store 2 (.t (.of 8)) (.s 0))]
def F40.t11:IR:=.reg [.s (.oz 1 2 (.t (.of 6)) (.c (I 1))),.q (.of 15) (.load (.s 0)),.q (.of 16) (.len (.t (.of 15))),.q (.of 17) (.mv (.c (I 0)))]
def F40.t12:IR:=.reg [.q (.of 18) (.bin .lss .int (.t (.of 17)) (.t (.of 16)))]
def F40.t13:IR:=.cond (.t (.of 18)) .skip (.exit 2)
def F40.t14:IR:=.reg [.s (.zo 2 (.t (.of 15)) (.t (.of 17))),.s (.zh 2 (.s 0)),.w (.loc (.of 9)) none (.alloc [.zf,(.bool false)]),.w .none none (.store 2 (.t (.of 9)) (.s 0))]
def F40.t15:IR:=.yw [] [(.s (.mv (.t (.of 5))),3,[]),(.s (.zh 2 (.t (.of 8))),0,[]),(.s (.zh 2 (.t (.of 9))),0,[]),(.s (.zh 2 (.t (.of 8))),1,[]),(.w .push none (.call (.c (.fn 122 (.of 122) [])) [(.s 2),(.s 1)]),0,[]),(.w .push none (.call (.c (.fn 124 (.of 124) [])) [(.s 1)]),0,[]),(.w .push none (.call (.c (.fn 122 (.of 122) [])) [(.s 1),(.s 0)]),0,[]),(.w .push none (.call (.c (.fn 121 (.of 121) [])) [(.s 6),(.s 0)]),0,[]),(.q (.of 19) (.not (.s 0)),0,[])]
def F40.t16:IR:=.reg [.q (.of 3) (.mv (.c (.bool false))),.q (.of 4) (.mv (.c (I 0)))]
def F40.t17:IR:=.seq F40.t16 .ret
def F40.t18:IR:=.cond (.t (.of 19)) F40.t17 .skip
def F40.t19:IR:=.seq F40.t15 F40.t18
def F40.t20:IR:=.seq F40.t14 F40.t19
def F40.t21:IR:=.block 3 F40.t20
def F40.t22:IR:=.reg [.s (.bin .add .int (.t (.of 17)) (.c (I 1))),.q (.of 17) (.mv (.s 0))]
def F40.t23:IR:=.seq F40.t21 F40.t22
def F40.t24:IR:=.seq F40.t13 F40.t23
def F40.t25:IR:=.seq F40.t12 F40.t24
def F40.t26:IR:=.loop F40.t25
def F40.t27:IR:=.block 2 F40.t26
def F40.t28:IR:=.seq F40.t11 F40.t27
def F40.t29:IR:=.seq F40.t10 F40.t28
def F40.t30:IR:=.block 1 F40.t29
def F40.t31:IR:=.reg [.s (.bin .add .int (.t (.of 13)) (.c (I 1))),.q (.of 13) (.mv (.s 0))]
def F40.t32:IR:=.seq F40.t30 F40.t31
def F40.t33:IR:=.seq F40.t9 F40.t32
def F40.t34:IR:=.seq F40.t8 F40.t33
def F40.t35:IR:=.loop F40.t34
def F40.t36:IR:=.block 0 F40.t35
def F40.t37:IR:=.seq F40.t7 F40.t36
def F40.t38:IR:=.reg [.q (.of 3) (.mv (.c (.bool true))),.q (.of 4) (.mv (.c (I 0)))]
def F40.t39:IR:=.seq F40.t38 .ret
def F40.t40:IR:=.seq F40.t37 F40.t39
def F40.t41:IR:=.seq F40.t6 F40.t40
def F40.t42:IR:=.seq F40.t1 F40.t41
def F40.t43:IR:=.seq F40.t0 F40.t42
theorem F40.xq:IR.run F40.t0 C N O K (F40.fr b c g e f i l q p s a d o u v w y z A B) h nx =
 K (F40.fr b c g (.bool false) (I 0) i l q p s a d o u v w y z A B) h nx:=by kernel_rfl
theorem F40.xu:IR.run F40.t1 C N O K (F40.fr b c g e f i l q p s a d o u v w y z A B) h nx =
 C.fn 120 (.of 120) [b,c,g] h nx fun v1 h2 n3=>bY 0 v1 fun v4=>bY 1 v1 fun v5=>bY 2 v1 fun v6=>yB [.zf,.zf] h2 n3 fun v7 h8 n9=>zM 2 v7 v5 h8 n9 fun vA hG nG=>K (F40.fr b c g e f v4 v7 v6 p s a d o u v w y z A B) hG nG:=by kernel_rfl
theorem F40.fO:IR.run F40.t2 C N O K (F40.fr b c g e f i l q p s a d o u v w y z A B) h nx =
 zx .neq .int q (I 0) fun v1=>K (F40.fr b c g e f i l q p s v1 d o u v w y z A B) h nx:=by kernel_rfl
theorem F40.rY:IR.run F40.t3 C N O K (F40.fr b c g e f i l q p s a d o u v w y z A B) h nx =
 K (F40.fr b c g (.bool false) q i l q p s a d o u v w y z A B) h nx:=by kernel_rfl
theorem F40.v10:Arg.ev (.t (.of 10)) ⟨(F40.fr b c g e f i l q p s a d o u v w y z A B),[]⟩=a:=by kernel_rfl
theorem F40.t7_s:IR.run F40.t7 C N O K (F40.fr b c g e f i l q p s a d o u v w y z A B) h nx =
 d5 1 2 l (I 0) fun v1=>zF v1 h fun v2=>sLen v2 fun v3=>K (F40.fr b c g e f i l q p s a v2 v3 (I 0) v w y z A B) h nx:=by kernel_rfl
theorem F40.eX:IR.run F40.t8 C N O K (F40.fr b c g e f i l q p s a d o u v w y z A B) h nx =
 zx .lss .int u o fun v1=>K (F40.fr b c g e f i l q p s a d o u v1 w y z A B) h nx:=by kernel_rfl
theorem F40.v14:Arg.ev (.t (.of 14)) ⟨(F40.fr b c g e f i l q p s a d o u v w y z A B),[]⟩=v:=by kernel_rfl
theorem F40.sN:IR.run F40.t10 C N O K (F40.fr b c g e f i l q p s a d o u v w y z A B) h nx =
 zS 2 d u fun v1=>zK 2 v1 h fun v2=>yB [.zf,(.bool false)] h nx fun v3 h4 n5=>zM 2 v3 v2 h4 n5 fun v6 h7 n8=>K (F40.fr b c g e f i l q v3 s a d o u v w y z A B) h7 n8:=by kernel_rfl
theorem F40.aZ:IR.run F40.t11 C N O K (F40.fr b c g e f i l q p s a d o u v w y z A B) h nx =
 d5 1 2 l (I 1) fun v1=>zF v1 h fun v2=>sLen v2 fun v3=>K (F40.fr b c g e f i l q p s a d o u v v2 v3 (I 0) A B) h nx:=by kernel_rfl
theorem F40.zam:IR.run F40.t12 C N O K (F40.fr b c g e f i l q p s a d o u v w y z A B) h nx =
 zx .lss .int z y fun v1=>K (F40.fr b c g e f i l q p s a d o u v w y z v1 B) h nx:=by kernel_rfl
theorem F40.v18:Arg.ev (.t (.of 18)) ⟨(F40.fr b c g e f i l q p s a d o u v w y z A B),[]⟩=A:=by kernel_rfl
theorem F40.zas:IR.run F40.t14 C N O K (F40.fr b c g e f i l q p s a d o u v w y z A B) h nx =
 zS 2 w z fun v1=>zK 2 v1 h fun v2=>yB [.zf,(.bool false)] h nx fun v3 h4 n5=>zM 2 v3 v2 h4 n5 fun v6 h7 n8=>K (F40.fr b c g e f i l q p v3 a d o u v w y z A B) h7 n8:=by kernel_rfl
theorem F40.zaj:IR.run F40.t15 C N O K (F40.fr b c g e f i l q p s a d o u v w y z A B) h nx =
 zK 2 p h fun v1=>zK 2 s h fun v2=>zK 2 p h fun v3=>C.fn 122 (.of 122) [v1,v2] h nx fun v4 h5 n6=>(zK 2 p h5 fun vH=>zL vH v3 (zL i i (C.fn 124 (.of 124) [v3] h5 n6 fun v7 h8 n9=>zL i i (C.fn 122 (.of 122) [v4,v7] h8 n9 fun vA hG nG=>zL i i (C.fn 121 (.of 121) [i,vA] hG nG fun vD hH nI=>sNot vD fun vG=>K (F40.fr b c g e f i l q p s a d o u v w y z A vG) hH nI))))):=by kernel_rfl
theorem F40.au:IR.run F40.t16 C N O K (F40.fr b c g e f i l q p s a d o u v w y z A B) h nx =
 K (F40.fr b c g (.bool false) (I 0) i l q p s a d o u v w y z A B) h nx:=by kernel_rfl
theorem F40.v19:Arg.ev (.t (.of 19)) ⟨(F40.fr b c g e f i l q p s a d o u v w y z A B),[]⟩=B:=by kernel_rfl
theorem F40.zfn:IR.run F40.t22 C N O K (F40.fr b c g e f i l q p s a d o u v w y z A B) h nx =
 zx .add .int z (I 1) fun v1=>K (F40.fr b c g e f i l q p s a d o u v w y v1 A B) h nx:=by kernel_rfl
theorem F40.zmz (Inv:Nat->AV->T Blk->Pa->Prop) {m:Nat} (hm:m<N) (hi:Inv m z h nx)
  (step:∀ (m:Nat) (z3 z4 z9 zH zN zO:AV) (h:T Blk) (nx:Pa) (R:Ks Prop),Inv m zH h nx->(∀ (m':Nat) (w3 w4 w9 wG wI wJ:AV) (h':T Blk) (nx':Pa),m'<m->Inv m' wG h' nx'->R (F40.fr b c g w3 w4 i l q p w9 a d o u v w y wG wI wJ) h' nx'=.ok True)->IR.run F40.t25 C N O R (F40.fr b c g z3 z4 i l q p z9 a d o u v w y zH zN zO) h nx=.ok True) :
  IR.run F40.t26 C N O K (F40.fr b c g e f i l q p s a d o u v w y z A B) h nx=.ok True:=by
 rw [F40.t26];refine yK (fun m tm h nx=>∃ z3 z4 z9 zH zN zO,tm=(F40.fr b c g z3 z4 i l q p z9 a d o u v w y zH zN zO)/\Inv m zH h nx) ?_ hm ⟨_,_,_,_,_,_,rfl,hi⟩;rintro m tm h nx R ⟨z3,z4,z9,zH,zN,zO,rfl,hi⟩ hR;exact step m z3 z4 z9 zH zN zO h nx R hi fun m' w3 w4 w9 wG wI wJ h' nx' hlt hi'=>hR m' _ h' nx' hlt ⟨_,_,_,_,_,_,rfl,hi'⟩
theorem F40.zfm:IR.run F40.t31 C N O K (F40.fr b c g e f i l q p s a d o u v w y z A B) h nx =
 zx .add .int u (I 1) fun v1=>K (F40.fr b c g e f i l q p s a d o v1 v w y z A B) h nx:=by kernel_rfl
theorem F40.zwg (Inv:Nat->AV->T Blk->Pa->Prop) {m:Nat} (hm:m<N) (hi:Inv m u h nx)
  (step:∀ (m:Nat) (z3 z4 z8 z9 zC zD zE zG zH zN zO:AV) (h:T Blk) (nx:Pa) (R:Ks Prop),Inv m zC h nx->(∀ (m':Nat) (w3 w4 w8 w9 wC wD wE wF wG wI wJ:AV) (h':T Blk) (nx':Pa),m'<m->Inv m' wC h' nx'->R (F40.fr b c g w3 w4 i l q w8 w9 a d o wC wD wE wF wG wI wJ) h' nx'=.ok True)->IR.run F40.t34 C N O R (F40.fr b c g z3 z4 i l q z8 z9 a d o zC zD zE zG zH zN zO) h nx=.ok True) :
  IR.run F40.t35 C N O K (F40.fr b c g e f i l q p s a d o u v w y z A B) h nx=.ok True:=by
 rw [F40.t35];refine yK (fun m tm h nx=>∃ z3 z4 z8 z9 zC zD zE zG zH zN zO,tm=(F40.fr b c g z3 z4 i l q z8 z9 a d o zC zD zE zG zH zN zO)/\Inv m zC h nx) ?_ hm ⟨_,_,_,_,_,_,_,_,_,_,_,rfl,hi⟩;rintro m tm h nx R ⟨z3,z4,z8,z9,zC,zD,zE,zG,zH,zN,zO,rfl,hi⟩ hR;exact step m z3 z4 z8 z9 zC zD zE zG zH zN zO h nx R hi fun m' w3 w4 w8 w9 wC wD wE wF wG wI wJ h' nx' hlt hi'=>hR m' _ h' nx' hlt ⟨_,_,_,_,_,_,_,_,_,_,_,rfl,hi'⟩
theorem F40.zfo:IR.run F40.t38 C N O K (F40.fr b c g e f i l q p s a d o u v w y z A B) h nx =
 K (F40.fr b c g (.bool true) (I 0) i l q p s a d o u v w y z A B) h nx:=by kernel_rfl
theorem F40.tab:T.get none (.of 40) tbl=some F40:=by kernel_rfl
theorem F40.bind (k:T AV->OP):zX F40.params [a0,a1,a2] F40.init k=k (F40.fr a0 a1 a2 .undef .undef .undef .undef .undef .undef .undef .undef .undef .undef .undef .undef .undef .undef .undef .undef .undef):=by kernel_rfl
theorem F40.jf:F40.body=F40.t43:=by kernel_rfl
theorem F40.go:zV tbl N C (.of 40) [a0,a1,a2] h nx K0=IR.run F40.t43 C N (fnO F40.res K0) (gq F40.res K0) (F40.fr a0 a1 a2 .undef .undef .undef .undef .undef .undef .undef .undef .undef .undef .undef .undef .undef .undef .undef .undef .undef) h nx:=by
 rw [zJ F40.tab,F40.bind,F40.jf];kernel_rfl
theorem F40.ret:gq F40.res K0 (F40.fr b c g e f i l q p s a d o u v w y z A B) h nx=K0 (.tup [e,f]) h nx:=by kernel_rfl
end
end Go.Ev
namespace Go.Ev
open Go Go.Proofs
set_option maxRecDepth 100000
section
variable {N:Nat} {C:Calls Prop} {K0:Kw Prop} {K:Ks Prop} {h:T Blk} {nx:Pa} {b c g e f i l q p s a0:AV} {O:uq Prop} {tm:T AV} {Kt:KTm} {r:List RO} {s0 s1 s2 s3 s4 s5 s6 s7 s8 s9 s10 s11 s12 s13 s14 s15 s16 s17 s18 s19 s20 s21 s22 s23 s24 s25 s26 s27 s28 s29 s30 s31 s32 s33 s34 s35 s36 s37 s38 s39 s40 s41 s42 s43 s44 s45 s46 s47 s48 s49 s50 s51 s52 s53 s54 s55 s56 s57 s58 s59:AV}
def yu.t0:IR:=.reg [.w (.loc (.of 1)) none (.box (.t (.of 0))),.w (.loc (.of 2)) none (.alloc [.zf,(.bool false)])]
def yu.t1:IR:=.yw [(.alloc [.zf,(.bool false)])] [(.s (.zu 0 (.t (.of 1))),2,[]),(.s (.load (.s 0)),2,[]),(.s (.len (.s 0)),2,[(.gy 1 8 [(I 0)] (.s 0) (.s 0))]),(.s (.zu 1 (.t (.of 1))),2,[]),(.s (.load (.s 0)),2,[]),(.w .push none (.gy 1 8 [(I 0)] (.s 2) (.s 2)),0,[]),(.s (.build [.zf,(.bool false)] [(0,1,(.s 0)),(1,1,(.s 1))]),1,[]),(.w (.loc (.of 3)) none (.alloc [.zf,(.bool false)]),0,[]),(.w .none none (.store 2 (.t (.of 3)) (.s 0)),0,[])]
def yu.t2:IR:=.reg [.s (.zu 0 (.t (.of 1))),.q (.of 6) (.load (.s 0)),.q (.of 7) (.len (.t (.of 6))),.q (.of 8) (.mv (.c (I 0)))]
def yu.t3:IR:=.reg [.q (.of 9) (.bin .lss .int (.t (.of 8)) (.t (.of 7)))]
def yu.t4:IR:=.cond (.t (.of 9)) .skip (.exit 0)
def yu.t5:IR:=.reg [.s (.mv (.t (.of 8))),.s (.zo 1 (.t (.of 6)) (.t (.of 8))),.s (.load (.s 0)),.q (.of 4) (.mv (.s 2)),.q (.of 5) (.mv (.s 0))]
def yu.t6:IR:=.reg [.s (.zu 0 (.t (.of 3))),.s (.load (.s 0)),.s (.mv (.t (.of 5))),.s (.mv (.t (.of 4))),.s (.zo 1 (.s 2) (.s 1)),.w .none none (.store 1 (.s 0) (.s 1))]
def yu.t7:IR:=.seq yu.t5 yu.t6
def yu.t8:IR:=.block 1 yu.t7
def yu.t9:IR:=.reg [.s (.bin .add .int (.t (.of 8)) (.c (I 1))),.q (.of 8) (.mv (.s 0))]
def yu.t10:IR:=.seq yu.t8 yu.t9
def yu.t11:IR:=.seq yu.t4 yu.t10
def yu.t12:IR:=.seq yu.t3 yu.t11
def yu.t13:IR:=.loop yu.t12
def yu.t14:IR:=.block 0 yu.t13
def yu.t15:IR:=.seq yu.t2 yu.t14
def yu.t16:IR:=.reg [.s (.zh 2 (.t (.of 3))),.w .none none (.store 2 (.t (.of 2)) (.s 0))]
def yu.t17:IR:=.seq yu.t16 .ret
def yu.t18:IR:=.seq yu.t15 yu.t17
def yu.t19:IR:=.seq yu.t1 yu.t18
def yu.t20:IR:=.seq yu.t0 yu.t19
theorem yu.xq:IR.run yu.t0 C N O K (yu.fr b c g e f i l q p s) h nx =
 rP b h nx fun v1 h2 n3=>yB [.zf,(.bool false)] h2 n3 fun v4 h5 n6=>K (yu.fr b v1 v4 e f i l q p s) h5 n6:=by kernel_rfl
theorem yu.xu:IR.run yu.t1 C N O K (yu.fr b c g e f i l q p s) h nx =
 sChk (true&&true) (zQ 0 c fun v1=>zF v1 h fun v2=>sLen v2 fun v3=>sChk (mkSl 8 v3 v3&&true) (zQ 1 c fun v4=>zF v4 h fun v5=>gU 1 8 [(I 0)] v3 v3 h nx fun v6 h7 n8=>(zF v4 h7 fun vU=>zL vU v5 ((zQ 1 c fun v25=>zL v25 v4 ((sLen v2 fun vO=>zL vO v3 ((zF v1 h7 fun vN=>zL vN v2 ((zQ 0 c fun vM=>zL vM v1 (gO [.zf,(.bool false)] [(0,1,v6),(1,1,v5)] fun v9=>yB [.zf,(.bool false)] h7 n8 fun vA hG nG=>(gO [.zf,(.bool false)] [(0,1,v6),(1,1,v5)] fun vL=>zL vL v9 ((zF v4 hG fun vK=>zL vK v5 ((zQ 1 c fun vJ=>zL vJ v4 ((sLen v2 fun vI=>zL vI v3 ((zF v1 hG fun vH=>zL vH v2 ((zQ 0 c fun vG=>zL vG v1 (zM 2 vA v9 hG nG fun vD hH nI=>K (yu.fr b c g vA f i l q p s) hH nI)))))))))))))))))))))))):=by kernel_rfl
theorem yu.fO:IR.run yu.t2 C N O K (yu.fr b c g e f i l q p s) h nx =
 zQ 0 c fun v1=>zF v1 h fun v2=>sLen v2 fun v3=>K (yu.fr b c g e f i v2 v3 (I 0) s) h nx:=by kernel_rfl
theorem yu.rY:IR.run yu.t3 C N O K (yu.fr b c g e f i l q p s) h nx =
 zx .lss .int p q fun v1=>K (yu.fr b c g e f i l q p v1) h nx:=by kernel_rfl
theorem yu.v9:Arg.ev (.t (.of 9)) ⟨(yu.fr b c g e f i l q p s),[]⟩=s:=by kernel_rfl
theorem yu.t5_s:IR.run yu.t5 C N O K (yu.fr b c g e f i l q p s) h nx =
 zS 1 l p fun v1=>zF v1 h fun v2=>K (yu.fr b c g e p v2 l q p s) h nx:=by kernel_rfl
theorem yu.t6_s:IR.run yu.t6 C N O K (yu.fr b c g e f i l q p s) h nx =
 zQ 0 e fun v1=>zF v1 h fun v2=>zS 1 v2 i fun v3=>zM 1 v3 f h nx fun v4 h5 n6=>K (yu.fr b c g e f i l q p s) h5 n6:=by kernel_rfl
theorem yu.t9_s:IR.run yu.t9 C N O K (yu.fr b c g e f i l q p s) h nx =
 zx .add .int p (I 1) fun v1=>K (yu.fr b c g e f i l q v1 s) h nx:=by kernel_rfl
theorem yu.zwh (Inv:Nat->AV->T Blk->Pa->Prop) {m:Nat} (hm:m<N) (hi:Inv m p h nx)
  (step:∀ (m:Nat) (z4 z5 z8 z9:AV) (h:T Blk) (nx:Pa) (R:Ks Prop),Inv m z8 h nx->(∀ (m':Nat) (w4 w5 w8 w9:AV) (h':T Blk) (nx':Pa),m'<m->Inv m' w8 h' nx'->R (yu.fr b c g e w4 w5 l q w8 w9) h' nx'=.ok True)->IR.run yu.t12 C N O R (yu.fr b c g e z4 z5 l q z8 z9) h nx=.ok True) :
  IR.run yu.t13 C N O K (yu.fr b c g e f i l q p s) h nx=.ok True:=by
 rw [yu.t13];refine yK (fun m tm h nx=>∃ z4 z5 z8 z9,tm=(yu.fr b c g e z4 z5 l q z8 z9)/\Inv m z8 h nx) ?_ hm ⟨_,_,_,_,rfl,hi⟩;rintro m tm h nx R ⟨z4,z5,z8,z9,rfl,hi⟩ hR;exact step m z4 z5 z8 z9 h nx R hi fun m' w4 w5 w8 w9 h' nx' hlt hi'=>hR m' _ h' nx' hlt ⟨_,_,_,_,rfl,hi'⟩
theorem yu.au:IR.run yu.t16 C N O K (yu.fr b c g e f i l q p s) h nx =
 zK 2 e h fun v1=>zM 2 g v1 h nx fun v2 h3 n4=>K (yu.fr b c g e f i l q p s) h3 n4:=by kernel_rfl
theorem yu.tab:T.get none (.of 124) tbl=some yu:=by kernel_rfl
theorem yu.bind (k:T AV->OP):zX yu.params [a0] yu.init k=k (yu.fr a0 .undef .undef .undef .undef .undef .undef .undef .undef .undef):=by kernel_rfl
theorem yu.jf:yu.body=yu.t20:=by kernel_rfl
theorem yu.go:zV tbl N C (.of 124) [a0] h nx K0=IR.run yu.t20 C N (fnO yu.res K0) (gq yu.res K0) (yu.fr a0 .undef .undef .undef .undef .undef .undef .undef .undef .undef) h nx:=by
 rw [zJ yu.tab,yu.bind,yu.jf];kernel_rfl
theorem yu.ret:gq yu.res K0 (yu.fr b c g e f i l q p s) h nx=zK 2 g h fun v1=>K0 v1 h nx:=by kernel_rfl
end
end Go.Ev
namespace Go.Ev
open Go Go.Proofs
set_option maxRecDepth 100000
section
variable {N:Nat} {C:Calls Prop} {K0:Kw Prop} {K:Ks Prop} {h:T Blk} {nx:Pa} {b c g e f i l q p s a d a0 a1 a2:AV} {O:uq Prop} {tm:T AV} {Kt:KTm} {r:List RO} {s0 s1 s2 s3 s4 s5 s6 s7 s8 s9 s10 s11 s12 s13 s14 s15 s16 s17 s18 s19 s20 s21 s22 s23 s24 s25 s26 s27 s28 s29 s30 s31 s32 s33 s34 s35 s36 s37 s38 s39 s40 s41 s42 s43 s44 s45 s46 s47 s48 s49 s50 s51 s52 s53 s54 s55 s56 s57 s58 s59:AV}
end
end Go.Ev
namespace Go.Ev
open Go Go.Proofs
set_option maxRecDepth 100000
section
variable {N:Nat} {C:Calls Prop} {K0:Kw Prop} {K:Ks Prop} {h:T Blk} {nx:Pa} {b c g e f i l q p s a d o a0 a1:AV} {O:uq Prop} {tm:T AV} {Kt:KTm} {r:List RO} {s0 s1 s2 s3 s4 s5 s6 s7 s8 s9 s10 s11 s12 s13 s14 s15 s16 s17 s18 s19 s20 s21 s22 s23 s24 s25 s26 s27 s28 s29 s30 s31 s32 s33 s34 s35 s36 s37 s38 s39 s40 s41 s42 s43 s44 s45 s46 s47 s48 s49 s50 s51 s52 s53 s54 s55 s56 s57 s58 s59:AV}
def F75.t0:IR:=.reg [.q (.of 2) (.mv (.c .zf)),.q (.of 3) (.mv (.c (I 0)))]
def F75.t1:IR:=.reg [.s (.mv (.t (.of 0))),.s (.mv (.t (.of 1))),.w .push none (.call (.c (.fn 156 (.of 156) [])) [(.s 1),(.s 0)]),.q (.of 4) (.mv (.s 0))]
def F75.t2:IR:=.reg [.s (.mv (.t (.of 4))),.q (.of 5) (.bin .neq .int (.s 0) (.c (I 0)))]
def F75.t3:IR:=.reg [.s (.mv (.t (.of 4))),.q (.of 2) (.mv (.c .zf)),.q (.of 3) (.mv (.s 0))]
def F75.t4:IR:=.seq F75.t3 .ret
def F75.t5:IR:=.cond (.t (.of 5)) F75.t4 .skip
def F75.t6:IR:=.seq F75.t2 F75.t5
def F75.t7:IR:=.seq F75.t1 F75.t6
def F75.t8:IR:=.reg [.s (.mv (.t (.of 0))),.s (.mv (.t (.of 1))),.w .push none (.call (.c (.fn 157 (.of 157) [])) [(.s 1),(.s 0)]),.s (.ext 0 (.s 0)),.s (.ext 1 (.s 1)),.q (.of 2) (.mv (.s 1)),.q (.of 3) (.mv (.s 0))]
def F75.t9:IR:=.seq F75.t8 .ret
def F75.t10:IR:=.seq F75.t7 F75.t9
def F75.t11:IR:=.seq F75.t0 F75.t10
theorem F75.xq:IR.run F75.t0 C N O K (F75.fr b c g e f i) h nx =
 K (F75.fr b c .zf (I 0) f i) h nx:=by kernel_rfl
theorem F75.xu:IR.run F75.t1 C N O K (F75.fr b c g e f i) h nx =
 C.fn 156 (.of 156) [b,c] h nx fun v1 h2 n3=>K (F75.fr b c g e v1 i) h2 n3:=by kernel_rfl
theorem F75.fO:IR.run F75.t2 C N O K (F75.fr b c g e f i) h nx =
 zx .neq .int f (I 0) fun v1=>K (F75.fr b c g e f v1) h nx:=by kernel_rfl
theorem F75.rY:IR.run F75.t3 C N O K (F75.fr b c g e f i) h nx =
 K (F75.fr b c .zf f f i) h nx:=by kernel_rfl
theorem F75.v5:Arg.ev (.t (.of 5)) ⟨(F75.fr b c g e f i),[]⟩=i:=by kernel_rfl
theorem F75.eX:IR.run F75.t8 C N O K (F75.fr b c g e f i) h nx =
 C.fn 157 (.of 157) [b,c] h nx fun v1 h2 n3=>bY 0 v1 fun v4=>bY 1 v1 fun v5=>K (F75.fr b c v4 v5 f i) h2 n3:=by kernel_rfl
theorem F75.tab:T.get none (.of 75) tbl=some F75:=by kernel_rfl
theorem F75.bind (k:T AV->OP):zX F75.params [a0,a1] F75.init k=k (F75.fr a0 a1 .undef .undef .undef .undef):=by kernel_rfl
theorem F75.jf:F75.body=F75.t11:=by kernel_rfl
theorem F75.go:zV tbl N C (.of 75) [a0,a1] h nx K0=IR.run F75.t11 C N (fnO F75.res K0) (gq F75.res K0) (F75.fr a0 a1 .undef .undef .undef .undef) h nx:=by
 rw [zJ F75.tab,F75.bind,F75.jf];kernel_rfl
theorem F75.ret:gq F75.res K0 (F75.fr b c g e f i) h nx=K0 (.tup [g,e]) h nx:=by kernel_rfl
def F47.t0:IR:=.reg [.q (.of 2) (.mv (.c .zf)),.q (.of 3) (.mv (.c (I 0)))]
def F47.t1:IR:=.reg [.s (.mv (.t (.of 0))),.s (.mv (.t (.of 1))),.w .push none (.call (.c (.fn 75 (.of 75) [])) [(.s 1),(.s 0)]),.s (.mv (.s 0)),.s (.ext 0 (.s 0)),.s (.ext 1 (.s 1)),.q (.of 4) (.mv (.s 1)),.q (.of 5) (.mv (.s 0))]
def F47.t2:IR:=.reg [.s (.mv (.t (.of 5))),.q (.of 6) (.bin .neq .int (.s 0) (.c (I 0)))]
def F47.t3:IR:=.reg [.s (.mv (.t (.of 5))),.q (.of 2) (.mv (.c .zf)),.q (.of 3) (.mv (.s 0))]
def F47.t4:IR:=.seq F47.t3 .ret
def F47.t5:IR:=.cond (.t (.of 6)) F47.t4 .skip
def F47.t6:IR:=.seq F47.t2 F47.t5
def F47.t7:IR:=.reg [.s (.mv (.t (.of 4))),.s (.zo 1 (.s 0) (.c (I 0))),.s (.load (.s 0)),.q (.of 2) (.mv (.s 0)),.q (.of 3) (.mv (.c (I 0)))]
def F47.t8:IR:=.seq F47.t7 .ret
def F47.t9:IR:=.seq F47.t6 F47.t8
def F47.t10:IR:=.seq F47.t1 F47.t9
def F47.t11:IR:=.seq F47.t0 F47.t10
theorem F47.xq:IR.run F47.t0 C N O K (F47.fr b c g e f i l) h nx =
 K (F47.fr b c .zf (I 0) f i l) h nx:=by kernel_rfl
theorem F47.xu:IR.run F47.t1 C N O K (F47.fr b c g e f i l) h nx =
 C.fn 75 (.of 75) [b,c] h nx fun v1 h2 n3=>bY 0 v1 fun v4=>bY 1 v1 fun v5=>K (F47.fr b c g e v4 v5 l) h2 n3:=by kernel_rfl
theorem F47.fO:IR.run F47.t2 C N O K (F47.fr b c g e f i l) h nx =
 zx .neq .int i (I 0) fun v1=>K (F47.fr b c g e f i v1) h nx:=by kernel_rfl
theorem F47.rY:IR.run F47.t3 C N O K (F47.fr b c g e f i l) h nx =
 K (F47.fr b c .zf i f i l) h nx:=by kernel_rfl
theorem F47.v6:Arg.ev (.t (.of 6)) ⟨(F47.fr b c g e f i l),[]⟩=l:=by kernel_rfl
theorem F47.t7_s:IR.run F47.t7 C N O K (F47.fr b c g e f i l) h nx =
 zS 1 f (I 0) fun v1=>zF v1 h fun v2=>K (F47.fr b c v2 (I 0) f i l) h nx:=by kernel_rfl
theorem F47.tab:T.get none (.of 47) tbl=some F47:=by kernel_rfl
theorem F47.bind (k:T AV->OP):zX F47.params [a0,a1] F47.init k=k (F47.fr a0 a1 .undef .undef .undef .undef .undef):=by kernel_rfl
theorem F47.jf:F47.body=F47.t11:=by kernel_rfl
theorem F47.go:zV tbl N C (.of 47) [a0,a1] h nx K0=IR.run F47.t11 C N (fnO F47.res K0) (gq F47.res K0) (F47.fr a0 a1 .undef .undef .undef .undef .undef) h nx:=by
 rw [zJ F47.tab,F47.bind,F47.jf];kernel_rfl
theorem F47.ret:gq F47.res K0 (F47.fr b c g e f i l) h nx=K0 (.tup [g,e]) h nx:=by kernel_rfl
def yj.t0:IR:=.reg [.w (.loc (.of 2)) none (.box (.t (.of 1))),.w (.loc (.of 3)) none (.alloc [.zf]),.w (.loc (.of 4)) none (.alloc [(I 0)])]
def yj.t1:IR:=.reg [.w (.loc (.of 5)) none (.alloc [.zf])]
def yj.t2:IR:=.reg [.s (.mv (.t (.of 0))),.w (.loc (.of 8)) none (.call (.c (.fn 90 (.of 90) [])) [(.s 0)])]
def yj.t3:IR:=.reg [.w (.loc (.of 6)) none (.alloc [.zf,(.bool false)]),.w .none none (.store 2 (.t (.of 6)) (.t (.of 10)))]
def yj.t4:IR:=.reg [.s (.zh 2 (.t (.of 6))),.s (.load (.t (.of 2))),.w .push none (.call (.c (.fn 135 (.of 135) [])) [(.s 1),(.s 0)]),.q (.of 7) (.mv (.s 0))]
def yj.t5:IR:=.reg [.s (.mv (.t (.of 7))),.w (.loc (.of 11)) none (.call (.c (.fn 136 (.of 136) [])) [(.s 0),(.c (.fn 137 (.of 137) []))])]
def yj.t6:IR:=.reg [.w .none none (.store 1 (.t (.of 3)) (.c .zf)),.w .none none (.store 1 (.t (.of 4)) (.c (I 3)))]
def yj.t7:IR:=.seq yj.t6 .ret
def yj.t8:IR:=.cond (.t (.of 11)) yj.t7 .skip
def yj.t9:IR:=.seq yj.t5 yj.t8
def yj.t10:IR:=.reg [.s (.load (.t (.of 5))),.s (.mv (.t (.of 7))),.w .push none (.zy 1 1 [.zf] [(0,1,(.s 0))]),.w .push none (.app 1 24 (.s 2) (.s 0)),.w .none none (.store 1 (.t (.of 5)) (.s 0))]
def yj.t11:IR:=.seq yj.t9 yj.t10
def yj.t12:IR:=.seq yj.t4 yj.t11
def yj.t13:IR:=.block 1 yj.t12
def yj.t14:IR:=.rf (.t (.of 8)) [(.of 9),(.of 10)] yj.t3 yj.t13
def yj.t15:IR:=.block 0 yj.t14
def yj.t16:IR:=.seq yj.t2 yj.t15
def yj.t17:IR:=.reg [.s (.load (.t (.of 5))),.w .push none (.call (.c (.fn 200 (.of 200) [])) [(.s 0),(.c (.fn 201 (.of 201) []))])]
def yj.t18:IR:=.reg [.s (.load (.t (.of 5))),.w .push none (.call (.c (.fn 202 (.of 202) [])) [(.s 0),(.c (.fn 158 (.of 158) []))]),.w .none none (.store 1 (.t (.of 3)) (.s 0)),.w .none none (.store 1 (.t (.of 4)) (.c (I 0)))]
def yj.t19:IR:=.seq yj.t18 .ret
def yj.t20:IR:=.seq yj.t17 yj.t19
def yj.t21:IR:=.seq yj.t16 yj.t20
def yj.t22:IR:=.seq yj.t1 yj.t21
def yj.t23:IR:=.seq yj.t0 yj.t22
theorem yj.xq:IR.run yj.t0 C N O K (yj.fr b c g e f i l q p s a d) h nx =
 rP c h nx fun v1 h2 n3=>yB [.zf] h2 n3 fun v4 h5 n6=>yB [(I 0)] h5 n6 fun v7 h8 n9=>K (yj.fr b c v1 v4 v7 i l q p s a d) h8 n9:=by kernel_rfl
theorem yj.xu:IR.run yj.t1 C N O K (yj.fr b c g e f i l q p s a d) h nx =
 yB [.zf] h nx fun v1 h2 n3=>K (yj.fr b c g e f v1 l q p s a d) h2 n3:=by kernel_rfl
theorem yj.fO:IR.run yj.t2 C N O K (yj.fr b c g e f i l q p s a d) h nx =
 C.fn 90 (.of 90) [b] h nx fun v1 h2 n3=>K (yj.fr b c g e f i l q v1 s a d) h2 n3:=by kernel_rfl
theorem yj.rY:IR.run yj.t3 C N O K (yj.fr b c g e f i l q p s a d) h nx =
 yB [.zf,(.bool false)] h nx fun v1 h2 n3=>zM 2 v1 a h2 n3 fun v4 h5 n6=>K (yj.fr b c g e f i v1 q p s a d) h5 n6:=by kernel_rfl
theorem yj.t4_s:IR.run yj.t4 C N O K (yj.fr b c g e f i l q p s a d) h nx =
 zK 2 l h fun v1=>zF g h fun v2=>C.fn 135 (.of 135) [v1,v2] h nx fun v3 h4 n5=>K (yj.fr b c g e f i l v3 p s a d) h4 n5:=by kernel_rfl
theorem yj.t5_s:IR.run yj.t5 C N O K (yj.fr b c g e f i l q p s a d) h nx =
 C.fn 136 (.of 136) [q,(.fn 137 (.of 137) [])] h nx fun v1 h2 n3=>K (yj.fr b c g e f i l q p s a v1) h2 n3:=by kernel_rfl
theorem yj.t6_s:IR.run yj.t6 C N O K (yj.fr b c g e f i l q p s a d) h nx =
 zM 1 e .zf h nx fun v1 h2 n3=>zM 1 f (I 3) h2 n3 fun v4 h5 n6=>K (yj.fr b c g e f i l q p s a d) h5 n6:=by kernel_rfl
theorem yj.v11:Arg.ev (.t (.of 11)) ⟨(yj.fr b c g e f i l q p s a d),[]⟩=d:=by kernel_rfl
theorem yj.sN:IR.run yj.t10 C N O K (yj.fr b c g e f i l q p s a d) h nx =
 zF i h fun v1=>jA 1 1 [.zf] [(0,1,q)] h nx fun v2 h3 n4=>tX 1 24 v1 v2 h3 n4 fun v5 h6 n7=>zM 1 i v5 h6 n7 fun v8 h9 nH=>K (yj.fr b c g e f i l q p s a d) h9 nH:=by kernel_rfl
theorem yj.zwi:Arg.ev (.t (.of 8)) ⟨(yj.fr b c g e f i l q p s a d),[]⟩=p:=by kernel_rfl
theorem yj.zwj {z0 z1:AV} (k:T AV->OP):zX [(.of 9),(.of 10)] [z0,z1] (yj.fr b c g e f i l q p s a d) k=k (yj.fr b c g e f i l q p z0 z1 d):=by kernel_rfl
theorem yj.oO:IR.run yj.t17 C N O K (yj.fr b c g e f i l q p s a d) h nx =
 zF i h fun v1=>C.fn 200 (.of 200) [v1,(.fn 201 (.of 201) [])] h nx fun v2 h3 n4=>K (yj.fr b c g e f i l q p s a d) h3 n4:=by kernel_rfl
theorem yj.zak:IR.run yj.t18 C N O K (yj.fr b c g e f i l q p s a d) h nx =
 zF i h fun v1=>C.fn 202 (.of 202) [v1,(.fn 158 (.of 158) [])] h nx fun v2 h3 n4=>zM 1 e v2 h3 n4 fun v5 h6 n7=>zM 1 f (I 0) h6 n7 fun v8 h9 nH=>K (yj.fr b c g e f i l q p s a d) h9 nH:=by kernel_rfl
theorem yj.tab:T.get none (.of 157) tbl=some yj:=by kernel_rfl
theorem yj.bind (k:T AV->OP):zX yj.params [a0,a1] yj.init k=k (yj.fr a0 a1 .undef .undef .undef .undef .undef .undef .undef .undef .undef .undef):=by kernel_rfl
theorem yj.jf:yj.body=yj.t23:=by kernel_rfl
theorem yj.go:zV tbl N C (.of 157) [a0,a1] h nx K0=IR.run yj.t23 C N (fnO yj.res K0) (gq yj.res K0) (yj.fr a0 a1 .undef .undef .undef .undef .undef .undef .undef .undef .undef .undef) h nx:=by
 rw [zJ yj.tab,yj.bind,yj.jf];kernel_rfl
theorem yj.ret:gq yj.res K0 (yj.fr b c g e f i l q p s a d) h nx=zF e h fun v1=>zF f h fun v2=>K0 (.tup [v1,v2]) h nx:=by kernel_rfl
def jm.t0:IR:=.reg [.q (.of 2) (.mv (.c (I 0)))]
def jm.t1:IR:=.reg [.s (.mv (.t (.of 1))),.w .push none (.call (.c (.fn 134 (.of 134) [])) [(.s 0)]),.q (.of 3) (.mv (.s 0))]
def jm.t2:IR:=.reg [.s (.mv (.t (.of 3))),.q (.of 4) (.bin .neq .int (.s 0) (.c (I 0)))]
def jm.t3:IR:=.reg [.s (.mv (.t (.of 3))),.q (.of 2) (.mv (.s 0))]
def jm.t4:IR:=.seq jm.t3 .ret
def jm.t5:IR:=.cond (.t (.of 4)) jm.t4 .skip
def jm.t6:IR:=.seq jm.t2 jm.t5
def jm.t7:IR:=.seq jm.t1 jm.t6
def jm.t8:IR:=.reg [.s (.mv (.t (.of 0))),.s (.mv (.t (.of 1))),.s (.len (.s 0)),.w .push none (.call (.c (.fn 22 (.of 22) [])) [(.s 2),(.s 0)]),.q (.of 2) (.mv (.s 0))]
def jm.t9:IR:=.seq jm.t8 .ret
def jm.t10:IR:=.seq jm.t7 jm.t9
def jm.t11:IR:=.seq jm.t0 jm.t10
theorem jm.xq:IR.run jm.t0 C N O K (jm.fr b c g e f) h nx =
 K (jm.fr b c (I 0) e f) h nx:=by kernel_rfl
theorem jm.xu:IR.run jm.t1 C N O K (jm.fr b c g e f) h nx =
 C.fn 134 (.of 134) [c] h nx fun v1 h2 n3=>K (jm.fr b c g v1 f) h2 n3:=by kernel_rfl
theorem jm.fO:IR.run jm.t2 C N O K (jm.fr b c g e f) h nx =
 zx .neq .int e (I 0) fun v1=>K (jm.fr b c g e v1) h nx:=by kernel_rfl
theorem jm.rY:IR.run jm.t3 C N O K (jm.fr b c g e f) h nx =
 K (jm.fr b c e e f) h nx:=by kernel_rfl
theorem jm.v4:Arg.ev (.t (.of 4)) ⟨(jm.fr b c g e f),[]⟩=f:=by kernel_rfl
theorem jm.eX:IR.run jm.t8 C N O K (jm.fr b c g e f) h nx =
 sLen c fun v1=>C.fn 22 (.of 22) [b,v1] h nx fun v2 h3 n4=>K (jm.fr b c v2 e f) h3 n4:=by kernel_rfl
theorem jm.tab:T.get none (.of 156) tbl=some jm:=by kernel_rfl
theorem jm.bind (k:T AV->OP):zX jm.params [a0,a1] jm.init k=k (jm.fr a0 a1 .undef .undef .undef):=by kernel_rfl
theorem jm.jf:jm.body=jm.t11:=by kernel_rfl
theorem jm.go:zV tbl N C (.of 156) [a0,a1] h nx K0=IR.run jm.t11 C N (fnO jm.res K0) (gq jm.res K0) (jm.fr a0 a1 .undef .undef .undef) h nx:=by
 rw [zJ jm.tab,jm.bind,jm.jf];kernel_rfl
theorem jm.ret:gq jm.res K0 (jm.fr b c g e f) h nx=K0 g h nx:=by kernel_rfl
def zi.t0:IR:=.reg [.q (.of 2) (.mv (.c .zf))]
def zi.t1:IR:=.reg [.s (.mv (.t (.of 0))),.s (.len (.s 0)),.q (.of 6) (.bin .lss .int (.s 0) (.c (I 2)))]
def zi.t2:IR:=.reg [.s (.mv (.t (.of 0))),.q (.of 2) (.mv (.s 0))]
def zi.t3:IR:=.seq zi.t2 .ret
def zi.t4:IR:=.cond (.t (.of 6)) zi.t3 .skip
def zi.t5:IR:=.seq zi.t1 zi.t4
def zi.t6:IR:=.reg [.q (.of 3) (.mv (.c (I 1)))]
def zi.t7:IR:=.reg [.s (.mv (.t (.of 3))),.s (.mv (.t (.of 0))),.s (.len (.s 0)),.q (.of 7) (.bin .lss .int (.s 2) (.s 0))]
def zi.t8:IR:=.cond (.t (.of 7)) .skip (.exit 0)
def zi.t9:IR:=.seq zi.t7 zi.t8
def zi.t10:IR:=.yw [] [(.s (.mv (.t (.of 1))),0,[]),(.s (.mv (.t (.of 0))),0,[]),(.s (.mv (.t (.of 3))),0,[]),(.s (.zo 1 (.s 1) (.s 0)),0,[]),(.s (.load (.s 0)),0,[]),(.s (.mv (.t (.of 0))),0,[]),(.s (.mv (.t (.of 3))),0,[]),(.s (.bin .sub .int (.s 0) (.c (I 1))),0,[]),(.s (.zo 1 (.s 2) (.s 0)),0,[]),(.s (.load (.s 0)),0,[]),(.w (.loc (.of 8)) none (.call (.s 9) [(.s 5),(.s 0)]),0,[])]
def zi.t11:IR:=.reg [.s (.mv (.t (.of 0))),.s (.mv (.t (.of 3))),.s (.slice 1 (.s 1) (some (.s 0)) none none),.q (.of 4) (.mv (.s 0))]
def zi.t12:IR:=.reg [.q (.of 5) (.mv (.c (I 1)))]
def zi.t13:IR:=.reg [.s (.mv (.t (.of 5))),.s (.mv (.t (.of 4))),.s (.len (.s 0)),.q (.of 9) (.bin .lss .int (.s 2) (.s 0))]
def zi.t14:IR:=.cond (.t (.of 9)) .skip (.exit 2)
def zi.t15:IR:=.seq zi.t13 zi.t14
def zi.t16:IR:=.yw [] [(.s (.mv (.t (.of 1))),0,[]),(.s (.mv (.t (.of 4))),0,[]),(.s (.mv (.t (.of 5))),0,[]),(.s (.zo 1 (.s 1) (.s 0)),0,[]),(.s (.load (.s 0)),0,[]),(.s (.mv (.t (.of 4))),0,[]),(.s (.mv (.t (.of 5))),0,[]),(.s (.bin .sub .int (.s 0) (.c (I 1))),0,[]),(.s (.zo 1 (.s 2) (.s 0)),0,[]),(.s (.load (.s 0)),0,[]),(.w .push none (.call (.s 9) [(.s 5),(.s 0)]),0,[]),(.q (.of 10) (.not (.s 0)),0,[])]
def zi.t17:IR:=.reg [.s (.mv (.t (.of 0))),.s (.mv (.t (.of 3))),.s (.mv (.t (.of 4))),.s (.mv (.t (.of 5))),.s (.zo 1 (.s 1) (.s 0)),.s (.load (.s 0)),.s (.zo 1 (.s 5) (.s 4)),.w .none none (.store 1 (.s 0) (.s 1))]
def zi.t18:IR:=.reg [.s (.mv (.t (.of 3))),.s (.bin .add .int (.s 0) (.c (I 1))),.q (.of 3) (.mv (.s 0))]
def zi.t19:IR:=.seq zi.t17 zi.t18
def zi.t20:IR:=.cond (.t (.of 10)) zi.t19 .skip
def zi.t21:IR:=.seq zi.t16 zi.t20
def zi.t22:IR:=.block 3 zi.t21
def zi.t23:IR:=.reg [.s (.mv (.t (.of 5))),.s (.bin .add .int (.s 0) (.c (I 1))),.q (.of 5) (.mv (.s 0))]
def zi.t24:IR:=.seq zi.t22 zi.t23
def zi.t25:IR:=.seq zi.t15 zi.t24
def zi.t26:IR:=.loop zi.t25
def zi.t27:IR:=.block 2 zi.t26
def zi.t28:IR:=.seq zi.t12 zi.t27
def zi.t29:IR:=.reg [.s (.mv (.t (.of 0))),.s (.mv (.t (.of 3))),.s (.slice 1 (.s 1) (some (.s 0)) none none),.w .none none (.clr 1 [.zf] (.s 0))]
def zi.t30:IR:=.reg [.s (.mv (.t (.of 0))),.s (.mv (.t (.of 3))),.s (.slice 1 (.s 1) none (some (.s 0)) none),.q (.of 2) (.mv (.s 0))]
def zi.t31:IR:=.seq zi.t30 .ret
def zi.t32:IR:=.seq zi.t29 zi.t31
def zi.t33:IR:=.seq zi.t28 zi.t32
def zi.t34:IR:=.seq zi.t11 zi.t33
def zi.t35:IR:=.cond (.t (.of 8)) zi.t34 .skip
def zi.t36:IR:=.seq zi.t10 zi.t35
def zi.t37:IR:=.block 1 zi.t36
def zi.t38:IR:=.reg [.s (.mv (.t (.of 3))),.s (.bin .add .int (.s 0) (.c (I 1))),.q (.of 3) (.mv (.s 0))]
def zi.t39:IR:=.seq zi.t37 zi.t38
def zi.t40:IR:=.seq zi.t9 zi.t39
def zi.t41:IR:=.loop zi.t40
def zi.t42:IR:=.block 0 zi.t41
def zi.t43:IR:=.seq zi.t6 zi.t42
def zi.t44:IR:=.reg [.s (.mv (.t (.of 0))),.q (.of 2) (.mv (.s 0))]
def zi.t45:IR:=.seq zi.t44 .ret
def zi.t46:IR:=.seq zi.t43 zi.t45
def zi.t47:IR:=.seq zi.t5 zi.t46
def zi.t48:IR:=.seq zi.t0 zi.t47
theorem zi.xq:IR.run zi.t0 C N O K (zi.fr b c g e f i l q p s a) h nx =
 K (zi.fr b c .zf e f i l q p s a) h nx:=by kernel_rfl
theorem zi.xu:IR.run zi.t1 C N O K (zi.fr b c g e f i l q p s a) h nx =
 sLen b fun v1=>zx .lss .int v1 (I 2) fun v2=>K (zi.fr b c g e f i v2 q p s a) h nx:=by kernel_rfl
theorem zi.fO:IR.run zi.t2 C N O K (zi.fr b c g e f i l q p s a) h nx =
 K (zi.fr b c b e f i l q p s a) h nx:=by kernel_rfl
theorem zi.v6:Arg.ev (.t (.of 6)) ⟨(zi.fr b c g e f i l q p s a),[]⟩=l:=by kernel_rfl
theorem zi.t6_s:IR.run zi.t6 C N O K (zi.fr b c g e f i l q p s a) h nx =
 K (zi.fr b c g (I 1) f i l q p s a) h nx:=by kernel_rfl
theorem zi.t7_s:IR.run zi.t7 C N O K (zi.fr b c g e f i l q p s a) h nx =
 sLen b fun v1=>zx .lss .int e v1 fun v2=>K (zi.fr b c g e f i l v2 p s a) h nx:=by kernel_rfl
theorem zi.v7:Arg.ev (.t (.of 7)) ⟨(zi.fr b c g e f i l q p s a),[]⟩=q:=by kernel_rfl
theorem zi.sN:IR.run zi.t10 C N O K (zi.fr b c g e f i l q p s a) h nx =
 zS 1 b e fun v1=>zF v1 h fun v2=>zx .sub .int e (I 1) fun v3=>zS 1 b v3 fun v4=>zF v4 h fun v5=>bE C c [v2,v5] h nx fun v6 h7 n8=>K (zi.fr b c g e f i l q v6 s a) h7 n8:=by kernel_rfl
theorem zi.aZ:IR.run zi.t11 C N O K (zi.fr b c g e f i l q p s a) h nx =
 jX 1 b (some e) none none fun v1=>K (zi.fr b c g e v1 i l q p s a) h nx:=by kernel_rfl
theorem zi.zam:IR.run zi.t12 C N O K (zi.fr b c g e f i l q p s a) h nx =
 K (zi.fr b c g e f (I 1) l q p s a) h nx:=by kernel_rfl
theorem zi.zm0:IR.run zi.t13 C N O K (zi.fr b c g e f i l q p s a) h nx =
 sLen f fun v1=>zx .lss .int i v1 fun v2=>K (zi.fr b c g e f i l q p v2 a) h nx:=by kernel_rfl
theorem zi.v9:Arg.ev (.t (.of 9)) ⟨(zi.fr b c g e f i l q p s a),[]⟩=s:=by kernel_rfl
theorem zi.au:IR.run zi.t16 C N O K (zi.fr b c g e f i l q p s a) h nx =
 zS 1 f i fun v1=>zF v1 h fun v2=>zx .sub .int i (I 1) fun v3=>zS 1 f v3 fun v4=>zF v4 h fun v5=>bE C c [v2,v5] h nx fun v6 h7 n8=>sNot v6 fun v9=>K (zi.fr b c g e f i l q p s v9) h7 n8:=by kernel_rfl
theorem zi.oO:IR.run zi.t17 C N O K (zi.fr b c g e f i l q p s a) h nx =
 zS 1 f i fun v1=>zF v1 h fun v2=>zS 1 b e fun v3=>zM 1 v3 v2 h nx fun v4 h5 n6=>K (zi.fr b c g e f i l q p s a) h5 n6:=by kernel_rfl
theorem zi.zak:IR.run zi.t18 C N O K (zi.fr b c g e f i l q p s a) h nx =
 zx .add .int e (I 1) fun v1=>K (zi.fr b c g v1 f i l q p s a) h nx:=by kernel_rfl
theorem zi.v10:Arg.ev (.t (.of 10)) ⟨(zi.fr b c g e f i l q p s a),[]⟩=a:=by kernel_rfl
theorem zi.zda:IR.run zi.t23 C N O K (zi.fr b c g e f i l q p s a) h nx =
 zx .add .int i (I 1) fun v1=>K (zi.fr b c g e f v1 l q p s a) h nx:=by kernel_rfl
theorem zi.zmz (Inv:Nat->AV->AV->T Blk->Pa->Prop) {m:Nat} (hm:m<N) (hi:Inv m e i h nx)
  (step:∀ (m:Nat) (z3 z5 z9 zI:AV) (h:T Blk) (nx:Pa) (R:Ks Prop),Inv m z3 z5 h nx->(∀ (m':Nat) (w3 w5 w9 wH:AV) (h':T Blk) (nx':Pa),m'<m->Inv m' w3 w5 h' nx'->R (zi.fr b c g w3 f w5 l q p w9 wH) h' nx'=.ok True)->IR.run zi.t25 C N O R (zi.fr b c g z3 f z5 l q p z9 zI) h nx=.ok True) :
  IR.run zi.t26 C N O K (zi.fr b c g e f i l q p s a) h nx=.ok True:=by
 rw [zi.t26];refine yK (fun m tm h nx=>∃ z3 z5 z9 zI,tm=(zi.fr b c g z3 f z5 l q p z9 zI)/\Inv m z3 z5 h nx) ?_ hm ⟨_,_,_,_,rfl,hi⟩;rintro m tm h nx R ⟨z3,z5,z9,zI,rfl,hi⟩ hR;exact step m z3 z5 z9 zI h nx R hi fun m' w3 w5 w9 wH h' nx' hlt hi'=>hR m' _ h' nx' hlt ⟨_,_,_,_,rfl,hi'⟩
theorem zi.zwk:IR.run zi.t29 C N O K (zi.fr b c g e f i l q p s a) h nx =
 jX 1 b (some e) none none fun v1=>sClr 1 [.zf] v1 h nx fun v2 h3 n4=>K (zi.fr b c g e f i l q p s a) h3 n4:=by kernel_rfl
theorem zi.zc9:IR.run zi.t30 C N O K (zi.fr b c g e f i l q p s a) h nx =
 jX 1 b none (some e) none fun v1=>K (zi.fr b c v1 e f i l q p s a) h nx:=by kernel_rfl
theorem zi.v8:Arg.ev (.t (.of 8)) ⟨(zi.fr b c g e f i l q p s a),[]⟩=p:=by kernel_rfl
theorem zi.zfo:IR.run zi.t38 C N O K (zi.fr b c g e f i l q p s a) h nx =
 zx .add .int e (I 1) fun v1=>K (zi.fr b c g v1 f i l q p s a) h nx:=by kernel_rfl
theorem zi.zwl (Inv:Nat->AV->T Blk->Pa->Prop) {m:Nat} (hm:m<N) (hi:Inv m e h nx)
  (step:∀ (m:Nat) (z2 z3 z4 z5 z7 z8 z9 zI:AV) (h:T Blk) (nx:Pa) (R:Ks Prop),Inv m z3 h nx->(∀ (m':Nat) (w2 w3 w4 w5 w7 w8 w9 wH:AV) (h':T Blk) (nx':Pa),m'<m->Inv m' w3 h' nx'->R (zi.fr b c w2 w3 w4 w5 l w7 w8 w9 wH) h' nx'=.ok True)->IR.run zi.t40 C N O R (zi.fr b c z2 z3 z4 z5 l z7 z8 z9 zI) h nx=.ok True) :
  IR.run zi.t41 C N O K (zi.fr b c g e f i l q p s a) h nx=.ok True:=by
 rw [zi.t41];refine yK (fun m tm h nx=>∃ z2 z3 z4 z5 z7 z8 z9 zI,tm=(zi.fr b c z2 z3 z4 z5 l z7 z8 z9 zI)/\Inv m z3 h nx) ?_ hm ⟨_,_,_,_,_,_,_,_,rfl,hi⟩;rintro m tm h nx R ⟨z2,z3,z4,z5,z7,z8,z9,zI,rfl,hi⟩ hR;exact step m z2 z3 z4 z5 z7 z8 z9 zI h nx R hi fun m' w2 w3 w4 w5 w7 w8 w9 wH h' nx' hlt hi'=>hR m' _ h' nx' hlt ⟨_,_,_,_,_,_,_,_,rfl,hi'⟩
theorem zi.zwm:IR.run zi.t44 C N O K (zi.fr b c g e f i l q p s a) h nx =
 K (zi.fr b c b e f i l q p s a) h nx:=by kernel_rfl
theorem zi.tab:T.get none (.of 202) tbl=some zi:=by kernel_rfl
theorem zi.bind (k:T AV->OP):zX zi.params [a0,a1] zi.init k=k (zi.fr a0 a1 .undef .undef .undef .undef .undef .undef .undef .undef .undef):=by kernel_rfl
theorem zi.jf:zi.body=zi.t48:=by kernel_rfl
theorem zi.go:zV tbl N C (.of 202) [a0,a1] h nx K0=IR.run zi.t48 C N (fnO zi.res K0) (gq zi.res K0) (zi.fr a0 a1 .undef .undef .undef .undef .undef .undef .undef .undef .undef) h nx:=by
 rw [zJ zi.tab,zi.bind,zi.jf];kernel_rfl
theorem zi.ret:gq zi.res K0 (zi.fr b c g e f i l q p s a) h nx=K0 g h nx:=by kernel_rfl
end
end Go.Ev
namespace Go.Ev
open Go Go.Proofs
set_option maxRecDepth 100000
section
variable {N:Nat} {C:Calls Prop} {K0:Kw Prop} {K:Ks Prop} {h:T Blk} {nx:Pa} {b c g e f i l q p s a d o u v w a0 a1:AV} {O:uq Prop} {tm:T AV} {Kt:KTm} {r:List RO} {s0 s1 s2 s3 s4 s5 s6 s7 s8 s9 s10 s11 s12 s13 s14 s15 s16 s17 s18 s19 s20 s21 s22 s23 s24 s25 s26 s27 s28 s29 s30 s31 s32 s33 s34 s35 s36 s37 s38 s39 s40 s41 s42 s43 s44 s45 s46 s47 s48 s49 s50 s51 s52 s53 s54 s55 s56 s57 s58 s59:AV}
def F48.t0:IR:=.reg [.q (.of 2) (.mv (.c .zf))]
def F48.t1:IR:=.reg [.q (.of 3) (.mv (.c (I 0)))]
def F48.r2_2:List RO:=.q (.of 4) (.pick (.s 6) (.s 0) (.c (.bool false)))::[]
def F48.r2_1:List RO:=.p .push (some ((.s 3),true)) (.load (.s 0))::.p .push (some ((.s 4),true)) (.mv (.t (.of 1)))::.w .push (some ((.s 5),true)) (.call (.c (.fn 88 (.of 88) [])) [(.s 1),(.s 0)])::F48.r2_2
def F48.r2_0:List RO:=.s (.mv (.t (.of 3)))::.s (.mv (.t (.of 0)))::.s (.len (.s 0))::.s (.bin .lss .int (.s 2) (.s 0))::.s (.mv (.s 0))::.p .push (some ((.s 0),true)) (.mv (.t (.of 0)))::.p .push (some ((.s 1),true)) (.mv (.t (.of 3)))::.p .push (some ((.s 2),true)) (.zo 1 (.s 1) (.s 0))::F48.r2_1
def F48.t2:IR:=.reg F48.r2_0
def F48.t3:IR:=.cond (.t (.of 4)) .skip (.exit 0)
def F48.t4:IR:=.seq F48.t2 F48.t3
def F48.t5:IR:=.reg [.s (.mv (.t (.of 3))),.s (.bin .add .int (.s 0) (.c (I 1))),.q (.of 3) (.mv (.s 0))]
def F48.t6:IR:=.block 1 F48.t5
def F48.t7:IR:=.seq F48.t4 F48.t6
def F48.t8:IR:=.loop F48.t7
def F48.t9:IR:=.block 0 F48.t8
def F48.r4_2:List RO:=.q (.of 5) (.pick (.s 6) (.s 0) (.c (.bool false)))::[]
def F48.r4_1:List RO:=.p .push (some ((.s 3),true)) (.load (.s 0))::.p .push (some ((.s 4),true)) (.mv (.t (.of 1)))::.w .push (some ((.s 5),true)) (.call (.c (.fn 82 (.of 82) [])) [(.s 1),(.s 0)])::F48.r4_2
def F48.r4_0:List RO:=.s (.mv (.t (.of 3)))::.s (.mv (.t (.of 0)))::.s (.len (.s 0))::.s (.bin .lss .int (.s 2) (.s 0))::.s (.mv (.s 0))::.p .push (some ((.s 0),true)) (.mv (.t (.of 0)))::.p .push (some ((.s 1),true)) (.mv (.t (.of 3)))::.p .push (some ((.s 2),true)) (.zo 1 (.s 1) (.s 0))::F48.r4_1
def F48.t10:IR:=.reg F48.r4_0
def F48.t11:IR:=.reg [.s (.mv (.t (.of 0))),.q (.of 2) (.mv (.s 0))]
def F48.t12:IR:=.seq F48.t11 .ret
def F48.t13:IR:=.cond (.t (.of 5)) F48.t12 .skip
def F48.t14:IR:=.seq F48.t10 F48.t13
def F48.t15:IR:=.yw [(.zy 1 0 [.zf] [])] [(.s (.mv (.t (.of 0))),3,[]),(.s (.mv (.t (.of 3))),3,[]),(.s (.slice 1 (.s 1) none (some (.s 0)) none),3,[]),(.s (.mv (.t (.of 1))),2,[(.zy 1 1 [.zf] [(0,1,(.s 0))])]),(.s (.mv (.t (.of 0))),4,[]),(.s (.mv (.t (.of 3))),4,[]),(.s (.slice 1 (.s 1) (some (.s 0)) none none),4,[]),(.w .push none (.zy 1 0 [.zf] []),0,[]),(.w .push none (.app 1 24 (.s 0) (.s 5)),0,[]),(.w .push none (.zy 1 1 [.zf] [(0,1,(.s 5))]),0,[]),(.w .push none (.app 1 24 (.s 1) (.s 0)),0,[]),(.w .push none (.app 1 24 (.s 0) (.s 4)),0,[]),(.q (.of 2) (.mv (.s 0)),0,[])]
def F48.t16:IR:=.seq F48.t15 .ret
def F48.t17:IR:=.seq F48.t14 F48.t16
def F48.t18:IR:=.seq F48.t9 F48.t17
def F48.t19:IR:=.seq F48.t1 F48.t18
def F48.t20:IR:=.seq F48.t0 F48.t19
theorem F48.xq:IR.run F48.t0 C N O K (F48.fr b c g e f i) h nx =
 K (F48.fr b c .zf e f i) h nx:=by kernel_rfl
theorem F48.xu:IR.run F48.t1 C N O K (F48.fr b c g e f i) h nx =
 K (F48.fr b c g (I 0) f i) h nx:=by kernel_rfl
theorem F48.fO:IR.run F48.t2 C N O K tm h nx=y0 F48.r2_0 C ⟨tm,[]⟩ h nx (fun tm h nx=>K tm.v h nx):=qT ..
theorem F48.zhk:y0 (.s (.mv (.t (.of 3)))::.s (.mv (.t (.of 0)))::.s (.len (.s 0))::.s (.bin .lss .int (.s 2) (.s 0))::.s (.mv (.s 0))::.p .push (some ((.s 0),true)) (.mv (.t (.of 0)))::.p .push (some ((.s 1),true)) (.mv (.t (.of 3)))::.p .push (some ((.s 2),true)) (.zo 1 (.s 1) (.s 0))::r) C ⟨(F48.fr b c g e f i),[]⟩ h nx Kt =
 sLen b fun v1=>zx .lss .int e v1 fun v2=>sG v2 true (fun k=>k b) fun v3=>sG v2 true (fun k=>k e) fun v4=>sG v2 true (fun k=>zS 1 v3 v4 k) fun v5=>y0 r C ⟨(F48.fr b c g e f i),v5::v4::v3::v2::v2::v1::b::e::[]⟩ h nx Kt:=by kernel_rfl
theorem F48.zeg:y0 (.p .push (some ((.s 3),true)) (.load (.s 0))::.p .push (some ((.s 4),true)) (.mv (.t (.of 1)))::.w .push (some ((.s 5),true)) (.call (.c (.fn 88 (.of 88) [])) [(.s 1),(.s 0)])::r) C ⟨(F48.fr b c g e f i),s0::s1::s2::s3::s4::s5::s6::s7::[]⟩ h nx Kt =
 sG s3 true (fun k=>zF s0 h k) fun v1=>sG s3 true (fun k=>k c) fun v2=>sGW s3 true (fun k=>C.fn 88 (.of 88) [v1,v2] h nx k) h nx fun v3 h4 n5=>y0 r C ⟨(F48.fr b c g e f i),v3::v2::v1::s0::s1::s2::s3::s4::s5::s6::s7::[]⟩ h4 n5 Kt:=by kernel_rfl
theorem F48.zay:y0 (.q (.of 4) (.pick (.s 6) (.s 0) (.c (.bool false)))::[]) C ⟨(F48.fr b c g e f i),s0::s1::s2::s3::s4::s5::s6::s7::s8::s9::s10::[]⟩ h nx Kt =
 jS s6 s0 (.bool false) fun v1=>Kt ⟨(F48.fr b c g e v1 i),s0::s1::s2::s3::s4::s5::s6::s7::s8::s9::s10::[]⟩ h nx:=by kernel_rfl
theorem F48.v4:Arg.ev (.t (.of 4)) ⟨(F48.fr b c g e f i),[]⟩=f:=by kernel_rfl
theorem F48.t5_s:IR.run F48.t5 C N O K (F48.fr b c g e f i) h nx =
 zx .add .int e (I 1) fun v1=>K (F48.fr b c g v1 f i) h nx:=by kernel_rfl
theorem F48.t8_L (Inv:Nat->AV->T Blk->Pa->Prop) {m:Nat} (hm:m<N) (hi:Inv m e h nx)
  (step:∀ (m:Nat) (z3 z4:AV) (h:T Blk) (nx:Pa) (R:Ks Prop),Inv m z3 h nx->(∀ (m':Nat) (w3 w4:AV) (h':T Blk) (nx':Pa),m'<m->Inv m' w3 h' nx'->R (F48.fr b c g w3 w4 i) h' nx'=.ok True)->IR.run F48.t7 C N O R (F48.fr b c g z3 z4 i) h nx=.ok True) :
  IR.run F48.t8 C N O K (F48.fr b c g e f i) h nx=.ok True:=by
 rw [F48.t8];refine yK (fun m tm h nx=>∃ z3 z4,tm=(F48.fr b c g z3 z4 i)/\Inv m z3 h nx) ?_ hm ⟨_,_,rfl,hi⟩;rintro m tm h nx R ⟨z3,z4,rfl,hi⟩ hR;exact step m z3 z4 h nx R hi fun m' w3 w4 h' nx' hlt hi'=>hR m' _ h' nx' hlt ⟨_,_,rfl,hi'⟩
theorem F48.sN:IR.run F48.t10 C N O K tm h nx=y0 F48.r4_0 C ⟨tm,[]⟩ h nx (fun tm h nx=>K tm.v h nx):=qT ..
theorem F48.zua:y0 (.s (.mv (.t (.of 3)))::.s (.mv (.t (.of 0)))::.s (.len (.s 0))::.s (.bin .lss .int (.s 2) (.s 0))::.s (.mv (.s 0))::.p .push (some ((.s 0),true)) (.mv (.t (.of 0)))::.p .push (some ((.s 1),true)) (.mv (.t (.of 3)))::.p .push (some ((.s 2),true)) (.zo 1 (.s 1) (.s 0))::r) C ⟨(F48.fr b c g e f i),[]⟩ h nx Kt =
 sLen b fun v1=>zx .lss .int e v1 fun v2=>sG v2 true (fun k=>k b) fun v3=>sG v2 true (fun k=>k e) fun v4=>sG v2 true (fun k=>zS 1 v3 v4 k) fun v5=>y0 r C ⟨(F48.fr b c g e f i),v5::v4::v3::v2::v2::v1::b::e::[]⟩ h nx Kt:=by kernel_rfl
theorem F48.zm1:y0 (.p .push (some ((.s 3),true)) (.load (.s 0))::.p .push (some ((.s 4),true)) (.mv (.t (.of 1)))::.w .push (some ((.s 5),true)) (.call (.c (.fn 82 (.of 82) [])) [(.s 1),(.s 0)])::r) C ⟨(F48.fr b c g e f i),s0::s1::s2::s3::s4::s5::s6::s7::[]⟩ h nx Kt =
 sG s3 true (fun k=>zF s0 h k) fun v1=>sG s3 true (fun k=>k c) fun v2=>sGW s3 true (fun k=>C.fn 82 (.of 82) [v1,v2] h nx k) h nx fun v3 h4 n5=>y0 r C ⟨(F48.fr b c g e f i),v3::v2::v1::s0::s1::s2::s3::s4::s5::s6::s7::[]⟩ h4 n5 Kt:=by kernel_rfl
theorem F48.zm2:y0 (.q (.of 5) (.pick (.s 6) (.s 0) (.c (.bool false)))::[]) C ⟨(F48.fr b c g e f i),s0::s1::s2::s3::s4::s5::s6::s7::s8::s9::s10::[]⟩ h nx Kt =
 jS s6 s0 (.bool false) fun v1=>Kt ⟨(F48.fr b c g e f v1),s0::s1::s2::s3::s4::s5::s6::s7::s8::s9::s10::[]⟩ h nx:=by kernel_rfl
theorem F48.aZ:IR.run F48.t11 C N O K (F48.fr b c g e f i) h nx =
 K (F48.fr b c b e f i) h nx:=by kernel_rfl
theorem F48.v5:Arg.ev (.t (.of 5)) ⟨(F48.fr b c g e f i),[]⟩=i:=by kernel_rfl
theorem F48.zaj:IR.run F48.t15 C N O K (F48.fr b c g e f i) h nx =
 sChk ((gD (fD 0 [.zf]) []).isSome&&true) (jX 1 b none (some e) none fun v1=>sChk ((gD (fD 1 [.zf]) [(0,1,c)]).isSome&&true) (jX 1 b (some e) none none fun v2=>jA 1 0 [.zf] [] h nx fun v3 h4 n5=>(jX 1 b (some e) none none fun vO=>zL vO v2 (zL e e (zL b b (zL c c ((jX 1 b none (some e) none fun vN=>zL vN v1 (zL e e (zL b b (tX 1 24 v3 v1 h4 n5 fun v6 h7 n8=>(jX 1 b (some e) none none fun vM=>zL vM v2 (zL e e (zL b b (zL c c ((jX 1 b none (some e) none fun vL=>zL vL v1 (zL e e (zL b b (jA 1 1 [.zf] [(0,1,c)] h7 n8 fun v9 hU nU=>(jX 1 b (some e) none none fun vK=>zL vK v2 (zL e e (zL b b ((jX 1 b none (some e) none fun vJ=>zL vJ v1 (zL e e (zL b b (tX 1 24 v6 v9 hU nU fun vC h13 n14=>(jX 1 b (some e) none none fun vI=>zL vI v2 (zL e e (zL b b (tX 1 24 vC v2 h13 n14 fun vF h16 n17=>K (F48.fr b c vF e f i) h16 n17)))))))))))))))))))))))))))))))):=by kernel_rfl
theorem F48.tab:T.get none (.of 48) tbl=some F48:=by kernel_rfl
theorem F48.bind (k:T AV->OP):zX F48.params [a0,a1] F48.init k=k (F48.fr a0 a1 .undef .undef .undef .undef):=by kernel_rfl
theorem F48.jf:F48.body=F48.t20:=by kernel_rfl
theorem F48.go:zV tbl N C (.of 48) [a0,a1] h nx K0=IR.run F48.t20 C N (fnO F48.res K0) (gq F48.res K0) (F48.fr a0 a1 .undef .undef .undef .undef) h nx:=by
 rw [zJ F48.tab,F48.bind,F48.jf];kernel_rfl
theorem F48.ret:gq F48.res K0 (F48.fr b c g e f i) h nx=K0 g h nx:=by kernel_rfl
end
end Go.Ev
namespace Go.Ev
open Go Go.Proofs
set_option maxRecDepth 100000
section
variable {N:Nat} {C:Calls Prop} {K0:Kw Prop} {K:Ks Prop} {h:T Blk} {nx:Pa} {b c g e f i l q p s a d o u v w y z A B a0 a1:AV} {O:uq Prop} {tm:T AV} {Kt:KTm} {r:List RO} {s0 s1 s2 s3 s4 s5 s6 s7 s8 s9 s10 s11 s12 s13 s14 s15 s16 s17 s18 s19 s20 s21 s22 s23 s24 s25 s26 s27 s28 s29 s30 s31 s32 s33 s34 s35 s36 s37 s38 s39 s40 s41 s42 s43 s44 s45 s46 s47 s48 s49 s50 s51 s52 s53 s54 s55 s56 s57 s58 s59:AV}
end
end Go.Ev
namespace Go.Ev
open Go Go.Proofs
set_option maxRecDepth 100000
section
variable {N:Nat} {C:Calls Prop} {K0:Kw Prop} {K:Ks Prop} {h:T Blk} {nx:Pa} {b c g e f i l q p s a d o u a0 a1:AV} {O:uq Prop} {tm:T AV} {Kt:KTm} {r:List RO} {s0 s1 s2 s3 s4 s5 s6 s7 s8 s9 s10 s11 s12 s13 s14 s15 s16 s17 s18 s19 s20 s21 s22 s23 s24 s25 s26 s27 s28 s29 s30 s31 s32 s33 s34 s35 s36 s37 s38 s39 s40 s41 s42 s43 s44 s45 s46 s47 s48 s49 s50 s51 s52 s53 s54 s55 s56 s57 s58 s59:AV}
def zk.t0:IR:=.reg [.w (.loc (.of 1)) none (.box (.t (.of 0))),.q (.of 2) (.mv (.c .zf))]
def zk.t1:IR:=.reg [.q (.of 3) (.mv (.c .zf))]
def zk.t2:IR:=.reg [.s (.zu 0 (.t (.of 1))),.s (.load (.s 0)),.s (.len (.s 0)),.w .push none (.gy 1 1 [(.bool false)] (.s 0) (.s 0)),.q (.of 4) (.mv (.s 0))]
def zk.t3:IR:=.reg [.s (.zu 0 (.t (.of 1))),.s (.load (.s 0)),.q (.of 8) (.len (.s 0)),.q (.of 9) (.mv (.c (I 0)))]
def zk.t4:IR:=.reg [.q (.of 10) (.bin .lss .int (.t (.of 9)) (.t (.of 8)))]
def zk.t5:IR:=.cond (.t (.of 10)) .skip (.exit 0)
def zk.t6:IR:=.reg [.s (.mv (.t (.of 9))),.q (.of 5) (.mv (.s 0))]
def zk.t7:IR:=.reg [.q (.of 6) (.mv (.c (I 0)))]
def zk.t8:IR:=.reg [.s (.mv (.t (.of 5))),.q (.of 7) (.mv (.s 0))]
def zk.t9:IR:=.reg [.s (.mv (.t (.of 4))),.s (.mv (.t (.of 7))),.s (.zo 1 (.s 1) (.s 0)),.s (.load (.s 0)),.q (.of 11) (.not (.s 0))]
def zk.t10:IR:=.cond (.t (.of 11)) .skip (.exit 2)
def zk.t11:IR:=.seq zk.t9 zk.t10
def zk.t12:IR:=.reg [.s (.mv (.t (.of 4))),.s (.mv (.t (.of 7))),.s (.zo 1 (.s 1) (.s 0)),.w .none none (.store 1 (.s 0) (.c (.bool true)))]
def zk.t13:IR:=.reg [.s (.mv (.t (.of 6))),.s (.bin .add .int (.s 0) (.c (I 1))),.q (.of 6) (.mv (.s 0))]
def zk.t14:IR:=.seq zk.t12 zk.t13
def zk.t15:IR:=.block 3 zk.t14
def zk.t16:IR:=.reg [.s (.zu 0 (.t (.of 1))),.s (.load (.s 0)),.s (.mv (.t (.of 7))),.s (.zo 1 (.s 1) (.s 0)),.s (.load (.s 0)),.q (.of 7) (.mv (.s 0))]
def zk.t17:IR:=.seq zk.t15 zk.t16
def zk.t18:IR:=.seq zk.t11 zk.t17
def zk.t19:IR:=.loop zk.t18
def zk.t20:IR:=.block 2 zk.t19
def zk.t21:IR:=.seq zk.t8 zk.t20
def zk.t22:IR:=.reg [.s (.mv (.t (.of 6))),.q (.of 12) (.bin .gtr .int (.s 0) (.c (I 0)))]
def zk.t23:IR:=.reg [.s (.mv (.t (.of 3))),.s (.mv (.t (.of 6))),.w .push none (.zy 1 1 [(I 0)] [(0,1,(.s 0))]),.w .push none (.app 1 8 (.s 2) (.s 0)),.q (.of 3) (.mv (.s 0))]
def zk.t24:IR:=.cond (.t (.of 12)) zk.t23 .skip
def zk.t25:IR:=.seq zk.t22 zk.t24
def zk.t26:IR:=.seq zk.t21 zk.t25
def zk.t27:IR:=.seq zk.t7 zk.t26
def zk.t28:IR:=.seq zk.t6 zk.t27
def zk.t29:IR:=.block 1 zk.t28
def zk.t30:IR:=.reg [.s (.bin .add .int (.t (.of 9)) (.c (I 1))),.q (.of 9) (.mv (.s 0))]
def zk.t31:IR:=.seq zk.t29 zk.t30
def zk.t32:IR:=.seq zk.t5 zk.t31
def zk.t33:IR:=.seq zk.t4 zk.t32
def zk.t34:IR:=.loop zk.t33
def zk.t35:IR:=.block 0 zk.t34
def zk.t36:IR:=.seq zk.t3 zk.t35
def zk.t37:IR:=.reg [.s (.mv (.t (.of 3))),.q (.of 2) (.mv (.s 0))]
def zk.t38:IR:=.seq zk.t37 .ret
def zk.t39:IR:=.seq zk.t36 zk.t38
def zk.t40:IR:=.seq zk.t2 zk.t39
def zk.t41:IR:=.seq zk.t1 zk.t40
def zk.t42:IR:=.seq zk.t0 zk.t41
theorem zk.xq:IR.run zk.t0 C N O K (zk.fr b c g e f i l q p s a d o) h nx =
 rP b h nx fun v1 h2 n3=>K (zk.fr b v1 .zf e f i l q p s a d o) h2 n3:=by kernel_rfl
theorem zk.xu:IR.run zk.t1 C N O K (zk.fr b c g e f i l q p s a d o) h nx =
 K (zk.fr b c g .zf f i l q p s a d o) h nx:=by kernel_rfl
theorem zk.fO:IR.run zk.t2 C N O K (zk.fr b c g e f i l q p s a d o) h nx =
 zQ 0 c fun v1=>zF v1 h fun v2=>sLen v2 fun v3=>gU 1 1 [(.bool false)] v3 v3 h nx fun v4 h5 n6=>K (zk.fr b c g e v4 i l q p s a d o) h5 n6:=by kernel_rfl
theorem zk.rY:IR.run zk.t3 C N O K (zk.fr b c g e f i l q p s a d o) h nx =
 zQ 0 c fun v1=>zF v1 h fun v2=>sLen v2 fun v3=>K (zk.fr b c g e f i l q v3 (I 0) a d o) h nx:=by kernel_rfl
theorem zk.t4_s:IR.run zk.t4 C N O K (zk.fr b c g e f i l q p s a d o) h nx =
 zx .lss .int s p fun v1=>K (zk.fr b c g e f i l q p s v1 d o) h nx:=by kernel_rfl
theorem zk.v10:Arg.ev (.t (.of 10)) ⟨(zk.fr b c g e f i l q p s a d o),[]⟩=a:=by kernel_rfl
theorem zk.t6_s:IR.run zk.t6 C N O K (zk.fr b c g e f i l q p s a d o) h nx =
 K (zk.fr b c g e f s l q p s a d o) h nx:=by kernel_rfl
theorem zk.t7_s:IR.run zk.t7 C N O K (zk.fr b c g e f i l q p s a d o) h nx =
 K (zk.fr b c g e f i (I 0) q p s a d o) h nx:=by kernel_rfl
theorem zk.eX:IR.run zk.t8 C N O K (zk.fr b c g e f i l q p s a d o) h nx =
 K (zk.fr b c g e f i l i p s a d o) h nx:=by kernel_rfl
theorem zk.t9_s:IR.run zk.t9 C N O K (zk.fr b c g e f i l q p s a d o) h nx =
 zS 1 f q fun v1=>zF v1 h fun v2=>sNot v2 fun v3=>K (zk.fr b c g e f i l q p s a v3 o) h nx:=by kernel_rfl
theorem zk.v11:Arg.ev (.t (.of 11)) ⟨(zk.fr b c g e f i l q p s a d o),[]⟩=d:=by kernel_rfl
theorem zk.zam:IR.run zk.t12 C N O K (zk.fr b c g e f i l q p s a d o) h nx =
 zS 1 f q fun v1=>zM 1 v1 (.bool true) h nx fun v2 h3 n4=>K (zk.fr b c g e f i l q p s a d o) h3 n4:=by kernel_rfl
theorem zk.zm0:IR.run zk.t13 C N O K (zk.fr b c g e f i l q p s a d o) h nx =
 zx .add .int l (I 1) fun v1=>K (zk.fr b c g e f i v1 q p s a d o) h nx:=by kernel_rfl
theorem zk.au:IR.run zk.t16 C N O K (zk.fr b c g e f i l q p s a d o) h nx =
 zQ 0 c fun v1=>zF v1 h fun v2=>zS 1 v2 q fun v3=>zF v3 h fun v4=>K (zk.fr b c g e f i l v4 p s a d o) h nx:=by kernel_rfl
theorem zk.zwn (Inv:Nat->AV->AV->T Blk->Pa->Prop) {m:Nat} (hm:m<N) (hi:Inv m l q h nx)
  (step:∀ (m:Nat) (z6 z7 zA:AV) (h:T Blk) (nx:Pa) (R:Ks Prop),Inv m z6 z7 h nx->(∀ (m':Nat) (w6 w7 wA:AV) (h':T Blk) (nx':Pa),m'<m->Inv m' w6 w7 h' nx'->R (zk.fr b c g e f i w6 w7 p s a wA o) h' nx'=.ok True)->IR.run zk.t18 C N O R (zk.fr b c g e f i z6 z7 p s a zA o) h nx=.ok True) :
  IR.run zk.t19 C N O K (zk.fr b c g e f i l q p s a d o) h nx=.ok True:=by
 rw [zk.t19];refine yK (fun m tm h nx=>∃ z6 z7 zA,tm=(zk.fr b c g e f i z6 z7 p s a zA o)/\Inv m z6 z7 h nx) ?_ hm ⟨_,_,_,rfl,hi⟩;rintro m tm h nx R ⟨z6,z7,zA,rfl,hi⟩ hR;exact step m z6 z7 zA h nx R hi fun m' w6 w7 wA h' nx' hlt hi'=>hR m' _ h' nx' hlt ⟨_,_,_,rfl,hi'⟩
theorem zk.zfn:IR.run zk.t22 C N O K (zk.fr b c g e f i l q p s a d o) h nx =
 zx .gtr .int l (I 0) fun v1=>K (zk.fr b c g e f i l q p s a d v1) h nx:=by kernel_rfl
theorem zk.zda:IR.run zk.t23 C N O K (zk.fr b c g e f i l q p s a d o) h nx =
 jA 1 1 [(I 0)] [(0,1,l)] h nx fun v1 h2 n3=>tX 1 8 e v1 h2 n3 fun v4 h5 n6=>K (zk.fr b c g v4 f i l q p s a d o) h5 n6:=by kernel_rfl
theorem zk.v12:Arg.ev (.t (.of 12)) ⟨(zk.fr b c g e f i l q p s a d o),[]⟩=o:=by kernel_rfl
theorem zk.zc9:IR.run zk.t30 C N O K (zk.fr b c g e f i l q p s a d o) h nx =
 zx .add .int s (I 1) fun v1=>K (zk.fr b c g e f i l q p v1 a d o) h nx:=by kernel_rfl
theorem zk.zwo (Inv:Nat->AV->AV->T Blk->Pa->Prop) {m:Nat} (hm:m<N) (hi:Inv m e s h nx)
  (step:∀ (m:Nat) (z3 z5 z6 z7 z9 zI zA zB:AV) (h:T Blk) (nx:Pa) (R:Ks Prop),Inv m z3 z9 h nx->(∀ (m':Nat) (w3 w5 w6 w7 w9 wH wA wB:AV) (h':T Blk) (nx':Pa),m'<m->Inv m' w3 w9 h' nx'->R (zk.fr b c g w3 f w5 w6 w7 p w9 wH wA wB) h' nx'=.ok True)->IR.run zk.t33 C N O R (zk.fr b c g z3 f z5 z6 z7 p z9 zI zA zB) h nx=.ok True) :
  IR.run zk.t34 C N O K (zk.fr b c g e f i l q p s a d o) h nx=.ok True:=by
 rw [zk.t34];refine yK (fun m tm h nx=>∃ z3 z5 z6 z7 z9 zI zA zB,tm=(zk.fr b c g z3 f z5 z6 z7 p z9 zI zA zB)/\Inv m z3 z9 h nx) ?_ hm ⟨_,_,_,_,_,_,_,_,rfl,hi⟩;rintro m tm h nx R ⟨z3,z5,z6,z7,z9,zI,zA,zB,rfl,hi⟩ hR;exact step m z3 z5 z6 z7 z9 zI zA zB h nx R hi fun m' w3 w5 w6 w7 w9 wH wA wB h' nx' hlt hi'=>hR m' _ h' nx' hlt ⟨_,_,_,_,_,_,_,_,rfl,hi'⟩
theorem zk.zwp:IR.run zk.t37 C N O K (zk.fr b c g e f i l q p s a d o) h nx =
 K (zk.fr b c e e f i l q p s a d o) h nx:=by kernel_rfl
theorem zk.tab:T.get none (.of 138) tbl=some zk:=by kernel_rfl
theorem zk.bind (k:T AV->OP):zX zk.params [a0] zk.init k=k (zk.fr a0 .undef .undef .undef .undef .undef .undef .undef .undef .undef .undef .undef .undef):=by kernel_rfl
theorem zk.jf:zk.body=zk.t42:=by kernel_rfl
theorem zk.go:zV tbl N C (.of 138) [a0] h nx K0=IR.run zk.t42 C N (fnO zk.res K0) (gq zk.res K0) (zk.fr a0 .undef .undef .undef .undef .undef .undef .undef .undef .undef .undef .undef .undef) h nx:=by
 rw [zJ zk.tab,zk.bind,zk.jf];kernel_rfl
theorem zk.ret:gq zk.res K0 (zk.fr b c g e f i l q p s a d o) h nx=K0 g h nx:=by kernel_rfl
end
end Go.Ev
namespace Go.Ev
open Go Go.Proofs
set_option maxRecDepth 100000
section
variable {N:Nat} {C:Calls Prop} {K0:Kw Prop} {K:Ks Prop} {h:T Blk} {nx:Pa} {b c g e a0 a1:AV} {O:uq Prop} {tm:T AV} {Kt:KTm} {r:List RO} {s0 s1 s2 s3 s4 s5 s6 s7 s8 s9 s10 s11 s12 s13 s14 s15 s16 s17 s18 s19 s20 s21 s22 s23 s24 s25 s26 s27 s28 s29 s30 s31 s32 s33 s34 s35 s36 s37 s38 s39 s40 s41 s42 s43 s44 s45 s46 s47 s48 s49 s50 s51 s52 s53 s54 s55 s56 s57 s58 s59:AV}
end
end Go.Ev
namespace Go.Ev
open Go Go.Proofs
set_option maxRecDepth 100000
section
variable {N:Nat} {C:Calls Prop} {K0:Kw Prop} {K:Ks Prop} {h:T Blk} {nx:Pa} {b c g e f i l q p s a d o u v a0 a1 a2:AV} {O:uq Prop} {tm:T AV} {Kt:KTm} {r:List RO} {s0 s1 s2 s3 s4 s5 s6 s7 s8 s9 s10 s11 s12 s13 s14 s15 s16 s17 s18 s19 s20 s21 s22 s23 s24 s25 s26 s27 s28 s29 s30 s31 s32 s33 s34 s35 s36 s37 s38 s39 s40 s41 s42 s43 s44 s45 s46 s47 s48 s49 s50 s51 s52 s53 s54 s55 s56 s57 s58 s59:AV}
def F36.t0:IR:=.reg [.w (.loc (.of 3)) none (.box (.t (.of 2))),.q (.of 4) (.mv (.c (.str []))),.q (.of 5) (.mv (.c (I 0)))]
def F36.t1:IR:=.yw [] [(.s (.mv (.t (.of 0))),0,[]),(.s (.mv (.t (.of 1))),0,[]),(.s (.load (.t (.of 3))),1,[]),(.s (.bin .lss .int (.s 0) (.c (I 0))),1,[]),(.w .push none (.call (.c (.fn 22 (.of 22) [])) [(.s 3),(.s 2)]),0,[]),(.s (.mv (.s 1)),0,[]),(.p .push (some ((.s 0),false)) (.load (.t (.of 3))),0,[]),(.p .push (some ((.s 1),false)) (.bin .gtr .int (.s 0) (.c (I 999999999))),0,[]),(.s (.pick (.s 2) (.c (.bool true)) (.s 0)),0,[]),(.w .push none (.call (.c (.fn 96 (.of 96) [])) [(.s 0),(.c (I 3))]),0,[]),(.w .push none (.zy 1 2 [(I 0)] [(0,1,(.s 5)),(1,1,(.s 0))]),0,[]),(.w .push none (.call (.c (.fn 94 (.of 94) [])) [(.s 0)]),0,[]),(.q (.of 6) (.mv (.s 0)),0,[])]
def F36.t2:IR:=.reg [.s (.mv (.t (.of 6))),.q (.of 10) (.bin .neq .int (.s 0) (.c (I 0)))]
def F36.t3:IR:=.reg [.s (.mv (.t (.of 6))),.q (.of 4) (.mv (.c (.str []))),.q (.of 5) (.mv (.s 0))]
def F36.t4:IR:=.seq F36.t3 .ret
def F36.t5:IR:=.cond (.t (.of 10)) F36.t4 .skip
def F36.t6:IR:=.seq F36.t2 F36.t5
def F36.t7:IR:=.seq F36.t1 F36.t6
def F36.t8:IR:=.reg [.w .push none (.call (.c (.fn 110 (.of 110) [])) [(.c (I 0))]),.w (.loc (.of 7)) none (.alloc [(I 0),.zf]),.w .none none (.store 2 (.t (.of 7)) (.s 0))]
def F36.t9:IR:=.reg [.s (.mv (.t (.of 0))),.w (.loc (.of 11)) none (.call (.c (.fn 90 (.of 90) [])) [(.s 0)])]
def F36.t10:IR:=.reg [.w (.loc (.of 8)) none (.alloc [.zf,(.bool false)]),.w .none none (.store 2 (.t (.of 8)) (.t (.of 13)))]
def F36.t11:IR:=.yw [] [(.s (.zh 2 (.t (.of 7))),1,[]),(.s (.zh 2 (.t (.of 8))),0,[]),(.s (.load (.t (.of 3))),0,[]),(.w .push none (.call (.c (.fn 112 (.of 112) [])) [(.s 1),(.s 0)]),0,[]),(.w .push none (.call (.c (.fn 111 (.of 111) [])) [(.s 3),(.s 0)]),0,[]),(.w .none none (.store 2 (.t (.of 7)) (.s 0)),0,[])]
def F36.t12:IR:=.block 1 F36.t11
def F36.t13:IR:=.rf (.t (.of 11)) [(.of 12),(.of 13)] F36.t10 F36.t12
def F36.t14:IR:=.block 0 F36.t13
def F36.t15:IR:=.seq F36.t9 F36.t14
def F36.t16:IR:=.yw [(.alloc [(I 0),.zf,(I 0),.zf])] [(.s (.zh 2 (.t (.of 7))),4,[]),(.s (.mv (.t (.of 0))),4,[]),(.s (.len (.s 0)),4,[]),(.w .push none (.call (.c (.fn 110 (.of 110) [])) [(.s 0)]),0,[]),(.w .push none (.call (.c (.fn 114 (.of 114) [])) [(.s 3),(.s 0)]),0,[]),(.w .push none (.call (.c (.fn 113 (.of 113) [])) [(.s 0)]),0,[]),(.w (.loc (.of 9)) none (.alloc [(I 0),.zf,(I 0),.zf]),0,[]),(.w .none none (.store 4 (.t (.of 9)) (.s 0)),0,[])]
def F36.t17:IR:=.reg [.s (.zh 4 (.t (.of 9))),.w (.loc (.of 14)) none (.call (.c (.fn 115 (.of 115) [])) [(.s 0)])]
def F36.t18:IR:=.reg [.q (.of 4) (.mv (.c (.str []))),.q (.of 5) (.mv (.c (I 4)))]
def F36.t19:IR:=.seq F36.t18 .ret
def F36.t20:IR:=.cond (.t (.of 14)) F36.t19 .skip
def F36.t21:IR:=.seq F36.t17 F36.t20
def F36.t22:IR:=.reg [.s (.zh 4 (.t (.of 9))),.w .push none (.call (.c (.fn 116 (.of 116) [])) [(.s 0)]),.q (.of 4) (.mv (.s 0)),.q (.of 5) (.mv (.c (I 0)))]
def F36.t23:IR:=.seq F36.t22 .ret
def F36.t24:IR:=.seq F36.t21 F36.t23
def F36.t25:IR:=.seq F36.t16 F36.t24
def F36.t26:IR:=.seq F36.t15 F36.t25
def F36.t27:IR:=.seq F36.t8 F36.t26
def F36.t28:IR:=.seq F36.t7 F36.t27
def F36.t29:IR:=.seq F36.t0 F36.t28
theorem F36.xq:IR.run F36.t0 C N O K (F36.fr b c g e f i l q p s a d o u v) h nx =
 rP g h nx fun v1 h2 n3=>K (F36.fr b c g v1 (.str []) (I 0) l q p s a d o u v) h2 n3:=by kernel_rfl
theorem F36.xu:IR.run F36.t1 C N O K (F36.fr b c g e f i l q p s a d o u v) h nx =
 zF e h fun v1=>zx .lss .int v1 (I 0) fun v2=>C.fn 22 (.of 22) [b,c] h nx fun v3 h4 n5=>(zx .lss .int v1 (I 0) fun vJ=>zL vJ v2 ((zF e h4 fun vI=>zL vI v1 (sG v2 false (fun k=>zF e h4 k) fun v6=>sG v2 false (fun k=>zx .gtr .int v6 (I 999999999) k) fun v7=>jS v2 (.bool true) v7 fun v8=>C.fn 96 (.of 96) [v8,(I 3)] h4 n5 fun v9 hU nU=>jA 1 2 [(I 0)] [(0,1,v3),(1,1,v9)] hU nU fun vC h13 n14=>C.fn 94 (.of 94) [vC] h13 n14 fun vF h16 n17=>K (F36.fr b c g e f i vF q p s a d o u v) h16 n17)))):=by kernel_rfl
theorem F36.fO:IR.run F36.t2 C N O K (F36.fr b c g e f i l q p s a d o u v) h nx =
 zx .neq .int l (I 0) fun v1=>K (F36.fr b c g e f i l q p s v1 d o u v) h nx:=by kernel_rfl
theorem F36.v10:Arg.ev (.t (.of 10)) ⟨(F36.fr b c g e f i l q p s a d o u v),[]⟩=a:=by kernel_rfl
theorem F36.eX:IR.run F36.t8 C N O K (F36.fr b c g e f i l q p s a d o u v) h nx =
 C.fn 110 (.of 110) [(I 0)] h nx fun v1 h2 n3=>yB [(I 0),.zf] h2 n3 fun v4 h5 n6=>zM 2 v4 v1 h5 n6 fun v7 h8 n9=>K (F36.fr b c g e f i l v4 p s a d o u v) h8 n9:=by kernel_rfl
theorem F36.t9_s:IR.run F36.t9 C N O K (F36.fr b c g e f i l q p s a d o u v) h nx =
 C.fn 90 (.of 90) [b] h nx fun v1 h2 n3=>K (F36.fr b c g e f i l q p s a v1 o u v) h2 n3:=by kernel_rfl
theorem F36.sN:IR.run F36.t10 C N O K (F36.fr b c g e f i l q p s a d o u v) h nx =
 yB [.zf,(.bool false)] h nx fun v1 h2 n3=>zM 2 v1 u h2 n3 fun v4 h5 n6=>K (F36.fr b c g e f i l q v1 s a d o u v) h5 n6:=by kernel_rfl
theorem F36.aZ:IR.run F36.t11 C N O K (F36.fr b c g e f i l q p s a d o u v) h nx =
 zK 2 q h fun v1=>zK 2 p h fun v2=>zF e h fun v3=>C.fn 112 (.of 112) [v2,v3] h nx fun v4 h5 n6=>(zK 2 q h5 fun vD=>zL vD v1 (C.fn 111 (.of 111) [v1,v4] h5 n6 fun v7 h8 n9=>zM 2 q v7 h8 n9 fun vA hG nG=>K (F36.fr b c g e f i l q p s a d o u v) hG nG)):=by kernel_rfl
theorem F36.zwq:Arg.ev (.t (.of 11)) ⟨(F36.fr b c g e f i l q p s a d o u v),[]⟩=d:=by kernel_rfl
theorem F36.zwr {z0 z1:AV} (k:T AV->OP):zX [(.of 12),(.of 13)] [z0,z1] (F36.fr b c g e f i l q p s a d o u v) k=k (F36.fr b c g e f i l q p s a d z0 z1 v):=by kernel_rfl
theorem F36.au:IR.run F36.t16 C N O K (F36.fr b c g e f i l q p s a d o u v) h nx =
 sChk (true&&true) (zK 2 q h fun v1=>sLen b fun v2=>C.fn 110 (.of 110) [v2] h nx fun v3 h4 n5=>(sLen b fun v25=>zL v25 v2 (zL b b ((zK 2 q h4 fun vO=>zL vO v1 (C.fn 114 (.of 114) [v1,v3] h4 n5 fun v6 h7 n8=>(sLen b fun vN=>zL vN v2 (zL b b ((zK 2 q h7 fun vM=>zL vM v1 (C.fn 113 (.of 113) [v6] h7 n8 fun v9 hU nU=>(sLen b fun vL=>zL vL v2 (zL b b ((zK 2 q hU fun vK=>zL vK v1 (yB [(I 0),.zf,(I 0),.zf] hU nU fun vC h13 n14=>(sLen b fun vJ=>zL vJ v2 (zL b b ((zK 2 q h13 fun vI=>zL vI v1 (zM 4 vC v9 h13 n14 fun vF h16 n17=>K (F36.fr b c g e f i l q p vC a d o u v) h16 n17))))))))))))))))))))):=by kernel_rfl
theorem F36.oO:IR.run F36.t17 C N O K (F36.fr b c g e f i l q p s a d o u v) h nx =
 zK 4 s h fun v1=>C.fn 115 (.of 115) [v1] h nx fun v2 h3 n4=>K (F36.fr b c g e f i l q p s a d o u v2) h3 n4:=by kernel_rfl
theorem F36.v14:Arg.ev (.t (.of 14)) ⟨(F36.fr b c g e f i l q p s a d o u v),[]⟩=v:=by kernel_rfl
theorem F36.zfn:IR.run F36.t22 C N O K (F36.fr b c g e f i l q p s a d o u v) h nx =
 zK 4 s h fun v1=>C.fn 116 (.of 116) [v1] h nx fun v2 h3 n4=>K (F36.fr b c g e v2 (I 0) l q p s a d o u v) h3 n4:=by kernel_rfl
theorem F36.tab:T.get none (.of 36) tbl=some F36:=by kernel_rfl
theorem F36.bind (k:T AV->OP):zX F36.params [a0,a1,a2] F36.init k=k (F36.fr a0 a1 a2 .undef .undef .undef .undef .undef .undef .undef .undef .undef .undef .undef .undef):=by kernel_rfl
theorem F36.jf:F36.body=F36.t29:=by kernel_rfl
theorem F36.go:zV tbl N C (.of 36) [a0,a1,a2] h nx K0=IR.run F36.t29 C N (fnO F36.res K0) (gq F36.res K0) (F36.fr a0 a1 a2 .undef .undef .undef .undef .undef .undef .undef .undef .undef .undef .undef .undef) h nx:=by
 rw [zJ F36.tab,F36.bind,F36.jf];kernel_rfl
theorem F36.ret:gq F36.res K0 (F36.fr b c g e f i l q p s a d o u v) h nx=K0 (.tup [f,i]) h nx:=by kernel_rfl
def yc.t0:IR:=.reg [.w (.loc (.of 2)) none (.box (.t (.of 0))),.w (.loc (.of 3)) none (.alloc [(I 0),.zf])]
def yc.t1:IR:=.reg [.w .push none (.call (.c (.fn 110 (.of 110) [])) [(.c (I 1))]),.w (.loc (.of 4)) none (.alloc [(I 0),.zf]),.w .none none (.store 2 (.t (.of 4)) (.s 0))]
def yc.t2:IR:=.reg [.s (.zh 2 (.t (.of 2))),.w (.loc (.of 7)) none (.call (.c (.fn 138 (.of 138) [])) [(.s 0)]),.q (.of 8) (.len (.t (.of 7))),.q (.of 9) (.mv (.c (I 0)))]
def yc.t3:IR:=.reg [.q (.of 10) (.bin .lss .int (.t (.of 9)) (.t (.of 8)))]
def yc.t4:IR:=.cond (.t (.of 10)) .skip (.exit 0)
def yc.t5:IR:=.reg [.s (.zo 1 (.t (.of 7)) (.t (.of 9))),.s (.load (.s 0)),.q (.of 5) (.mv (.s 0))]
def yc.t6:IR:=.reg [.s (.mv (.t (.of 1))),.q (.of 6) (.mv (.s 0))]
def yc.t7:IR:=.reg [.s (.zu 1 (.t (.of 2))),.s (.load (.s 0)),.s (.mv (.s 0)),.p .push (some ((.s 0),true)) (.mv (.t (.of 5))),.p .push (some ((.s 1),true)) (.bin .rem .int (.s 0) (.c (I 2))),.p .push (some ((.s 2),true)) (.bin .eql .int (.s 0) (.c (I 1))),.q (.of 11) (.pick (.s 3) (.s 0) (.c (.bool false)))]
def yc.t8:IR:=.reg [.s (.mv (.t (.of 1))),.s (.bin .rem .int (.s 0) (.c (I 2))),.q (.of 6) (.mv (.s 0))]
def yc.t9:IR:=.cond (.t (.of 11)) yc.t8 .skip
def yc.t10:IR:=.seq yc.t7 yc.t9
def yc.t11:IR:=.yw [] [(.s (.zh 2 (.t (.of 4))),1,[]),(.s (.mv (.t (.of 6))),0,[]),(.w .push none (.call (.c (.fn 110 (.of 110) [])) [(.s 0)]),0,[]),(.w .push none (.call (.c (.fn 179 (.of 179) [])) [(.s 2),(.s 0)]),0,[]),(.w .none none (.store 2 (.t (.of 4)) (.s 0)),0,[])]
def yc.t12:IR:=.seq yc.t10 yc.t11
def yc.t13:IR:=.seq yc.t6 yc.t12
def yc.t14:IR:=.seq yc.t5 yc.t13
def yc.t15:IR:=.block 1 yc.t14
def yc.t16:IR:=.reg [.s (.bin .add .int (.t (.of 9)) (.c (I 1))),.q (.of 9) (.mv (.s 0))]
def yc.t17:IR:=.seq yc.t15 yc.t16
def yc.t18:IR:=.seq yc.t4 yc.t17
def yc.t19:IR:=.seq yc.t3 yc.t18
def yc.t20:IR:=.loop yc.t19
def yc.t21:IR:=.block 0 yc.t20
def yc.t22:IR:=.seq yc.t2 yc.t21
def yc.t23:IR:=.reg [.s (.zh 2 (.t (.of 4))),.w .none none (.store 2 (.t (.of 3)) (.s 0))]
def yc.t24:IR:=.seq yc.t23 .ret
def yc.t25:IR:=.seq yc.t22 yc.t24
def yc.t26:IR:=.seq yc.t1 yc.t25
def yc.t27:IR:=.seq yc.t0 yc.t26
theorem yc.xq:IR.run yc.t0 C N O K (yc.fr b c g e f i l q p s a d) h nx =
 rP b h nx fun v1 h2 n3=>yB [(I 0),.zf] h2 n3 fun v4 h5 n6=>K (yc.fr b c v1 v4 f i l q p s a d) h5 n6:=by kernel_rfl
theorem yc.xu:IR.run yc.t1 C N O K (yc.fr b c g e f i l q p s a d) h nx =
 C.fn 110 (.of 110) [(I 1)] h nx fun v1 h2 n3=>yB [(I 0),.zf] h2 n3 fun v4 h5 n6=>zM 2 v4 v1 h5 n6 fun v7 h8 n9=>K (yc.fr b c g e v4 i l q p s a d) h8 n9:=by kernel_rfl
theorem yc.fO:IR.run yc.t2 C N O K (yc.fr b c g e f i l q p s a d) h nx =
 zK 2 g h fun v1=>C.fn 138 (.of 138) [v1] h nx fun v2 h3 n4=>sLen v2 fun v5=>K (yc.fr b c g e f i l v2 v5 (I 0) a d) h3 n4:=by kernel_rfl
theorem yc.rY:IR.run yc.t3 C N O K (yc.fr b c g e f i l q p s a d) h nx =
 zx .lss .int s p fun v1=>K (yc.fr b c g e f i l q p s v1 d) h nx:=by kernel_rfl
theorem yc.v10:Arg.ev (.t (.of 10)) ⟨(yc.fr b c g e f i l q p s a d),[]⟩=a:=by kernel_rfl
theorem yc.t5_s:IR.run yc.t5 C N O K (yc.fr b c g e f i l q p s a d) h nx =
 zS 1 q s fun v1=>zF v1 h fun v2=>K (yc.fr b c g e f v2 l q p s a d) h nx:=by kernel_rfl
theorem yc.t6_s:IR.run yc.t6 C N O K (yc.fr b c g e f i l q p s a d) h nx =
 K (yc.fr b c g e f i c q p s a d) h nx:=by kernel_rfl
theorem yc.t7_s:IR.run yc.t7 C N O K (yc.fr b c g e f i l q p s a d) h nx =
 zQ 1 g fun v1=>zF v1 h fun v2=>sG v2 true (fun k=>k i) fun v3=>sG v2 true (fun k=>zx .rem .int v3 (I 2) k) fun v4=>sG v2 true (fun k=>zx .eql .int v4 (I 1) k) fun v5=>jS v2 v5 (.bool false) fun v6=>K (yc.fr b c g e f i l q p s a v6) h nx:=by kernel_rfl
theorem yc.v11:Arg.ev (.t (.of 11)) ⟨(yc.fr b c g e f i l q p s a d),[]⟩=d:=by kernel_rfl
theorem yc.aZ:IR.run yc.t11 C N O K (yc.fr b c g e f i l q p s a d) h nx =
 zK 2 f h fun v1=>C.fn 110 (.of 110) [l] h nx fun v2 h3 n4=>(zK 2 f h3 fun vB=>zL vB v1 (C.fn 179 (.of 179) [v1,v2] h3 n4 fun v5 h6 n7=>zM 2 f v5 h6 n7 fun v8 h9 nH=>K (yc.fr b c g e f i l q p s a d) h9 nH)):=by kernel_rfl
theorem yc.au:IR.run yc.t16 C N O K (yc.fr b c g e f i l q p s a d) h nx =
 zx .add .int s (I 1) fun v1=>K (yc.fr b c g e f i l q p v1 a d) h nx:=by kernel_rfl
theorem yc.zwt (Inv:Nat->AV->T Blk->Pa->Prop) {m:Nat} (hm:m<N) (hi:Inv m s h nx)
  (step:∀ (m:Nat) (z5 z6 z9 zI zA:AV) (h:T Blk) (nx:Pa) (R:Ks Prop),Inv m z9 h nx->(∀ (m':Nat) (w5 w6 w9 wH wA:AV) (h':T Blk) (nx':Pa),m'<m->Inv m' w9 h' nx'->R (yc.fr b c g e f w5 w6 q p w9 wH wA) h' nx'=.ok True)->IR.run yc.t19 C N O R (yc.fr b c g e f z5 z6 q p z9 zI zA) h nx=.ok True) :
  IR.run yc.t20 C N O K (yc.fr b c g e f i l q p s a d) h nx=.ok True:=by
 rw [yc.t20];refine yK (fun m tm h nx=>∃ z5 z6 z9 zI zA,tm=(yc.fr b c g e f z5 z6 q p z9 zI zA)/\Inv m z9 h nx) ?_ hm ⟨_,_,_,_,_,rfl,hi⟩;rintro m tm h nx R ⟨z5,z6,z9,zI,zA,rfl,hi⟩ hR;exact step m z5 z6 z9 zI zA h nx R hi fun m' w5 w6 w9 wH wA h' nx' hlt hi'=>hR m' _ h' nx' hlt ⟨_,_,_,_,_,rfl,hi'⟩
theorem yc.zda:IR.run yc.t23 C N O K (yc.fr b c g e f i l q p s a d) h nx =
 zK 2 f h fun v1=>zM 2 e v1 h nx fun v2 h3 n4=>K (yc.fr b c g e f i l q p s a d) h3 n4:=by kernel_rfl
theorem yc.tab:T.get none (.of 112) tbl=some yc:=by kernel_rfl
theorem yc.bind (k:T AV->OP):zX yc.params [a0,a1] yc.init k=k (yc.fr a0 a1 .undef .undef .undef .undef .undef .undef .undef .undef .undef .undef):=by kernel_rfl
theorem yc.jf:yc.body=yc.t27:=by kernel_rfl
theorem yc.go:zV tbl N C (.of 112) [a0,a1] h nx K0=IR.run yc.t27 C N (fnO yc.res K0) (gq yc.res K0) (yc.fr a0 a1 .undef .undef .undef .undef .undef .undef .undef .undef .undef .undef) h nx:=by
 rw [zJ yc.tab,yc.bind,yc.jf];kernel_rfl
theorem yc.ret:gq yc.res K0 (yc.fr b c g e f i l q p s a d) h nx=zK 2 e h fun v1=>K0 v1 h nx:=by kernel_rfl
end
end Go.Ev
namespace Go.Ev
open Go Go.Proofs
set_option maxRecDepth 100000
section
variable {N:Nat} {C:Calls Prop} {K0:Kw Prop} {K:Ks Prop} {h:T Blk} {nx:Pa} {b c g e f i l q p s a d o u v w y z a0 a1:AV} {O:uq Prop} {tm:T AV} {Kt:KTm} {r:List RO} {s0 s1 s2 s3 s4 s5 s6 s7 s8 s9 s10 s11 s12 s13 s14 s15 s16 s17 s18 s19 s20 s21 s22 s23 s24 s25 s26 s27 s28 s29 s30 s31 s32 s33 s34 s35 s36 s37 s38 s39 s40 s41 s42 s43 s44 s45 s46 s47 s48 s49 s50 s51 s52 s53 s54 s55 s56 s57 s58 s59:AV}
def vg.t0:IR:=.reg [.w (.loc (.of 1)) none (.alloc [(I 0),.zf])]
def vg.t1:IR:=.reg [.s (.mv (.t (.of 0))),.s (.build [(I 0),.zf] [(0,1,(.s 0))]),.w .none none (.store 2 (.t (.of 1)) (.s 0))]
def vg.t2:IR:=.seq vg.t1 .ret
def vg.t3:IR:=.seq vg.t0 vg.t2
theorem vg.xq:IR.run vg.t0 C N O K (vg.fr b c) h nx =
 yB [(I 0),.zf] h nx fun v1 h2 n3=>K (vg.fr b v1) h2 n3:=by kernel_rfl
theorem vg.xu:IR.run vg.t1 C N O K (vg.fr b c) h nx =
 gO [(I 0),.zf] [(0,1,b)] fun v1=>zM 2 c v1 h nx fun v2 h3 n4=>K (vg.fr b c) h3 n4:=by kernel_rfl
theorem vg.tab:T.get none (.of 110) tbl=some vg:=by kernel_rfl
theorem vg.bind (k:T AV->OP):zX vg.params [a0] vg.init k=k (vg.fr a0 .undef):=by kernel_rfl
theorem vg.jf:vg.body=vg.t3:=by kernel_rfl
theorem vg.go:zV tbl N C (.of 110) [a0] h nx K0=IR.run vg.t3 C N (fnO vg.res K0) (gq vg.res K0) (vg.fr a0 .undef) h nx:=by
 rw [zJ vg.tab,vg.bind,vg.jf];kernel_rfl
theorem vg.ret:gq vg.res K0 (vg.fr b c) h nx=zK 2 c h fun v1=>K0 v1 h nx:=by kernel_rfl
def jd.t0:IR:=.reg [.w (.loc (.of 2)) none (.box (.t (.of 0))),.w (.loc (.of 3)) none (.box (.t (.of 1))),.w (.loc (.of 4)) none (.alloc [(I 0),.zf])]
def jd.t1:IR:=.reg [.s (.zu 1 (.t (.of 2))),.s (.load (.s 0)),.s (.bin .eql (.nil .sl) (.s 0) (.c .zf)),.s (.mv (.s 0)),.p .push (some ((.s 0),true)) (.zu 1 (.t (.of 3))),.p .push (some ((.s 1),true)) (.load (.s 0)),.p .push (some ((.s 2),true)) (.bin .eql (.nil .sl) (.s 0) (.c .zf)),.q (.of 10) (.pick (.s 3) (.s 0) (.c (.bool false)))]
def jd.t2:IR:=.reg [.s (.zu 0 (.t (.of 2))),.s (.load (.s 0)),.s (.zu 0 (.t (.of 3))),.s (.load (.s 0)),.s (.bin .add .int (.s 2) (.s 0)),.q (.of 5) (.mv (.s 0))]
def jd.t3:IR:=.reg [.s (.mv (.t (.of 5))),.s (.zu 0 (.t (.of 2))),.s (.load (.s 0)),.s (.bin .gtr .int (.s 2) (.s 0)),.s (.zu 0 (.t (.of 3))),.s (.load (.s 0)),.s (.bin .gtr .int (.s 0) (.c (I 0))),.q (.of 11) (.bin .eql .bool (.s 3) (.s 0))]
def jd.t4:IR:=.reg [.s (.mv (.t (.of 5))),.s (.build [(I 0),.zf] [(0,1,(.s 0))]),.w .none none (.store 2 (.t (.of 4)) (.s 0))]
def jd.t5:IR:=.seq jd.t4 .ret
def jd.t6:IR:=.cond (.t (.of 11)) jd.t5 .skip
def jd.t7:IR:=.seq jd.t3 jd.t6
def jd.t8:IR:=.seq jd.t2 jd.t7
def jd.t9:IR:=.cond (.t (.of 10)) jd.t8 .skip
def jd.t10:IR:=.seq jd.t1 jd.t9
def jd.t11:IR:=.reg [.s (.zh 2 (.t (.of 2))),.w .push none (.call (.c (.fn 174 (.of 174) [])) [(.s 0)]),.s (.mv (.s 0)),.s (.ext 0 (.s 0)),.s (.ext 1 (.s 1)),.q (.of 6) (.mv (.s 1)),.q (.of 7) (.mv (.s 0))]
def jd.t12:IR:=.reg [.s (.zh 2 (.t (.of 3))),.w .push none (.call (.c (.fn 174 (.of 174) [])) [(.s 0)]),.s (.mv (.s 0)),.s (.ext 0 (.s 0)),.s (.ext 1 (.s 1)),.q (.of 8) (.mv (.s 1)),.q (.of 9) (.mv (.s 0))]
def jd.t13:IR:=.reg [.s (.mv (.t (.of 6))),.s (.mv (.t (.of 8))),.s (.bin .eql .bool (.s 1) (.s 0)),.q (.of 12) (.mv (.s 0))]
def jd.t14:IR:=.reg [.s (.mv (.t (.of 6))),.s (.mv (.t (.of 7))),.s (.mv (.t (.of 9))),.w .push none (.call (.c (.fn 176 (.of 176) [])) [(.s 1),(.s 0)]),.w .push none (.call (.c (.fn 175 (.of 175) [])) [(.s 3),(.s 0)]),.w .none none (.store 2 (.t (.of 4)) (.s 0))]
def jd.t15:IR:=.seq jd.t14 .ret
def jd.t16:IR:=.reg [.s (.mv (.t (.of 7))),.s (.mv (.t (.of 9))),.w .push none (.call (.c (.fn 177 (.of 177) [])) [(.s 1),(.s 0)]),.s (.bin .geq .int (.s 0) (.c (I 0))),.q (.of 13) (.mv (.s 0))]
def jd.t17:IR:=.reg [.s (.mv (.t (.of 6))),.s (.mv (.t (.of 7))),.s (.mv (.t (.of 9))),.w .push none (.call (.c (.fn 178 (.of 178) [])) [(.s 1),(.s 0)]),.w .push none (.call (.c (.fn 175 (.of 175) [])) [(.s 3),(.s 0)]),.w .none none (.store 2 (.t (.of 4)) (.s 0))]
def jd.t18:IR:=.seq jd.t17 .ret
def jd.t19:IR:=.cond (.t (.of 13)) jd.t18 .skip
def jd.t20:IR:=.seq jd.t16 jd.t19
def jd.t21:IR:=.cond (.t (.of 12)) jd.t15 jd.t20
def jd.t22:IR:=.seq jd.t13 jd.t21
def jd.t23:IR:=.block 0 jd.t22
def jd.t24:IR:=.reg [.s (.mv (.t (.of 8))),.s (.mv (.t (.of 9))),.s (.mv (.t (.of 7))),.w .push none (.call (.c (.fn 178 (.of 178) [])) [(.s 1),(.s 0)]),.w .push none (.call (.c (.fn 175 (.of 175) [])) [(.s 3),(.s 0)]),.w .none none (.store 2 (.t (.of 4)) (.s 0))]
def jd.t25:IR:=.seq jd.t24 .ret
def jd.t26:IR:=.seq jd.t23 jd.t25
def jd.t27:IR:=.seq jd.t12 jd.t26
def jd.t28:IR:=.seq jd.t11 jd.t27
def jd.t29:IR:=.seq jd.t10 jd.t28
def jd.t30:IR:=.seq jd.t0 jd.t29
theorem jd.xq:IR.run jd.t0 C N O K (jd.fr b c g e f i l q p s a d o u) h nx =
 rP b h nx fun v1 h2 n3=>rP c h2 n3 fun v4 h5 n6=>yB [(I 0),.zf] h5 n6 fun v7 h8 n9=>K (jd.fr b c v1 v4 v7 i l q p s a d o u) h8 n9:=by kernel_rfl
theorem jd.xu:IR.run jd.t1 C N O K (jd.fr b c g e f i l q p s a d o u) h nx =
 zQ 1 g fun v1=>zF v1 h fun v2=>zx .eql (.nil .sl) v2 .zf fun v3=>sG v3 true (fun k=>zQ 1 e k) fun v4=>sG v3 true (fun k=>zF v4 h k) fun v5=>sG v3 true (fun k=>zx .eql (.nil .sl) v5 .zf k) fun v6=>jS v3 v6 (.bool false) fun v7=>K (jd.fr b c g e f i l q p s v7 d o u) h nx:=by kernel_rfl
theorem jd.fO:IR.run jd.t2 C N O K (jd.fr b c g e f i l q p s a d o u) h nx =
 zQ 0 g fun v1=>zF v1 h fun v2=>zQ 0 e fun v3=>zF v3 h fun v4=>zx .add .int v2 v4 fun v5=>K (jd.fr b c g e f v5 l q p s a d o u) h nx:=by kernel_rfl
theorem jd.rY:IR.run jd.t3 C N O K (jd.fr b c g e f i l q p s a d o u) h nx =
 zQ 0 g fun v1=>zF v1 h fun v2=>zx .gtr .int i v2 fun v3=>zQ 0 e fun v4=>zF v4 h fun v5=>zx .gtr .int v5 (I 0) fun v6=>zx .eql .bool v3 v6 fun v7=>K (jd.fr b c g e f i l q p s a v7 o u) h nx:=by kernel_rfl
theorem jd.t4_s:IR.run jd.t4 C N O K (jd.fr b c g e f i l q p s a d o u) h nx =
 gO [(I 0),.zf] [(0,1,i)] fun v1=>zM 2 f v1 h nx fun v2 h3 n4=>K (jd.fr b c g e f i l q p s a d o u) h3 n4:=by kernel_rfl
theorem jd.v11:Arg.ev (.t (.of 11)) ⟨(jd.fr b c g e f i l q p s a d o u),[]⟩=d:=by kernel_rfl
theorem jd.v10:Arg.ev (.t (.of 10)) ⟨(jd.fr b c g e f i l q p s a d o u),[]⟩=a:=by kernel_rfl
theorem jd.tab:T.get none (.of 111) tbl=some jd:=by kernel_rfl
theorem jd.bind (k:T AV->OP):zX jd.params [a0,a1] jd.init k=k (jd.fr a0 a1 .undef .undef .undef .undef .undef .undef .undef .undef .undef .undef .undef .undef):=by kernel_rfl
theorem jd.jf:jd.body=jd.t30:=by kernel_rfl
theorem jd.go:zV tbl N C (.of 111) [a0,a1] h nx K0=IR.run jd.t30 C N (fnO jd.res K0) (gq jd.res K0) (jd.fr a0 a1 .undef .undef .undef .undef .undef .undef .undef .undef .undef .undef .undef .undef) h nx:=by
 rw [zJ jd.tab,jd.bind,jd.jf];kernel_rfl
theorem jd.ret:gq jd.res K0 (jd.fr b c g e f i l q p s a d o u) h nx=zK 2 f h fun v1=>K0 v1 h nx:=by kernel_rfl
def jv.t0:IR:=.reg [.w (.loc (.of 2)) none (.box (.t (.of 0))),.w (.loc (.of 3)) none (.box (.t (.of 1))),.w (.loc (.of 4)) none (.alloc [(I 0),.zf])]
def jv.t1:IR:=.reg [.s (.zh 2 (.t (.of 3))),.w .push none (.call (.c (.fn 180 (.of 180) [])) [(.s 0)]),.q (.of 6) (.bin .lss .int (.s 0) (.c (I 0)))]
def jv.t2:IR:=.yw [] [(.s (.zh 2 (.t (.of 2))),0,[]),(.s (.zh 2 (.t (.of 3))),1,[]),(.w .push none (.call (.c (.fn 181 (.of 181) [])) [(.s 1)]),0,[]),(.w .push none (.call (.c (.fn 181 (.of 181) [])) [(.s 1)]),0,[]),(.w .none none (.store 2 (.t (.of 2)) (.s 1)),0,[]),(.w .none none (.store 2 (.t (.of 3)) (.s 0)),0,[])]
def jv.t3:IR:=.cond (.t (.of 6)) jv.t2 .skip
def jv.t4:IR:=.seq jv.t1 jv.t3
def jv.t5:IR:=.reg [.s (.zh 2 (.t (.of 2))),.s (.zh 2 (.t (.of 3))),.w .push none (.call (.c (.fn 182 (.of 182) [])) [(.s 1),(.s 0)]),.s (.mv (.s 0)),.s (.ext 0 (.s 0)),.s (.ext 1 (.s 1)),.w (.loc (.of 5)) none (.alloc [(I 0),.zf]),.w .push none (.alloc [(I 0),.zf]),.w .none none (.store 2 (.t (.of 5)) (.s 2)),.w .none none (.store 2 (.s 0) (.s 1))]
def jv.t6:IR:=.reg [.s (.zh 2 (.t (.of 5))),.w .none none (.store 2 (.t (.of 4)) (.s 0))]
def jv.t7:IR:=.seq jv.t6 .ret
def jv.t8:IR:=.seq jv.t5 jv.t7
def jv.t9:IR:=.seq jv.t4 jv.t8
def jv.t10:IR:=.seq jv.t0 jv.t9
theorem jv.xq:IR.run jv.t0 C N O K (jv.fr b c g e f i l) h nx =
 rP b h nx fun v1 h2 n3=>rP c h2 n3 fun v4 h5 n6=>yB [(I 0),.zf] h5 n6 fun v7 h8 n9=>K (jv.fr b c v1 v4 v7 i l) h8 n9:=by kernel_rfl
theorem jv.xu:IR.run jv.t1 C N O K (jv.fr b c g e f i l) h nx =
 zK 2 e h fun v1=>C.fn 180 (.of 180) [v1] h nx fun v2 h3 n4=>zx .lss .int v2 (I 0) fun v5=>K (jv.fr b c g e f i v5) h3 n4:=by kernel_rfl
theorem jv.v6:Arg.ev (.t (.of 6)) ⟨(jv.fr b c g e f i l),[]⟩=l:=by kernel_rfl
theorem jv.t5_s:IR.run jv.t5 C N O K (jv.fr b c g e f i l) h nx =
 zK 2 g h fun v1=>zK 2 e h fun v2=>C.fn 182 (.of 182) [v1,v2] h nx fun v3 h4 n5=>bY 0 v3 fun v6=>bY 1 v3 fun v7=>yB [(I 0),.zf] h4 n5 fun v8 h9 nH=>yB [(I 0),.zf] h9 nH fun vB hB nB=>zM 2 v8 v6 hB nB fun vE hA nA=>zM 2 vB v7 hA nA fun vH h18 n19=>K (jv.fr b c g e f v8 l) h18 n19:=by kernel_rfl
theorem jv.t6_s:IR.run jv.t6 C N O K (jv.fr b c g e f i l) h nx =
 zK 2 i h fun v1=>zM 2 f v1 h nx fun v2 h3 n4=>K (jv.fr b c g e f i l) h3 n4:=by kernel_rfl
theorem jv.tab:T.get none (.of 114) tbl=some jv:=by kernel_rfl
theorem jv.bind (k:T AV->OP):zX jv.params [a0,a1] jv.init k=k (jv.fr a0 a1 .undef .undef .undef .undef .undef):=by kernel_rfl
theorem jv.jf:jv.body=jv.t10:=by kernel_rfl
theorem jv.go:zV tbl N C (.of 114) [a0,a1] h nx K0=IR.run jv.t10 C N (fnO jv.res K0) (gq jv.res K0) (jv.fr a0 a1 .undef .undef .undef .undef .undef) h nx:=by
 rw [zJ jv.tab,jv.bind,jv.jf];kernel_rfl
theorem jv.ret:gq jv.res K0 (jv.fr b c g e f i l) h nx=zK 2 f h fun v1=>K0 v1 h nx:=by kernel_rfl
def vk.t0:IR:=.reg [.w (.loc (.of 1)) none (.box (.t (.of 0))),.q (.of 2) (.mv (.c (I 0)))]
def vk.t1:IR:=.reg [.s (.zu 0 (.t (.of 1))),.s (.load (.s 0)),.s (.aU false (.c (I 1)) [(.s 0)]),.s (.aU true (.c (I (-1))) [(.s 0)]),.q (.of 2) (.mv (.s 0))]
def vk.t2:IR:=.seq vk.t1 .ret
def vk.t3:IR:=.seq vk.t0 vk.t2
theorem vk.xq:IR.run vk.t0 C N O K (vk.fr b c g) h nx =
 rP b h nx fun v1 h2 n3=>K (vk.fr b v1 (I 0)) h2 n3:=by kernel_rfl
theorem vk.xu:IR.run vk.t1 C N O K (vk.fr b c g) h nx =
 zQ 0 c fun v1=>zF v1 h fun v2=>sMin false (I 1) [v2] fun v3=>sMin true (I (-1)) [v3] fun v4=>K (vk.fr b c v4) h nx:=by kernel_rfl
theorem vk.tab:T.get none (.of 180) tbl=some vk:=by kernel_rfl
theorem vk.bind (k:T AV->OP):zX vk.params [a0] vk.init k=k (vk.fr a0 .undef .undef):=by kernel_rfl
theorem vk.jf:vk.body=vk.t3:=by kernel_rfl
theorem vk.go:zV tbl N C (.of 180) [a0] h nx K0=IR.run vk.t3 C N (fnO vk.res K0) (gq vk.res K0) (vk.fr a0 .undef .undef) h nx:=by
 rw [zJ vk.tab,vk.bind,vk.jf];kernel_rfl
theorem vk.ret:gq vk.res K0 (vk.fr b c g) h nx=K0 g h nx:=by kernel_rfl
def jc.t0:IR:=.reg [.w (.loc (.of 2)) none (.box (.t (.of 0))),.w (.loc (.of 3)) none (.box (.t (.of 1))),.w (.loc (.of 4)) none (.alloc [(I 0),.zf]),.w (.loc (.of 5)) none (.alloc [(I 0),.zf])]
def jc.r1_1:List RO:=.s (.mv (.s 0))::.p .push (some ((.s 0),true)) (.zu 0 (.t (.of 2)))::.p .push (some ((.s 1),true)) (.load (.s 0))::.p .push (some ((.s 2),true)) (.bin .neq .int (.s 0) (.c (I (-9223372036854775808))))::.q (.of 15) (.pick (.s 3) (.s 0) (.c (.bool false)))::[]
def jc.r1_0:List RO:=.s (.zu 1 (.t (.of 2)))::.s (.load (.s 0))::.s (.bin .eql (.nil .sl) (.s 0) (.c .zf))::.s (.mv (.s 0))::.p .push (some ((.s 0),true)) (.zu 1 (.t (.of 3)))::.p .push (some ((.s 1),true)) (.load (.s 0))::.p .push (some ((.s 2),true)) (.bin .eql (.nil .sl) (.s 0) (.c .zf))::.s (.pick (.s 3) (.s 0) (.c (.bool false)))::jc.r1_1
def jc.t1:IR:=.reg jc.r1_0
def jc.t2:IR:=.yw [] [(.s (.zu 0 (.t (.of 2))),0,[]),(.s (.load (.s 0)),0,[]),(.s (.zu 0 (.t (.of 3))),0,[]),(.s (.load (.s 0)),0,[]),(.s (.bin .quo .int (.s 2) (.s 0)),0,[]),(.s (.zu 0 (.t (.of 2))),0,[]),(.s (.load (.s 0)),0,[]),(.s (.zu 0 (.t (.of 3))),0,[]),(.s (.load (.s 0)),0,[]),(.s (.bin .rem .int (.s 2) (.s 0)),0,[]),(.q (.of 6) (.mv (.s 5)),0,[]),(.q (.of 7) (.mv (.s 0)),0,[])]
def jc.t3:IR:=.reg [.s (.mv (.t (.of 7))),.q (.of 16) (.bin .lss .int (.s 0) (.c (I 0)))]
def jc.t4:IR:=.yw [] [(.s (.mv (.t (.of 6))),0,[]),(.s (.bin .sub .int (.s 0) (.c (I 1))),0,[]),(.s (.mv (.t (.of 7))),0,[]),(.s (.zu 0 (.t (.of 3))),0,[]),(.s (.load (.s 0)),0,[]),(.s (.bin .add .int (.s 2) (.s 0)),0,[]),(.q (.of 6) (.mv (.s 4)),0,[]),(.q (.of 7) (.mv (.s 0)),0,[])]
def jc.t5:IR:=.cond (.t (.of 16)) jc.t4 .skip
def jc.t6:IR:=.seq jc.t3 jc.t5
def jc.t7:IR:=.reg [.s (.mv (.t (.of 6))),.s (.build [(I 0),.zf] [(0,1,(.s 0))]),.s (.mv (.t (.of 7))),.s (.build [(I 0),.zf] [(0,1,(.s 0))]),.w .none none (.store 2 (.t (.of 4)) (.s 2)),.w .none none (.store 2 (.t (.of 5)) (.s 0))]
def jc.t8:IR:=.seq jc.t7 .ret
def jc.t9:IR:=.seq jc.t6 jc.t8
def jc.t10:IR:=.seq jc.t2 jc.t9
def jc.t11:IR:=.cond (.t (.of 15)) jc.t10 .skip
def jc.t12:IR:=.seq jc.t1 jc.t11
def jc.t13:IR:=.reg [.s (.zh 2 (.t (.of 2))),.w .push none (.call (.c (.fn 174 (.of 174) [])) [(.s 0)]),.s (.mv (.s 0)),.s (.ext 0 (.s 0)),.s (.ext 1 (.s 1)),.q (.of 8) (.mv (.s 1)),.q (.of 9) (.mv (.s 0))]
def jc.t14:IR:=.reg [.s (.zh 2 (.t (.of 3))),.w .push none (.call (.c (.fn 174 (.of 174) [])) [(.s 0)]),.s (.mv (.s 0)),.s (.ext 0 (.s 0)),.s (.ext 1 (.s 1)),.s (.mv (.s 1)),.q (.of 10) (.mv (.s 1))]
def jc.t15:IR:=.reg [.s (.mv (.t (.of 9))),.s (.mv (.t (.of 10))),.w .push none (.call (.c (.fn 226 (.of 226) [])) [(.s 1),(.s 0)]),.s (.mv (.s 0)),.s (.ext 0 (.s 0)),.s (.ext 1 (.s 1)),.q (.of 11) (.mv (.s 1)),.q (.of 12) (.mv (.s 0))]
def jc.t16:IR:=.reg [.s (.mv (.t (.of 8))),.s (.mv (.t (.of 11))),.w .push none (.call (.c (.fn 175 (.of 175) [])) [(.s 1),(.s 0)]),.s (.mv (.t (.of 8))),.s (.mv (.t (.of 12))),.w .push none (.call (.c (.fn 175 (.of 175) [])) [(.s 1),(.s 0)]),.w (.loc (.of 13)) none (.alloc [(I 0),.zf]),.w (.loc (.of 14)) none (.alloc [(I 0),.zf]),.w .none none (.store 2 (.t (.of 13)) (.s 3)),.w .none none (.store 2 (.t (.of 14)) (.s 0))]
def jc.t17:IR:=.reg [.s (.zh 2 (.t (.of 14))),.w .push none (.call (.c (.fn 180 (.of 180) [])) [(.s 0)]),.q (.of 17) (.bin .lss .int (.s 0) (.c (I 0)))]
def jc.t18:IR:=.yw [] [(.s (.zh 2 (.t (.of 13))),1,[]),(.s (.zh 2 (.t (.of 14))),2,[]),(.s (.zh 2 (.t (.of 3))),2,[]),(.w .push none (.call (.c (.fn 110 (.of 110) [])) [(.c (I 1))]),0,[]),(.w .push none (.call (.c (.fn 227 (.of 227) [])) [(.s 3),(.s 0)]),0,[]),(.w .push none (.call (.c (.fn 111 (.of 111) [])) [(.s 3),(.s 2)]),0,[]),(.w .none none (.store 2 (.t (.of 13)) (.s 1)),0,[]),(.w .none none (.store 2 (.t (.of 14)) (.s 0)),0,[])]
def jc.t19:IR:=.cond (.t (.of 17)) jc.t18 .skip
def jc.t20:IR:=.seq jc.t17 jc.t19
def jc.t21:IR:=.yw [] [(.s (.zh 2 (.t (.of 13))),0,[]),(.s (.zh 2 (.t (.of 14))),1,[]),(.w .none none (.store 2 (.t (.of 4)) (.s 1)),0,[]),(.w .none none (.store 2 (.t (.of 5)) (.s 0)),0,[])]
def jc.t22:IR:=.seq jc.t21 .ret
def jc.t23:IR:=.seq jc.t20 jc.t22
def jc.t24:IR:=.seq jc.t16 jc.t23
def jc.t25:IR:=.seq jc.t15 jc.t24
def jc.t26:IR:=.seq jc.t14 jc.t25
def jc.t27:IR:=.seq jc.t13 jc.t26
def jc.t28:IR:=.seq jc.t12 jc.t27
def jc.t29:IR:=.seq jc.t0 jc.t28
theorem jc.xq:IR.run jc.t0 C N O K (jc.fr b c g e f i l q p s a d o u v w y z) h nx =
 rP b h nx fun v1 h2 n3=>rP c h2 n3 fun v4 h5 n6=>yB [(I 0),.zf] h5 n6 fun v7 h8 n9=>yB [(I 0),.zf] h8 n9 fun vA hG nG=>K (jc.fr b c v1 v4 v7 vA l q p s a d o u v w y z) hG nG:=by kernel_rfl
theorem jc.xu:IR.run jc.t1 C N O K tm h nx=y0 jc.r1_0 C ⟨tm,[]⟩ h nx (fun tm h nx=>K tm.v h nx):=qT ..
theorem jc.zhl:y0 (.s (.zu 1 (.t (.of 2)))::.s (.load (.s 0))::.s (.bin .eql (.nil .sl) (.s 0) (.c .zf))::.s (.mv (.s 0))::.p .push (some ((.s 0),true)) (.zu 1 (.t (.of 3)))::.p .push (some ((.s 1),true)) (.load (.s 0))::.p .push (some ((.s 2),true)) (.bin .eql (.nil .sl) (.s 0) (.c .zf))::.s (.pick (.s 3) (.s 0) (.c (.bool false)))::r) C ⟨(jc.fr b c g e f i l q p s a d o u v w y z),[]⟩ h nx Kt =
 zQ 1 g fun v1=>zF v1 h fun v2=>zx .eql (.nil .sl) v2 .zf fun v3=>sG v3 true (fun k=>zQ 1 e k) fun v4=>sG v3 true (fun k=>zF v4 h k) fun v5=>sG v3 true (fun k=>zx .eql (.nil .sl) v5 .zf k) fun v6=>jS v3 v6 (.bool false) fun v7=>y0 r C ⟨(jc.fr b c g e f i l q p s a d o u v w y z),v7::v6::v5::v4::v3::v3::v2::v1::[]⟩ h nx Kt:=by kernel_rfl
theorem jc.zeh:y0 (.s (.mv (.s 0))::.p .push (some ((.s 0),true)) (.zu 0 (.t (.of 2)))::.p .push (some ((.s 1),true)) (.load (.s 0))::.p .push (some ((.s 2),true)) (.bin .neq .int (.s 0) (.c (I (-9223372036854775808))))::.q (.of 15) (.pick (.s 3) (.s 0) (.c (.bool false)))::[]) C ⟨(jc.fr b c g e f i l q p s a d o u v w y z),s0::s1::s2::s3::s4::s5::s6::s7::[]⟩ h nx Kt =
 sG s0 true (fun k=>zQ 0 g k) fun v1=>sG s0 true (fun k=>zF v1 h k) fun v2=>sG s0 true (fun k=>zx .neq .int v2 (I (-9223372036854775808)) k) fun v3=>jS s0 v3 (.bool false) fun v4=>Kt ⟨(jc.fr b c g e f i l q p s a d o u v v4 y z),v3::v2::v1::s0::s0::s1::s2::s3::s4::s5::s6::s7::[]⟩ h nx:=by kernel_rfl
theorem jc.fO:IR.run jc.t2 C N O K (jc.fr b c g e f i l q p s a d o u v w y z) h nx =
 zQ 0 g fun v1=>zF v1 h fun v2=>zQ 0 e fun v3=>zF v3 h fun v4=>zx .quo .int v2 v4 fun v5=>zQ 0 g fun v6=>zF v6 h fun v7=>zQ 0 e fun v8=>zF v8 h fun v9=>zx .rem .int v7 v9 fun vA=>K (jc.fr b c g e f i v5 vA p s a d o u v w y z) h nx:=by kernel_rfl
theorem jc.rY:IR.run jc.t3 C N O K (jc.fr b c g e f i l q p s a d o u v w y z) h nx =
 zx .lss .int q (I 0) fun v1=>K (jc.fr b c g e f i l q p s a d o u v w v1 z) h nx:=by kernel_rfl
theorem jc.v16:Arg.ev (.t (.of 16)) ⟨(jc.fr b c g e f i l q p s a d o u v w y z),[]⟩=y:=by kernel_rfl
theorem jc.t7_s:IR.run jc.t7 C N O K (jc.fr b c g e f i l q p s a d o u v w y z) h nx =
 gO [(I 0),.zf] [(0,1,l)] fun v1=>gO [(I 0),.zf] [(0,1,q)] fun v2=>zM 2 f v1 h nx fun v3 h4 n5=>zM 2 i v2 h4 n5 fun v6 h7 n8=>K (jc.fr b c g e f i l q p s a d o u v w y z) h7 n8:=by kernel_rfl
theorem jc.v15:Arg.ev (.t (.of 15)) ⟨(jc.fr b c g e f i l q p s a d o u v w y z),[]⟩=w:=by kernel_rfl
theorem jc.tab:T.get none (.of 182) tbl=some jc:=by kernel_rfl
theorem jc.bind (k:T AV->OP):zX jc.params [a0,a1] jc.init k=k (jc.fr a0 a1 .undef .undef .undef .undef .undef .undef .undef .undef .undef .undef .undef .undef .undef .undef .undef .undef):=by kernel_rfl
theorem jc.jf:jc.body=jc.t29:=by kernel_rfl
theorem jc.go:zV tbl N C (.of 182) [a0,a1] h nx K0=IR.run jc.t29 C N (fnO jc.res K0) (gq jc.res K0) (jc.fr a0 a1 .undef .undef .undef .undef .undef .undef .undef .undef .undef .undef .undef .undef .undef .undef .undef .undef) h nx:=by
 rw [zJ jc.tab,jc.bind,jc.jf];kernel_rfl
theorem jc.ret:gq jc.res K0 (jc.fr b c g e f i l q p s a d o u v w y z) h nx=zK 2 f h fun v1=>zK 2 i h fun v2=>K0 (.tup [v1,v2]) h nx:=by kernel_rfl
end
end Go.Ev
namespace Go.Ev
open Go Go.Proofs
set_option maxRecDepth 100000
section
variable {N:Nat} {C:Calls Prop} {K0:Kw Prop} {K:Ks Prop} {h:T Blk} {nx:Pa} {b c g e f i l q p s a d o u v w y z A B D E a0 a1 a2:AV} {O:uq Prop} {tm:T AV} {Kt:KTm} {r:List RO} {s0 s1 s2 s3 s4 s5 s6 s7 s8 s9 s10 s11 s12 s13 s14 s15 s16 s17 s18 s19 s20 s21 s22 s23 s24 s25 s26 s27 s28 s29 s30 s31 s32 s33 s34 s35 s36 s37 s38 s39 s40 s41 s42 s43 s44 s45 s46 s47 s48 s49 s50 s51 s52 s53 s54 s55 s56 s57 s58 s59:AV}
def F45.t0:IR:=.reg [.q (.of 3) (.mv (.c (.bool false)))]
def F45.r1_2:List RO:=.p .push (some ((.s 3),true)) (.bin .eql .int (.s 0) (.c (I 0)))::.s (.pick (.s 4) (.s 0) (.c (.bool false)))::.q (.of 3) (.mv (.s 0))::[]
def F45.r1_1:List RO:=.s (.mv (.s 0))::.p .push (some ((.s 0),true)) (.mv (.t (.of 0)))::.p .push (some ((.s 1),true)) (.mv (.t (.of 1)))::.w .push (some ((.s 2),true)) (.call (.c (.fn 20 (.of 20) [])) [(.s 1),(.s 0)])::F45.r1_2
def F45.r1_0:List RO:=.s (.mv (.t (.of 0)))::.s (.len (.s 0))::.s (.mv (.t (.of 2)))::.s (.bin .leq .int (.s 1) (.s 0))::.s (.mv (.s 0))::.p .push (some ((.s 0),true)) (.mv (.t (.of 1)))::.p .push (some ((.s 1),true)) (.bin .leq .int (.s 0) (.c (I 16)))::.s (.pick (.s 2) (.s 0) (.c (.bool false)))::F45.r1_1
def F45.t1:IR:=.reg F45.r1_0
def F45.t2:IR:=.seq F45.t1 .ret
def F45.t3:IR:=.seq F45.t0 F45.t2
theorem F45.xq:IR.run F45.t0 C N O K (F45.fr b c g e) h nx =
 K (F45.fr b c g (.bool false)) h nx:=by kernel_rfl
theorem F45.xu:IR.run F45.t1 C N O K tm h nx=y0 F45.r1_0 C ⟨tm,[]⟩ h nx (fun tm h nx=>K tm.v h nx):=qT ..
theorem F45.zhl:y0 (.s (.mv (.t (.of 0)))::.s (.len (.s 0))::.s (.mv (.t (.of 2)))::.s (.bin .leq .int (.s 1) (.s 0))::.s (.mv (.s 0))::.p .push (some ((.s 0),true)) (.mv (.t (.of 1)))::.p .push (some ((.s 1),true)) (.bin .leq .int (.s 0) (.c (I 16)))::.s (.pick (.s 2) (.s 0) (.c (.bool false)))::r) C ⟨(F45.fr b c g e),[]⟩ h nx Kt =
 sLen b fun v1=>zx .leq .int v1 g fun v2=>sG v2 true (fun k=>k c) fun v3=>sG v2 true (fun k=>zx .leq .int v3 (I 16) k) fun v4=>jS v2 v4 (.bool false) fun v5=>y0 r C ⟨(F45.fr b c g e),v5::v4::v3::v2::v2::g::v1::b::[]⟩ h nx Kt:=by kernel_rfl
theorem F45.zeh:y0 (.s (.mv (.s 0))::.p .push (some ((.s 0),true)) (.mv (.t (.of 0)))::.p .push (some ((.s 1),true)) (.mv (.t (.of 1)))::.w .push (some ((.s 2),true)) (.call (.c (.fn 20 (.of 20) [])) [(.s 1),(.s 0)])::r) C ⟨(F45.fr b c g e),s0::s1::s2::s3::s4::s5::s6::s7::[]⟩ h nx Kt =
 sG s0 true (fun k=>k b) fun v1=>sG s0 true (fun k=>k c) fun v2=>sGW s0 true (fun k=>C.fn 20 (.of 20) [v1,v2] h nx k) h nx fun v3 h4 n5=>y0 r C ⟨(F45.fr b c g e),v3::v2::v1::s0::s0::s1::s2::s3::s4::s5::s6::s7::[]⟩ h4 n5 Kt:=by kernel_rfl
theorem F45.zhm:y0 (.p .push (some ((.s 3),true)) (.bin .eql .int (.s 0) (.c (I 0)))::.s (.pick (.s 4) (.s 0) (.c (.bool false)))::.q (.of 3) (.mv (.s 0))::[]) C ⟨(F45.fr b c g e),s0::s1::s2::s3::s4::s5::s6::s7::s8::s9::s10::s11::[]⟩ h nx Kt =
 sG s3 true (fun k=>zx .eql .int s0 (I 0) k) fun v1=>jS s3 v1 (.bool false) fun v2=>Kt ⟨(F45.fr b c g v2),v2::v1::s0::s1::s2::s3::s4::s5::s6::s7::s8::s9::s10::s11::[]⟩ h nx:=by kernel_rfl
theorem F45.tab:T.get none (.of 45) tbl=some F45:=by kernel_rfl
theorem F45.bind (k:T AV->OP):zX F45.params [a0,a1,a2] F45.init k=k (F45.fr a0 a1 a2 .undef):=by kernel_rfl
theorem F45.jf:F45.body=F45.t3:=by kernel_rfl
theorem F45.go:zV tbl N C (.of 45) [a0,a1,a2] h nx K0=IR.run F45.t3 C N (fnO F45.res K0) (gq F45.res K0) (F45.fr a0 a1 a2 .undef) h nx:=by
 rw [zJ F45.tab,F45.bind,F45.jf];kernel_rfl
theorem F45.ret:gq F45.res K0 (F45.fr b c g e) h nx=K0 e h nx:=by kernel_rfl
end
end Go.Ev
namespace Go.Ev
open Go Go.Proofs
set_option maxRecDepth 100000
section
variable {N:Nat} {C:Calls Prop} {K0:Kw Prop} {K:Ks Prop} {h:T Blk} {nx:Pa} {b c g e f i l q p s a d o u v w y z A B D E F a0 a1 a2:AV} {O:uq Prop} {tm:T AV} {Kt:KTm} {r:List RO} {s0 s1 s2 s3 s4 s5 s6 s7 s8 s9 s10 s11 s12 s13 s14 s15 s16 s17 s18 s19 s20 s21 s22 s23 s24 s25 s26 s27 s28 s29 s30 s31 s32 s33 s34 s35 s36 s37 s38 s39 s40 s41 s42 s43 s44 s45 s46 s47 s48 s49 s50 s51 s52 s53 s54 s55 s56 s57 s58 s59:AV}
end
end Go.Ev
namespace Go.Ev
open Go Go.Proofs
set_option maxRecDepth 100000
section
variable {N:Nat} {C:Calls Prop} {K0:Kw Prop} {K:Ks Prop} {h:T Blk} {nx:Pa} {b c g e f i l q p s a d o u v w y z A a0 a1:AV} {O:uq Prop} {tm:T AV} {Kt:KTm} {r:List RO} {s0 s1 s2 s3 s4 s5 s6 s7 s8 s9 s10 s11 s12 s13 s14 s15 s16 s17 s18 s19 s20 s21 s22 s23 s24 s25 s26 s27 s28 s29 s30 s31 s32 s33 s34 s35 s36 s37 s38 s39 s40 s41 s42 s43 s44 s45 s46 s47 s48 s49 s50 s51 s52 s53 s54 s55 s56 s57 s58 s59:AV}
end
end Go.Ev
namespace Go.Ev
open Go Go.Proofs
set_option maxRecDepth 100000
section
variable {N:Nat} {C:Calls Prop} {K0:Kw Prop} {K:Ks Prop} {h:T Blk} {nx:Pa} {b c g e f i l q p s a d o u v w y z A B D E F G H L M P Q U V W Z x33 x34 x35 a0 a1 a2:AV} {O:uq Prop} {tm:T AV} {Kt:KTm} {r:List RO} {s0 s1 s2 s3 s4 s5 s6 s7 s8 s9 s10 s11 s12 s13 s14 s15 s16 s17 s18 s19 s20 s21 s22 s23 s24 s25 s26 s27 s28 s29 s30 s31 s32 s33 s34 s35 s36 s37 s38 s39 s40 s41 s42 s43 s44 s45 s46 s47 s48 s49 s50 s51 s52 s53 s54 s55 s56 s57 s58 s59:AV}
end
end Go.Ev
namespace Go.Ev
open Go Go.Proofs
set_option maxRecDepth 100000
section
variable {N:Nat} {C:Calls Prop} {K0:Kw Prop} {K:Ks Prop} {h:T Blk} {nx:Pa} {b c g e f i l q p s a d o u a0 a1 a2:AV} {O:uq Prop} {tm:T AV} {Kt:KTm} {r:List RO} {s0 s1 s2 s3 s4 s5 s6 s7 s8 s9 s10 s11 s12 s13 s14 s15 s16 s17 s18 s19 s20 s21 s22 s23 s24 s25 s26 s27 s28 s29 s30 s31 s32 s33 s34 s35 s36 s37 s38 s39 s40 s41 s42 s43 s44 s45 s46 s47 s48 s49 s50 s51 s52 s53 s54 s55 s56 s57 s58 s59:AV}
end
end Go.Ev
namespace Go.Ev
open Go Go.Proofs
set_option maxRecDepth 100000
section
variable {N:Nat} {C:Calls Prop} {K0:Kw Prop} {K:Ks Prop} {h:T Blk} {nx:Pa} {b c g e f a0:AV} {O:uq Prop} {tm:T AV} {Kt:KTm} {r:List RO} {s0 s1 s2 s3 s4 s5 s6 s7 s8 s9 s10 s11 s12 s13 s14 s15 s16 s17 s18 s19 s20 s21 s22 s23 s24 s25 s26 s27 s28 s29 s30 s31 s32 s33 s34 s35 s36 s37 s38 s39 s40 s41 s42 s43 s44 s45 s46 s47 s48 s49 s50 s51 s52 s53 s54 s55 s56 s57 s58 s59:AV}
def F31.t0:IR:=.reg [.w (.loc (.of 1)) none (.alloc [.zf,(.bool false)])]
def F31.t1:IR:=.reg [.s (.mv (.t (.of 0))),.w .push none (.call (.c (.fn 101 (.of 101) [])) [(.s 0)]),.s (.build [.zf,(.bool false)] [(0,1,(.s 0))]),.w .none none (.store 2 (.t (.of 1)) (.s 0))]
def F31.t2:IR:=.seq F31.t1 .ret
def F31.t3:IR:=.seq F31.t0 F31.t2
theorem F31.xq:IR.run F31.t0 C N O K (F31.fr b c) h nx =
 yB [.zf,(.bool false)] h nx fun v1 h2 n3=>K (F31.fr b v1) h2 n3:=by kernel_rfl
theorem F31.xu:IR.run F31.t1 C N O K (F31.fr b c) h nx =
 C.fn 101 (.of 101) [b] h nx fun v1 h2 n3=>gO [.zf,(.bool false)] [(0,1,v1)] fun v4=>zM 2 c v4 h2 n3 fun v5 h6 n7=>K (F31.fr b c) h6 n7:=by kernel_rfl
theorem F31.tab:T.get none (.of 31) tbl=some F31:=by kernel_rfl
theorem F31.bind (k:T AV->OP):zX F31.params [a0] F31.init k=k (F31.fr a0 .undef):=by kernel_rfl
theorem F31.jf:F31.body=F31.t3:=by kernel_rfl
theorem F31.go:zV tbl N C (.of 31) [a0] h nx K0=IR.run F31.t3 C N (fnO F31.res K0) (gq F31.res K0) (F31.fr a0 .undef) h nx:=by
 rw [zJ F31.tab,F31.bind,F31.jf];kernel_rfl
theorem F31.ret:gq F31.res K0 (F31.fr b c) h nx=zK 2 c h fun v1=>K0 v1 h nx:=by kernel_rfl
def yx.t0:IR:=.reg [.q (.of 1) (.mv (.c .zf))]
def yx.t1:IR:=.reg [.q (.of 2) (.mv (.c .zf))]
def yx.t2:IR:=.reg [.q (.of 3) (.mv (.c (I 0)))]
def yx.t3:IR:=.reg [.s (.mv (.t (.of 3))),.s (.mv (.t (.of 0))),.q (.of 4) (.bin .lss .int (.s 1) (.s 0))]
def yx.t4:IR:=.cond (.t (.of 4)) .skip (.exit 0)
def yx.t5:IR:=.seq yx.t3 yx.t4
def yx.t6:IR:=.reg [.s (.mv (.t (.of 2))),.s (.mv (.t (.of 3))),.w .push none (.zy 1 1 [(I 0)] [(0,1,(.s 0))]),.w .push none (.app 1 8 (.s 2) (.s 0)),.q (.of 2) (.mv (.s 0))]
def yx.t7:IR:=.block 1 yx.t6
def yx.t8:IR:=.reg [.s (.mv (.t (.of 3))),.s (.bin .add .int (.s 0) (.c (I 1))),.q (.of 3) (.mv (.s 0))]
def yx.t9:IR:=.seq yx.t7 yx.t8
def yx.t10:IR:=.seq yx.t5 yx.t9
def yx.t11:IR:=.loop yx.t10
def yx.t12:IR:=.block 0 yx.t11
def yx.t13:IR:=.seq yx.t2 yx.t12
def yx.t14:IR:=.reg [.s (.mv (.t (.of 2))),.q (.of 1) (.mv (.s 0))]
def yx.t15:IR:=.seq yx.t14 .ret
def yx.t16:IR:=.seq yx.t13 yx.t15
def yx.t17:IR:=.seq yx.t1 yx.t16
def yx.t18:IR:=.seq yx.t0 yx.t17
theorem yx.xq:IR.run yx.t0 C N O K (yx.fr b c g e f) h nx =
 K (yx.fr b .zf g e f) h nx:=by kernel_rfl
theorem yx.xu:IR.run yx.t1 C N O K (yx.fr b c g e f) h nx =
 K (yx.fr b c .zf e f) h nx:=by kernel_rfl
theorem yx.fO:IR.run yx.t2 C N O K (yx.fr b c g e f) h nx =
 K (yx.fr b c g (I 0) f) h nx:=by kernel_rfl
theorem yx.rY:IR.run yx.t3 C N O K (yx.fr b c g e f) h nx =
 zx .lss .int e b fun v1=>K (yx.fr b c g e v1) h nx:=by kernel_rfl
theorem yx.v4:Arg.ev (.t (.of 4)) ⟨(yx.fr b c g e f),[]⟩=f:=by kernel_rfl
theorem yx.t6_s:IR.run yx.t6 C N O K (yx.fr b c g e f) h nx =
 jA 1 1 [(I 0)] [(0,1,e)] h nx fun v1 h2 n3=>tX 1 8 g v1 h2 n3 fun v4 h5 n6=>K (yx.fr b c v4 e f) h5 n6:=by kernel_rfl
theorem yx.eX:IR.run yx.t8 C N O K (yx.fr b c g e f) h nx =
 zx .add .int e (I 1) fun v1=>K (yx.fr b c g v1 f) h nx:=by kernel_rfl
theorem yx.zwu (Inv:Nat->AV->AV->T Blk->Pa->Prop) {m:Nat} (hm:m<N) (hi:Inv m g e h nx)
  (step:∀ (m:Nat) (z2 z3 z4:AV) (h:T Blk) (nx:Pa) (R:Ks Prop),Inv m z2 z3 h nx->(∀ (m':Nat) (w2 w3 w4:AV) (h':T Blk) (nx':Pa),m'<m->Inv m' w2 w3 h' nx'->R (yx.fr b c w2 w3 w4) h' nx'=.ok True)->IR.run yx.t10 C N O R (yx.fr b c z2 z3 z4) h nx=.ok True) :
  IR.run yx.t11 C N O K (yx.fr b c g e f) h nx=.ok True:=by
 rw [yx.t11];refine yK (fun m tm h nx=>∃ z2 z3 z4,tm=(yx.fr b c z2 z3 z4)/\Inv m z2 z3 h nx) ?_ hm ⟨_,_,_,rfl,hi⟩;rintro m tm h nx R ⟨z2,z3,z4,rfl,hi⟩ hR;exact step m z2 z3 z4 h nx R hi fun m' w2 w3 w4 h' nx' hlt hi'=>hR m' _ h' nx' hlt ⟨_,_,_,rfl,hi'⟩
theorem yx.zas:IR.run yx.t14 C N O K (yx.fr b c g e f) h nx =
 K (yx.fr b g g e f) h nx:=by kernel_rfl
theorem yx.tab:T.get none (.of 101) tbl=some yx:=by kernel_rfl
theorem yx.bind (k:T AV->OP):zX yx.params [a0] yx.init k=k (yx.fr a0 .undef .undef .undef .undef):=by kernel_rfl
theorem yx.jf:yx.body=yx.t18:=by kernel_rfl
theorem yx.go:zV tbl N C (.of 101) [a0] h nx K0=IR.run yx.t18 C N (fnO yx.res K0) (gq yx.res K0) (yx.fr a0 .undef .undef .undef .undef) h nx:=by
 rw [zJ yx.tab,yx.bind,yx.jf];kernel_rfl
theorem yx.ret:gq yx.res K0 (yx.fr b c g e f) h nx=K0 c h nx:=by kernel_rfl
end
end Go.Ev
