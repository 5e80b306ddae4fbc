import Derived.Test.YtkjkjpmahgeneaaGreatDoorIrT
import Derived.KernelRfl
import Derived.Test.YtkjkjpmahgeneaaGreatDoorEvD
set_option linter.unusedSimpArgs false
set_option linter.unusedVariables false
noncomputable section
namespace Go.Ev
open Go Go.Proofs
set_option maxRecDepth 100000
variable {N:Nat} {C:Calls Prop} {K0:Kw Prop} {K R:Ks Prop} {h:T Blk} {nx:Pa} {a c d f e i o a0 a1 a2 p s u b g l q v w y z A B D E F G H:AV}
theorem F93.zey (X3:IR) (O:qg Prop) (t:T AV):IR.run (F93.g2 X3) C N O K t h nx=IR.run X3 C N (O.blk 0 K) K t h nx:=by kernel_rfl
theorem F93.tab:T.get none (.of 93) tbl=some F93:=by kernel_rfl
theorem F93.go:zW tbl N C (.of 93) [a0] h nx K0 =
 sLen a0 fun v1=>yc .gtr .int v1 (I 256) fun v2=>yN v2 (K0 (I 5) h nx) (sLen a0 fun v3=>jY 1 1 [(.bool false)] v3 v3 h nx fun v4 h5 n6=>IR.run F93.b2 C N (fnO F93.res K0) (IR.run F93.b10 C N (fnO F93.res K0) (jm F93.res K0)) (F93.fr a0 (I 0) v4 (I 0) v2 .undef .undef) h5 n6):=by
 rw [zL F93.tab];kernel_rfl
theorem F93.L2 (Inv:Nat->AV->T Blk->Pa->Prop) {m:Nat} (hm:m<N) (hi:Inv m f h nx)
  (step:∀ (m:Nat) (z1 z3 z5 z6:AV) (h:T Blk) (nx:Pa) (R:Ks Prop),Inv m z3 h nx->(∀ (m':Nat) (w1 w3 w5 w6:AV) (h':T Blk) (nx':Pa),m'<m->Inv m' w3 h' nx'->R (F93.fr a w1 d w3 e w5 w6) h' nx'=.ok True) ->
   (sLen a fun v1=>yc .lss .int z3 v1 fun v2=>yN v2 (zX 1 a z3 fun v3=>zF v3 h fun v4=>yc .lss .int v4 (I 0) fun v5=>sG v5 false (fun k=>k a) fun v6=>sG v5 false (fun k=>k z3) fun v7=>sG v5 false (fun k=>zX 1 v6 v7 k) fun v8=>sG v5 false (fun k=>zF v8 h k) fun v9=>sG v5 false (fun k=>k a) fun vA=>sG v5 false (fun k=>sLen vA k) fun vB=>sG v5 false (fun k=>yc .geq .int v9 vB k) fun vC=>jM v5 (.bool true) vC fun vD=>sG vD false (fun k=>k d) fun vE=>sG vD false (fun k=>k a) fun vF=>sG vD false (fun k=>k z3) fun vG=>sG vD false (fun k=>zX 1 vF vG k) fun vH=>sG vD false (fun k=>zF vH h k) fun vI=>sG vD false (fun k=>zX 1 vE vI k) fun vJ=>sG vD false (fun k=>zF vJ h k) fun vK=>jM vD (.bool true) vK fun vL=>yN vL (K0 (I 14) h nx) ((IR.run F93.b8 C N (((fnO F93.res K0).blk 0 K).blk 1 (IR.run F93.b9 C N ((fnO F93.res K0).blk 0 K) R)) (IR.run F93.b9 C N ((fnO F93.res K0).blk 0 K) R)) (F93.fr a z1 d z3 e v2 vL) h nx)) (K (F93.fr a z1 d z3 e v2 z6) h nx))=.ok True) :
  IR.run F93.b2 C N (fnO F93.res K0) K (F93.fr a c d f e i o) h nx=.ok True:=by
 rw [F93.b2,F93.zey,F93.b3];refine yM (fun m tm h nx=>∃ z1 z3 z5 z6,tm=(F93.fr a z1 d z3 e z5 z6)/\Inv m z3 h nx) ?_ hm ⟨_,_,_,_,rfl,hi⟩;rintro m tm h nx R ⟨z1,z3,z5,z6,rfl,hi⟩ hR;refine Eq.trans ?_ (step m z1 z3 z5 z6 h nx R hi fun m' w1 w3 w5 w6 h' nx' hlt hi'=>hR m' _ h' nx' hlt ⟨_,_,_,_,rfl,hi'⟩)
 kernel_rfl
theorem F93.k10:IR.run F93.b10 C N (fnO F93.res K0) K (F93.fr a c d f e i o) h nx =
 K0 (I 0) h nx:=by kernel_rfl
theorem F93.k9 {E0:Ks Prop}:IR.run F93.b9 C N ((fnO F93.res K0).blk 0 E0) K (F93.fr a c d f e i o) h nx =
 yc .add .int f (I 1) fun v1=>K (F93.fr a c d v1 e i o) h nx:=by kernel_rfl
theorem F93.k8 {E0 E1:Ks Prop}:IR.run F93.b8 C N (((fnO F93.res K0).blk 0 E0).blk 1 E1) K (F93.fr a c d f e i o) h nx =
 zX 1 a f fun v1=>zF v1 h fun v2=>zX 1 d v2 fun v3=>zP 1 v3 (.bool true) h nx fun v4 h5 n6=>K (F93.fr a c d f e i o) h5 n6:=by kernel_rfl
theorem F26.tab:T.get none (.of 26) tbl=some F26:=by kernel_rfl
theorem F26.go:zW tbl N C (.of 26) [a0,a1] h nx K0 =
 bW a0 h nx fun v1 h2 n3=>C.fn 25 (.of 25) [a1] h2 n3 fun v4 h5 n6=>yc .neq .int v4 (I 0) fun v7=>yN v7 (K0 (I 3) h5 n6) (zS 0 v1 fun v8=>zF v8 h5 fun v9=>sLen v9 fun vA=>yc .neq .int vA a1 fun vB=>yN vB (K0 (I 2) h5 n6) (zS 0 v1 fun vC=>zF vC h5 fun vD=>C.fn 93 (.of 93) [vD] h5 n6 fun vE hA nA=>K0 vE hA nA)):=by
 rw [zL F26.tab];kernel_rfl
theorem F25.tab:T.get none (.of 25) tbl=some F25:=by kernel_rfl
theorem F25.go:zW tbl N C (.of 25) [a0] h nx K0 =
 yc .lss .int a0 (I 0) fun v1=>sG v1 false (fun k=>k a0) fun v2=>sG v1 false (fun k=>yc .gtr .int v2 (I 256) k) fun v3=>jM v1 (.bool true) v3 fun v4=>yN v4 (K0 (I 3) h nx) (K0 (I 0) h nx):=by
 rw [zL F25.tab];kernel_rfl
theorem F58.fA (X2:IR) (O:qg Prop) (t:T AV):IR.run (F58.g1 X2) C N O K t h nx=IR.run X2 C N (O.blk 0 K) K t h nx:=by kernel_rfl
theorem F58.tab:T.get none (.of 58) tbl=some F58:=by kernel_rfl
theorem F58.go:zW tbl N C (.of 58) [a0,a1] h nx K0 =
 bW a0 h nx fun v1 h2 n3=>sLen a1 fun v4=>jY 1 8 [(I 0)] v4 v4 h2 n3 fun v5 h6 n7=>IR.run F58.b1 C N (fnO F58.res K0) (IR.run F58.b9 C N (fnO F58.res K0) (jm F58.res K0)) (F58.fr a0 a1 v1 .zi v5 (I 0) .undef .undef .undef) h6 n7:=by
 rw [zL F58.tab];kernel_rfl
theorem F58.L1 (Inv:Nat->AV->T Blk->Pa->Prop) {m:Nat} (hm:m<N) (hi:Inv m i h nx)
  (step:∀ (m:Nat) (z5 z6 z7 z8:AV) (h:T Blk) (nx:Pa) (R:Ks Prop),Inv m z5 h nx->(∀ (m':Nat) (w5 w6 w7 w8:AV) (h':T Blk) (nx':Pa),m'<m->Inv m' w5 h' nx'->R (F58.fr a c d f e w5 w6 w7 w8) h' nx'=.ok True) ->
   (sLen c fun v1=>yc .lss .int z5 v1 fun v2=>yN v2 (zX 1 c z5 fun v3=>zF v3 h fun v4=>zS 1 d fun v5=>zF v5 h fun v6=>yN v6 (sLen c fun v7=>yc .add .int v7 (I 1) fun v8=>yc .sub .int v8 v4 fun v9=>zS 0 d fun vA=>zF vA h fun vB=>zX 1 vB z5 fun vC=>zF vC h fun vD=>zX 1 e vD fun vE=>zP 1 vE v9 h nx fun vF hB nB=>yc .add .int z5 (I 1) fun vI=>R (F58.fr a c d f e vI v9 v2 v6) hB nB) (zS 0 d fun vJ=>zF vJ h fun vK=>zX 1 vK z5 fun vL=>zF vL h fun vM=>zX 1 e vM fun vN=>zP 1 vN v4 h nx fun vO hC nC=>yc .add .int z5 (I 1) fun vP=>R (F58.fr a c d f e vP v4 v2 v6) hC nC)) (K (F58.fr a c d f e z5 z6 v2 z8) h nx))=.ok True) :
  IR.run F58.b1 C N (fnO F58.res K0) K (F58.fr a c d f e i o p s) h nx=.ok True:=by
 rw [F58.b1,F58.fA,F58.b2];refine yM (fun m tm h nx=>∃ z5 z6 z7 z8,tm=(F58.fr a c d f e z5 z6 z7 z8)/\Inv m z5 h nx) ?_ hm ⟨_,_,_,_,rfl,hi⟩;rintro m tm h nx R ⟨z5,z6,z7,z8,rfl,hi⟩ hR;refine Eq.trans ?_ (step m z5 z6 z7 z8 h nx R hi fun m' w5 w6 w7 w8 h' nx' hlt hi'=>hR m' _ h' nx' hlt ⟨_,_,_,_,rfl,hi'⟩)
 kernel_rfl
theorem F58.k9:IR.run F58.b9 C N (fnO F58.res K0) K (F58.fr a c d f e i o p s) h nx =
 K0 e h nx:=by kernel_rfl
theorem F82.zey (X3:IR) (O:qg Prop) (t:T AV):IR.run (F82.g2 X3) C N O K t h nx=IR.run X3 C N (O.blk 0 K) K t h nx:=by kernel_rfl
theorem F82.tab:T.get none (.of 82) tbl=some F82:=by kernel_rfl
theorem F82.go:zW tbl N C (.of 82) [a0,a1] h nx K0 =
 sLen a0 fun v1=>sLen a1 fun v2=>yc .neq .int v1 v2 fun v3=>yN v3 (K0 (.bool false) h nx) (IR.run F82.b2 C N (fnO F82.res K0) (IR.run F82.b9 C N (fnO F82.res K0) (jm F82.res K0)) (F82.fr a0 a1 (.bool false) (I 0) v3 .undef .undef) h nx):=by
 rw [zL F82.tab];kernel_rfl
theorem F82.L2 (Inv:Nat->AV->T Blk->Pa->Prop) {m:Nat} (hm:m<N) (hi:Inv m f h nx)
  (step:∀ (m:Nat) (z2 z3 z5 z6:AV) (h:T Blk) (nx:Pa) (R:Ks Prop),Inv m z3 h nx->(∀ (m':Nat) (w2 w3 w5 w6:AV) (h':T Blk) (nx':Pa),m'<m->Inv m' w3 h' nx'->R (F82.fr a c w2 w3 e w5 w6) h' nx'=.ok True) ->
   (sLen a fun v1=>yc .lss .int z3 v1 fun v2=>yN v2 (zX 1 a z3 fun v3=>zF v3 h fun v4=>zX 1 c z3 fun v5=>zF v5 h fun v6=>yc .neq .int v4 v6 fun v7=>yN v7 (K0 (.bool false) h nx) (yc .add .int z3 (I 1) fun v8=>R (F82.fr a c z2 v8 e v2 v7) h nx)) (K (F82.fr a c z2 z3 e v2 z6) h nx))=.ok True) :
  IR.run F82.b2 C N (fnO F82.res K0) K (F82.fr a c d f e i o) h nx=.ok True:=by
 rw [F82.b2,F82.zey,F82.b3];refine yM (fun m tm h nx=>∃ z2 z3 z5 z6,tm=(F82.fr a c z2 z3 e z5 z6)/\Inv m z3 h nx) ?_ hm ⟨_,_,_,_,rfl,hi⟩;rintro m tm h nx R ⟨z2,z3,z5,z6,rfl,hi⟩ hR;refine Eq.trans ?_ (step m z2 z3 z5 z6 h nx R hi fun m' w2 w3 w5 w6 h' nx' hlt hi'=>hR m' _ h' nx' hlt ⟨_,_,_,_,rfl,hi'⟩)
 kernel_rfl
theorem F82.k9:IR.run F82.b9 C N (fnO F82.res K0) K (F82.fr a c d f e i o) h nx =
 K0 (.bool true) h nx:=by kernel_rfl
theorem sV.tab:T.get none (.of 106) tbl=some sV:=by kernel_rfl
theorem sV.go:zW tbl N C (.of 106) [a0] h nx K0 =
 yc .eql (.nil .sl) a0 .zi fun v1=>yN v1 (K0 .zi h nx) (yX 1 0 [(I 0)] [] h nx fun v2 h3 n4=>sW 1 8 v2 a0 h3 n4 fun v5 h6 n7=>K0 v5 h6 n7):=by
 rw [zL sV.tab];kernel_rfl
theorem aT.tab:T.get none (.of 136) tbl=some aT:=by kernel_rfl
theorem aT.go:zW tbl N C (.of 136) [a0,a1] h nx K0 =
 C.fn 197 (.of 197) [a0,a1] h nx fun v1 h2 n3=>yc .geq .int v1 (I 0) fun v4=>K0 v4 h2 n3:=by
 rw [zL aT.tab];kernel_rfl
theorem uh.fA (X2:IR) (O:qg Prop) (t:T AV):IR.run (uh.g1 X2) C N O K t h nx=IR.run X2 C N (O.blk 0 K) K t h nx:=by kernel_rfl
theorem uh.tab:T.get none (.of 197) tbl=some uh:=by kernel_rfl
theorem uh.go:zW tbl N C (.of 197) [a0,a1] h nx K0 =
 sLen a0 fun v1=>IR.run uh.b1 C N (fnO uh.res K0) (IR.run uh.b8 C N (fnO uh.res K0) (jm uh.res K0)) (uh.fr a0 a1 (I 0) .undef v1 (I 0) .undef .undef) h nx:=by
 rw [zL uh.tab];kernel_rfl
theorem uh.L1 (Inv:Nat->AV->T Blk->Pa->Prop) {m:Nat} (hm:m<N) (hi:Inv m i h nx)
  (step:∀ (m:Nat) (z2 z3 z5 z6 z7:AV) (h:T Blk) (nx:Pa) (R:Ks Prop),Inv m z5 h nx->(∀ (m':Nat) (w2 w3 w5 w6 w7:AV) (h':T Blk) (nx':Pa),m'<m->Inv m' w5 h' nx'->R (uh.fr a c w2 w3 e w5 w6 w7) h' nx'=.ok True) ->
   (yc .lss .int z5 e fun v1=>yN v1 (zX 1 a z5 fun v2=>zF v2 h fun v3=>zez C c [v3] h nx fun v4 h5 n6=>yN v4 (K0 z5 h5 n6) (yc .add .int z5 (I 1) fun v7=>R (uh.fr a c z2 z5 e v7 v1 v4) h5 n6)) (K (uh.fr a c z2 z3 e z5 v1 z7) h nx))=.ok True) :
  IR.run uh.b1 C N (fnO uh.res K0) K (uh.fr a c d f e i o p) h nx=.ok True:=by
 rw [uh.b1,uh.fA,uh.b2];refine yM (fun m tm h nx=>∃ z2 z3 z5 z6 z7,tm=(uh.fr a c z2 z3 e z5 z6 z7)/\Inv m z5 h nx) ?_ hm ⟨_,_,_,_,_,rfl,hi⟩;rintro m tm h nx R ⟨z2,z3,z5,z6,z7,rfl,hi⟩ hR;refine Eq.trans ?_ (step m z2 z3 z5 z6 z7 h nx R hi fun m' w2 w3 w5 w6 w7 h' nx' hlt hi'=>hR m' _ h' nx' hlt ⟨_,_,_,_,_,rfl,hi'⟩)
 kernel_rfl
theorem uh.k8:IR.run uh.b8 C N (fnO uh.res K0) K (uh.fr a c d f e i o p) h nx =
 K0 (I (-1)) h nx:=by kernel_rfl
theorem F65.tab:T.get none (.of 65) tbl=some F65:=by kernel_rfl
theorem F65.go:zW tbl N C (.of 65) [a0,a1] h nx K0 =
 bW a0 h nx fun v1 h2 n3=>bW a1 h2 n3 fun v4 h5 n6=>yK [.zi,(.bool false)] h5 n6 fun v7 h8 n9=>zS 0 v1 fun vA=>zF vA h8 fun vB=>zS 0 v4 fun vC=>zF vC h8 fun vD=>zS 1 v1 fun vE=>zF vE h8 fun vF=>zS 1 v4 fun vG=>zF vG h8 fun vH=>yc .neq .bool vF vH fun vI=>C.fn 144 (.of 144) [vB,vD] h8 n9 fun vJ hD nD=>(yc .neq .bool vF vH fun vQ=>zO vQ vI ((zF vG hD fun vR=>zO vR vH ((zS 1 v4 fun vS=>zO vS vG ((zF vE hD fun vT=>zO vT vF ((zS 1 v1 fun vP=>zO vP vE (uN [.zi,(.bool false)] [(0,1,vJ),(1,1,vI)] fun vM=>zP 2 v7 vM hD nD fun vN hE nE=>zH 2 v7 hE fun vU=>K0 vU hE nE)))))))))):=by
 rw [zL F65.tab];kernel_rfl
theorem F30.tab:T.get none (.of 30) tbl=some F30:=by kernel_rfl
theorem F30.go:zW tbl N C (.of 30) [a0,a1] h nx K0 =
 bW a0 h nx fun v1 h2 n3=>bW a1 h2 n3 fun v4 h5 n6=>zS 1 v1 fun v7=>zF v7 h5 fun v8=>zS 1 v4 fun v9=>zF v9 h5 fun vA=>yc .eql .bool v8 vA fun vB=>sG vB true (fun k=>zS 0 v1 k) fun vC=>sG vB true (fun k=>zF vC h5 k) fun vD=>sG vB true (fun k=>zS 0 v4 k) fun vE=>sG vB true (fun k=>zF vE h5 k) fun vF=>sGW vB true (fun k=>C.fn 82 (.of 82) [vD,vF] h5 n6 k) h5 n6 fun vG hF nF=>jM vB vG (.bool false) fun vJ=>K0 vJ hF nF:=by
 rw [zL F30.tab];kernel_rfl
theorem uj.fA (X2:IR) (O:qg Prop) (t:T AV):IR.run (uj.g1 X2) C N O K t h nx=IR.run X2 C N (O.blk 0 K) K t h nx:=by kernel_rfl
theorem uj.tab:T.get none (.of 144) tbl=some uj:=by kernel_rfl
theorem uj.go:zW tbl N C (.of 144) [a0,a1] h nx K0 =
 IR.run uj.b1 C N (fnO uj.res K0) (IR.run uj.b8 C N (fnO uj.res K0) (jm uj.res K0)) (uj.fr a0 a1 .zi .zi (I 0) .undef) h nx:=by
 rw [zL uj.tab];kernel_rfl
theorem uj.L1 (Inv:Nat->AV->AV->T Blk->Pa->Prop) {m:Nat} (hm:m<N) (hi:Inv m f e h nx)
  (step:∀ (m:Nat) (z3 z4 z5:AV) (h:T Blk) (nx:Pa) (R:Ks Prop),Inv m z3 z4 h nx->(∀ (m':Nat) (w3 w4 w5:AV) (h':T Blk) (nx':Pa),m'<m->Inv m' w3 w4 h' nx'->R (uj.fr a c d w3 w4 w5) h' nx'=.ok True) ->
   (sLen c fun v1=>yc .lss .int z4 v1 fun v2=>yN v2 (zX 1 c z4 fun v3=>zF v3 h fun v4=>zX 1 a v4 fun v5=>zF v5 h fun v6=>yX 1 1 [(I 0)] [(0,1,v6)] h nx fun v7 h8 n9=>sW 1 8 z3 v7 h8 n9 fun vA hG nG=>yc .add .int z4 (I 1) fun vD=>R (uj.fr a c d vA vD v2) hG nG) (K (uj.fr a c d z3 z4 v2) h nx))=.ok True) :
  IR.run uj.b1 C N (fnO uj.res K0) K (uj.fr a c d f e i) h nx=.ok True:=by
 rw [uj.b1,uj.fA,uj.b2];refine yM (fun m tm h nx=>∃ z3 z4 z5,tm=(uj.fr a c d z3 z4 z5)/\Inv m z3 z4 h nx) ?_ hm ⟨_,_,_,rfl,hi⟩;rintro m tm h nx R ⟨z3,z4,z5,rfl,hi⟩ hR;refine Eq.trans ?_ (step m z3 z4 z5 h nx R hi fun m' w3 w4 w5 h' nx' hlt hi'=>hR m' _ h' nx' hlt ⟨_,_,_,rfl,hi'⟩)
 kernel_rfl
theorem uj.k8:IR.run uj.b8 C N (fnO uj.res K0) K (uj.fr a c d f e i) h nx =
 K0 f h nx:=by kernel_rfl
theorem jv.fA (X2:IR) (O:qg Prop) (t:T AV):IR.run (jv.g1 X2) C N O K t h nx=IR.run X2 C N (O.blk 0 K) K t h nx:=by kernel_rfl
theorem jv.tab:T.get none (.of 201) tbl=some jv:=by kernel_rfl
theorem jv.go:zW tbl N C (.of 201) [a0,a1] h nx K0 =
 sLen a0 fun v1=>IR.run jv.b1 C N (fnO jv.res K0) (IR.run jv.b9 C N (fnO jv.res K0) (jm jv.res K0)) (jv.fr a0 a1 (I 0) .undef .undef .undef .undef a0 v1 (I 0) .undef .undef .undef .undef) h nx:=by
 rw [zL jv.tab];kernel_rfl
theorem jv.L1 (Inv:Nat->AV->T Blk->Pa->Prop) {m:Nat} (hm:m<N) (hi:Inv m u h nx)
  (step:∀ (m:Nat) (z2 z3 z4 z5 z6 z9 zA zB zC:AV) (h:T Blk) (nx:Pa) (R:Ks Prop),Inv m z9 h nx->(∀ (m':Nat) (w2 w3 w4 w5 w6 w9 wA wB wC:AV) (h':T Blk) (nx':Pa),m'<m->Inv m' w9 h' nx'->R (jv.fr a c w2 w3 w4 w5 w6 p s w9 wA wB wC q) h' nx'=.ok True) ->
   (yc .lss .int z9 s fun v1=>yN v1 (zX 1 p z9 fun v2=>zF v2 h fun v3=>sLen c fun v4=>yc .geq .int z9 v4 fun v5=>yN v5 (K0 (I 1) h nx) (zX 1 c z9 fun v6=>zF v6 h fun v7=>C.fn 244 (.of 244) [v3,v7] h nx fun v8 h9 nH=>yc .neq .int v8 (I 0) fun vB=>yN vB (K0 v8 h9 nH) (yc .add .int z9 (I 1) fun vC=>R (jv.fr a c z2 z9 v3 v7 v8 p s vC v1 v5 vB q) h9 nH))) (K (jv.fr a c z2 z3 z4 z5 z6 p s z9 v1 zB zC q) h nx))=.ok True) :
  IR.run jv.b1 C N (fnO jv.res K0) K (jv.fr a c d f e i o p s u b g l q) h nx=.ok True:=by
 rw [jv.b1,jv.fA,jv.b2];refine yM (fun m tm h nx=>∃ z2 z3 z4 z5 z6 z9 zA zB zC,tm=(jv.fr a c z2 z3 z4 z5 z6 p s z9 zA zB zC q)/\Inv m z9 h nx) ?_ hm ⟨_,_,_,_,_,_,_,_,_,rfl,hi⟩;rintro m tm h nx R ⟨z2,z3,z4,z5,z6,z9,zA,zB,zC,rfl,hi⟩ hR;refine Eq.trans ?_ (step m z2 z3 z4 z5 z6 z9 zA zB zC h nx R hi fun m' w2 w3 w4 w5 w6 w9 wA wB wC h' nx' hlt hi'=>hR m' _ h' nx' hlt ⟨_,_,_,_,_,_,_,_,_,rfl,hi'⟩)
 kernel_rfl
theorem jv.k9:IR.run jv.b9 C N (fnO jv.res K0) K (jv.fr a c d f e i o p s u b g l q) h nx =
 sLen a fun v1=>sLen c fun v2=>yc .lss .int v1 v2 fun v3=>yN v3 (K0 (I (-1)) h nx) (K0 (I 0) h nx):=by kernel_rfl
theorem cO.tab:T.get none (.of 244) tbl=some cO:=by kernel_rfl
theorem cO.go:zW tbl N C (.of 244) [a0,a1] h nx K0 =
 C.fn 250 (.of 250) [a0] h nx fun v1 h2 n3=>C.fn 250 (.of 250) [a1] h2 n3 fun v4 h5 n6=>yN v1 (yN v4 (K0 (I 0) h5 n6) (K0 (I (-1)) h5 n6)) (yN v4 (K0 (I 1) h5 n6) (yc .lss .int a0 a1 fun v7=>yN v7 (K0 (I (-1)) h5 n6) (yc .gtr .int a0 a1 fun v8=>yN v8 (K0 (I 1) h5 n6) (K0 (I 0) h5 n6)))):=by
 rw [zL cO.tab];kernel_rfl
theorem aU.tab:T.get none (.of 250) tbl=some aU:=by kernel_rfl
theorem aU.go:zW tbl N C (.of 250) [a0] h nx K0 =
 yc .neq .int a0 a0 fun v1=>K0 v1 h nx:=by
 rw [zL aU.tab];kernel_rfl
theorem F97.fA (X2:IR) (O:qg Prop) (t:T AV):IR.run (F97.g1 X2) C N O K t h nx=IR.run X2 C N (O.blk 0 K) K t h nx:=by kernel_rfl
theorem F97.tab:T.get none (.of 97) tbl=some F97:=by kernel_rfl
theorem F97.go:zW tbl N C (.of 97) [a0,a1] h nx K0 =
 sLen a0 fun v1=>IR.run F97.b1 C N (fnO F97.res K0) (IR.run F97.b8 C N (fnO F97.res K0) (jm F97.res K0)) (F97.fr a0 a1 (I 0) .undef .undef a0 v1 (I 0) .undef .undef) h nx:=by
 rw [zL F97.tab];kernel_rfl
theorem F97.L1 (Inv:Nat->AV->T Blk->Pa->Prop) {m:Nat} (hm:m<N) (hi:Inv m p h nx)
  (step:∀ (m:Nat) (z2 z3 z4 z7 z8 z9:AV) (h:T Blk) (nx:Pa) (R:Ks Prop),Inv m z7 h nx->(∀ (m':Nat) (w2 w3 w4 w7 w8 w9:AV) (h':T Blk) (nx':Pa),m'<m->Inv m' w7 h' nx'->R (F97.fr a c w2 w3 w4 i o w7 w8 w9) h' nx'=.ok True) ->
   (yc .lss .int z7 o fun v1=>yN v1 (zX 2 i z7 fun v2=>zH 2 v2 h fun v3=>yK [.zi,(.bool false)] h nx fun v4 h5 n6=>zP 2 v4 v3 h5 n6 fun v7 h8 n9=>zH 2 v4 h8 fun vA=>C.fn 56 (.of 56) [vA,c] h8 n9 fun vB hH nI=>yc .neq .int vB (I 0) fun vE=>yN vE (K0 vB hH nI) (yc .add .int z7 (I 1) fun vF=>R (F97.fr a c z2 v4 vB i o vF v1 vE) hH nI)) (K (F97.fr a c z2 z3 z4 i o z7 v1 z9) h nx))=.ok True) :
  IR.run F97.b1 C N (fnO F97.res K0) K (F97.fr a c d f e i o p s u) h nx=.ok True:=by
 rw [F97.b1,F97.fA,F97.b2];refine yM (fun m tm h nx=>∃ z2 z3 z4 z7 z8 z9,tm=(F97.fr a c z2 z3 z4 i o z7 z8 z9)/\Inv m z7 h nx) ?_ hm ⟨_,_,_,_,_,_,rfl,hi⟩;rintro m tm h nx R ⟨z2,z3,z4,z7,z8,z9,rfl,hi⟩ hR;refine Eq.trans ?_ (step m z2 z3 z4 z7 z8 z9 h nx R hi fun m' w2 w3 w4 w7 w8 w9 h' nx' hlt hi'=>hR m' _ h' nx' hlt ⟨_,_,_,_,_,_,rfl,hi'⟩)
 kernel_rfl
theorem F97.k8:IR.run F97.b8 C N (fnO F97.res K0) K (F97.fr a c d f e i o p s u) h nx =
 K0 (I 0) h nx:=by kernel_rfl
theorem F90.tab:T.get none (.of 90) tbl=some F90:=by kernel_rfl
theorem F90.go:zW tbl N C (.of 90) [a0] h nx K0 =
 bW a0 h nx fun v1 h2 n3=>K0 (.fn 159 (.of 159) [v1]) h2 n3:=by
 rw [zL F90.tab];kernel_rfl
theorem fB.tab:T.get none (.of 162) tbl=some fB:=by kernel_rfl
theorem fB.go:zW tbl N C (.of 162) [a0,a1] h nx K0 =
 bW a0 h nx fun v1 h2 n3=>bW a1 h2 n3 fun v4 h5 n6=>zS 0 v1 fun v7=>zF v7 h5 fun v8=>zS 0 v4 fun v9=>zF v9 h5 fun vA=>C.fn 201 (.of 201) [v8,vA] h5 n6 fun vB hH nI=>yc .neq .int vB (I 0) fun vE=>sG vE false (fun k=>zS 1 v1 k) fun vF=>sG vE false (fun k=>zF vF hH k) fun vG=>sG vE false (fun k=>zS 1 v4 k) fun vH=>sG vE false (fun k=>zF vH hH k) fun vI=>sG vE false (fun k=>yc .eql .bool vG vI k) fun vJ=>jM vE (.bool true) vJ fun vK=>yN vK (K0 vB hH nI) ((IR.run fB.b1 C N (fnO fB.res K0) (jm fB.res K0)) (fB.fr a0 a1 v1 v4 (I 0) vB vK .undef) hH nI):=by
 rw [zL fB.tab];kernel_rfl
theorem fB.k1:IR.run fB.b1 C N (fnO fB.res K0) K (fB.fr a c d f e i o p) h nx =
 zS 1 d fun v1=>zF v1 h fun v2=>yN v2 (K0 (I 1) h nx) (K0 (I (-1)) h nx):=by kernel_rfl
theorem F56.tab:T.get none (.of 56) tbl=some F56:=by kernel_rfl
theorem F56.go:zW tbl N C (.of 56) [a0,a1] h nx K0 =
 bW a0 h nx fun v1 h2 n3=>zS 0 v1 fun v4=>zF v4 h2 fun v5=>sLen v5 fun v6=>yc .neq .int v6 a1 fun v7=>zS 0 v1 fun v8=>zF v8 h2 fun v9=>C.fn 95 (.of 95) [a1] h2 n3 fun vA hG nG=>(zF v8 hG fun vW=>zO vW v9 ((zS 0 v1 fun vX=>zO vX v8 ((yc .neq .int v6 a1 fun vY=>zO vY v7 (zO a1 a1 ((sLen v5 fun vZ=>zO vZ v6 ((zF v4 hG fun v32=>zO v32 v5 ((zS 0 v1 fun vQ=>zO vQ v4 (C.fn 96 (.of 96) [v7,(I 2)] hG nG fun vD hI nJ=>(zF v8 hI fun vR=>zO vR v9 ((zS 0 v1 fun vS=>zO vS v8 (C.fn 140 (.of 140) [v9] hI nJ fun vG hF nF=>aV vG fun vJ=>C.fn 96 (.of 96) [vJ,(I 14)] hF nF fun vK hJ nK=>yX 1 3 [(I 0)] [(0,1,vA),(1,1,vD),(2,1,vK)] hJ nK fun vN hE nE=>C.fn 94 (.of 94) [vN] hE nE fun vU hK nL=>K0 vU hK nL))))))))))))))))):=by
 rw [zL F56.tab];kernel_rfl
theorem qm.fA (X2:IR) (O:qg Prop) (t:T AV):IR.run (qm.g1 X2) C N O K t h nx=IR.run X2 C N (O.blk 0 K) K t h nx:=by kernel_rfl
theorem qm.tab:T.get none (.of 159) tbl=some qm:=by kernel_rfl
theorem qm.go:zW tbl N C (.of 159) [a0,a1] h nx K0 =
 zF a1 h fun v1=>sLen v1 fun v2=>IR.run qm.b1 C N (fnO qm.res K0) (jm qm.res K0) (qm.fr a0 a1 .undef .undef v1 v2 (I 0) .undef .undef) h nx:=by
 rw [zL qm.tab];kernel_rfl
theorem qm.L1 (Inv:Nat->AV->T Blk->Pa->Prop) {m:Nat} (hm:m<N) (hi:Inv m o h nx)
  (step:∀ (m:Nat) (z2 z3 z6 z7 z8:AV) (h:T Blk) (nx:Pa) (R:Ks Prop),Inv m z6 h nx->(∀ (m':Nat) (w2 w3 w6 w7 w8:AV) (h':T Blk) (nx':Pa),m'<m->Inv m' w6 h' nx'->R (qm.fr a c w2 w3 e i w6 w7 w8) h' nx'=.ok True) ->
   (yc .lss .int z6 i fun v1=>yN v1 (zX 2 e z6 fun v2=>zH 2 v2 h fun v3=>yK [.zi,(.bool false)] h nx fun v4 h5 n6=>zP 2 v4 v3 h5 n6 fun v7 h8 n9=>zH 2 v4 h8 fun vA=>zez C a [z6,vA] h8 n9 fun vB hH nI=>aV vB fun vE=>yN vE (K0 (.tup []) hH nI) (yc .add .int z6 (I 1) fun vF=>R (qm.fr a c z6 v4 e i vF v1 vE) hH nI)) (K (qm.fr a c z2 z3 e i z6 v1 z8) h nx))=.ok True) :
  IR.run qm.b1 C N (fnO qm.res K0) K (qm.fr a c d f e i o p s) h nx=.ok True:=by
 rw [qm.b1,qm.fA,qm.b2];refine yM (fun m tm h nx=>∃ z2 z3 z6 z7 z8,tm=(qm.fr a c z2 z3 e i z6 z7 z8)/\Inv m z6 h nx) ?_ hm ⟨_,_,_,_,_,rfl,hi⟩;rintro m tm h nx R ⟨z2,z3,z6,z7,z8,rfl,hi⟩ hR;refine Eq.trans ?_ (step m z2 z3 z6 z7 z8 h nx R hi fun m' w2 w3 w6 w7 w8 h' nx' hlt hi'=>hR m' _ h' nx' hlt ⟨_,_,_,_,_,rfl,hi'⟩)
 kernel_rfl
theorem uo.fA (X2:IR) (O:qg Prop) (t:T AV):IR.run (uo.g1 X2) C N O K t h nx=IR.run X2 C N (O.blk 0 K) K t h nx:=by kernel_rfl
theorem uo.tab:T.get none (.of 163) tbl=some uo:=by kernel_rfl
theorem uo.go:zW tbl N C (.of 163) [a0] h nx K0 =
 yK [.zi,(.bool false)] h nx fun v1 h2 n3=>jY 1 8 [(I 0)] a0 a0 h2 n3 fun v4 h5 n6=>uN [.zi,(.bool false)] [(0,1,v4)] fun v7=>yK [.zi,(.bool false)] h5 n6 fun v8 h9 nH=>zP 2 v8 v7 h9 nH fun vB hH nI=>zS 0 v8 fun vE=>zF vE hH fun vF=>sLen vF fun vG=>IR.run uo.b1 C N (fnO uo.res K0) (IR.run uo.b8 C N (fnO uo.res K0) (jm uo.res K0)) (uo.fr a0 v1 v8 .undef vG (I 0) .undef) hH nI:=by
 rw [zL uo.tab];kernel_rfl
theorem uo.L1 (Inv:Nat->AV->T Blk->Pa->Prop) {m:Nat} (hm:m<N) (hi:Inv m i h nx)
  (step:∀ (m:Nat) (z3 z5 z6:AV) (h:T Blk) (nx:Pa) (R:Ks Prop),Inv m z5 h nx->(∀ (m':Nat) (w3 w5 w6:AV) (h':T Blk) (nx':Pa),m'<m->Inv m' w5 h' nx'->R (uo.fr a c d w3 e w5 w6) h' nx'=.ok True) ->
   (yc .lss .int z5 e fun v1=>yN v1 (zS 0 d fun v2=>zF v2 h fun v3=>zX 1 v3 z5 fun v4=>zP 1 v4 z5 h nx fun v5 h6 n7=>yc .add .int z5 (I 1) fun v8=>R (uo.fr a c d z5 e v8 v1) h6 n7) (K (uo.fr a c d z3 e z5 v1) h nx))=.ok True) :
  IR.run uo.b1 C N (fnO uo.res K0) K (uo.fr a c d f e i o) h nx=.ok True:=by
 rw [uo.b1,uo.fA,uo.b2];refine yM (fun m tm h nx=>∃ z3 z5 z6,tm=(uo.fr a c d z3 e z5 z6)/\Inv m z5 h nx) ?_ hm ⟨_,_,_,rfl,hi⟩;rintro m tm h nx R ⟨z3,z5,z6,rfl,hi⟩ hR;refine Eq.trans ?_ (step m z3 z5 z6 h nx R hi fun m' w3 w5 w6 h' nx' hlt hi'=>hR m' _ h' nx' hlt ⟨_,_,_,rfl,hi'⟩)
 kernel_rfl
theorem uo.k8:IR.run uo.b8 C N (fnO uo.res K0) K (uo.fr a c d f e i o) h nx =
 zH 2 d h fun v1=>zP 2 c v1 h nx fun v2 h3 n4=>zH 2 c h3 fun v5=>K0 v5 h3 n4:=by kernel_rfl
theorem uf.fA (X2:IR) (O:qg Prop) (t:T AV):IR.run (uf.g1 X2) C N O K t h nx=IR.run X2 C N (O.blk 0 K) K t h nx:=by kernel_rfl
theorem uf.tab:T.get none (.of 123) tbl=some uf:=by kernel_rfl
theorem uf.go:zW tbl N C (.of 123) [a0] h nx K0 =
 bW a0 h nx fun v1 h2 n3=>zS 0 v1 fun v4=>zF v4 h2 fun v5=>sLen v5 fun v6=>yc .add .int v6 (I 1) fun v7=>jY 1 1 [(.int .u8 0)] (I 0) v7 h2 n3 fun v8 h9 nH=>zS 0 v1 fun vB=>zF vB h9 fun vC=>sLen vC fun vD=>IR.run uf.b1 C N (fnO uf.res K0) (IR.run uf.b8 C N (fnO uf.res K0) (jm uf.res K0)) (uf.fr a0 v1 (.str []) v8 .undef vC vD (I 0) .undef .undef) h9 nH:=by
 rw [zL uf.tab];kernel_rfl
theorem uf.L1 (Inv:Nat->AV->AV->T Blk->Pa->Prop) {m:Nat} (hm:m<N) (hi:Inv m f p h nx)
  (step:∀ (m:Nat) (z3 z4 z7 z8:AV) (h:T Blk) (nx:Pa) (R:Ks Prop),Inv m z3 z7 h nx->(∀ (m':Nat) (w3 w4 w7 w8:AV) (h':T Blk) (nx':Pa),m'<m->Inv m' w3 w7 h' nx'->R (uf.fr a c d w3 w4 i o w7 w8 u) h' nx'=.ok True) ->
   (yc .lss .int z7 o fun v1=>yN v1 (zX 1 i z7 fun v2=>zF v2 h fun v3=>zlp .u8 v3 fun v4=>yX 1 1 [(.int .u8 0)] [(0,1,v4)] h nx fun v5 h6 n7=>sW 1 1 z3 v5 h6 n7 fun v8 h9 nH=>yc .add .int z7 (I 1) fun vB=>R (uf.fr a c d v8 v3 i o vB v1 u) h9 nH) (K (uf.fr a c d z3 z4 i o z7 v1 u) h nx))=.ok True) :
  IR.run uf.b1 C N (fnO uf.res K0) K (uf.fr a c d f e i o p s u) h nx=.ok True:=by
 rw [uf.b1,uf.fA,uf.b2];refine yM (fun m tm h nx=>∃ z3 z4 z7 z8,tm=(uf.fr a c d z3 z4 i o z7 z8 u)/\Inv m z3 z7 h nx) ?_ hm ⟨_,_,_,_,rfl,hi⟩;rintro m tm h nx R ⟨z3,z4,z7,z8,rfl,hi⟩ hR;refine Eq.trans ?_ (step m z3 z4 z7 z8 h nx R hi fun m' w3 w4 w7 w8 h' nx' hlt hi'=>hR m' _ h' nx' hlt ⟨_,_,_,_,rfl,hi'⟩)
 kernel_rfl
theorem uf.k8:IR.run uf.b8 C N (fnO uf.res K0) K (uf.fr a c d f e i o p s u) h nx =
 zS 1 c fun v1=>zF v1 h fun v2=>yN v2 (yX 1 1 [(.int .u8 0)] [(0,1,(.int .u8 1))] h nx fun v3 h4 n5=>sW 1 1 f v3 h4 n5 fun v6 h7 n8=>sB2s v6 h7 fun v9=>K0 v9 h7 n8) (sB2s f h fun vA=>K0 vA h nx):=by kernel_rfl
theorem aW.tab:T.get none (.of 121) tbl=some aW:=by kernel_rfl
theorem aW.go:zW tbl N C (.of 121) [a0,a1] h nx K0 =
 bW a1 h nx fun v1 h2 n3=>zH 2 v1 h2 fun v4=>C.fn 123 (.of 123) [v4] h2 n3 fun v5 h6 n7=>zlq .str (.agg [.zi,(.bool false)]) true a0 v5 h6 fun v8=>bg 0 v8 fun v9=>bg 1 v8 fun vA=>yK [.zi,(.bool false)] h6 n7 fun vB hH nI=>zP 2 vB v9 hH nI fun vE hA nA=>K0 vA hA nA:=by
 rw [zL aW.tab];kernel_rfl
theorem uq.fA (X2:IR) (O:qg Prop) (t:T AV):IR.run (uq.g1 X2) C N O K t h nx=IR.run X2 C N (O.blk 0 K) K t h nx:=by kernel_rfl
theorem uq.tab:T.get none (.of 122) tbl=some uq:=by kernel_rfl
theorem uq.go:zW tbl N C (.of 122) [a0,a1] h nx K0 =
 bW a0 h nx fun v1 h2 n3=>bW a1 h2 n3 fun v4 h5 n6=>yK [.zi,(.bool false)] h5 n6 fun v7 h8 n9=>sChk (true&&true) (zS 0 v4 fun vA=>zF vA h8 fun vB=>sLen vB fun vC=>sChk (mkSl 8 vC vC&&true) (zS 1 v1 fun vD=>zF vD h8 fun vE=>zS 1 v4 fun vF=>zF vF h8 fun vG=>yc .neq .bool vE vG fun vH=>jY 1 8 [(I 0)] vC vC h8 n9 fun vI hL nM=>(yc .neq .bool vE vG fun v47=>zO v47 vH ((zF vF hL fun v46=>zO v46 vG ((zS 1 v4 fun v45=>zO v45 vF ((zF vD hL fun v44=>zO v44 vE ((zS 1 v1 fun v43=>zO v43 vD ((sLen vB fun v42=>zO v42 vC ((zF vA hL fun v41=>zO v41 vB ((zS 0 v4 fun v40=>zO v40 vA (uN [.zi,(.bool false)] [(0,1,vI),(1,1,vH)] fun vL=>yK [.zi,(.bool false)] hL nM fun vM hM nN=>(uN [.zi,(.bool false)] [(0,1,vI),(1,1,vH)] fun v39=>zO v39 vL ((yc .neq .bool vE vG fun v38=>zO v38 vH ((zF vF hM fun v37=>zO v37 vG ((zS 1 v4 fun vW=>zO vW vF ((zF vD hM fun vX=>zO vX vE ((zS 1 v1 fun vY=>zO vY vD ((sLen vB fun vZ=>zO vZ vC ((zF vA hM fun v32=>zO v32 vB ((zS 0 v4 fun vQ=>zO vQ vA (zP 2 vM vL hM nN fun v25 hN nO=>zS 0 v4 fun vT=>zF vT hN fun vS=>sLen vS fun vR=>IR.run uq.b1 C N (fnO uq.res K0) (IR.run uq.b8 C N (fnO uq.res K0) (jm uq.res K0)) (uq.fr a0 a1 v1 v4 v7 vM .undef .undef vS vR (I 0) .undef) hN nO)))))))))))))))))))))))))))))))))))):=by
 rw [zL uq.tab];kernel_rfl
theorem uq.L1 (Inv:Nat->AV->T Blk->Pa->Prop) {m:Nat} (hm:m<N) (hi:Inv m b h nx)
  (step:∀ (m:Nat) (z6 z7 zA zB:AV) (h:T Blk) (nx:Pa) (R:Ks Prop),Inv m zA h nx->(∀ (m':Nat) (w6 w7 wA wB:AV) (h':T Blk) (nx':Pa),m'<m->Inv m' wA h' nx'->R (uq.fr a c d f e i w6 w7 s u wA wB) h' nx'=.ok True) ->
   (yc .lss .int zA u fun v1=>yN v1 (zX 1 s zA fun v2=>zF v2 h fun v3=>zS 0 i fun v4=>zF v4 h fun v5=>zS 0 d fun v6=>zF v6 h fun v7=>zX 1 v7 v3 fun v8=>zF v8 h fun v9=>zX 1 v5 zA fun vA=>zP 1 vA v9 h nx fun vB hH nI=>yc .add .int zA (I 1) fun vE=>R (uq.fr a c d f e i zA v3 s u vE v1) hH nI) (K (uq.fr a c d f e i z6 z7 s u zA v1) h nx))=.ok True) :
  IR.run uq.b1 C N (fnO uq.res K0) K (uq.fr a c d f e i o p s u b g) h nx=.ok True:=by
 rw [uq.b1,uq.fA,uq.b2];refine yM (fun m tm h nx=>∃ z6 z7 zA zB,tm=(uq.fr a c d f e i z6 z7 s u zA zB)/\Inv m zA h nx) ?_ hm ⟨_,_,_,_,rfl,hi⟩;rintro m tm h nx R ⟨z6,z7,zA,zB,rfl,hi⟩ hR;refine Eq.trans ?_ (step m z6 z7 zA zB h nx R hi fun m' w6 w7 wA wB h' nx' hlt hi'=>hR m' _ h' nx' hlt ⟨_,_,_,_,rfl,hi'⟩)
 kernel_rfl
theorem uq.k8:IR.run uq.b8 C N (fnO uq.res K0) K (uq.fr a c d f e i o p s u b g) h nx =
 zH 2 i h fun v1=>zP 2 e v1 h nx fun v2 h3 n4=>zH 2 e h3 fun v5=>K0 v5 h3 n4:=by kernel_rfl
theorem aX.tab:T.get none (.of 140) tbl=some aX:=by kernel_rfl
theorem aX.go:zW tbl N C (.of 140) [a0] h nx K0 =
 C.fn 198 (.of 198) [a0] h nx fun v1 h2 n3=>yc .eql .int v1 (I 0) fun v4=>K0 v4 h2 n3:=by
 rw [zL aX.tab];kernel_rfl
theorem jg.zey (X3:IR) (O:qg Prop) (t:T AV):IR.run (jg.g2 X3) C N O K t h nx=IR.run X3 C N (O.blk 0 K) K t h nx:=by kernel_rfl
theorem jg.tab:T.get none (.of 198) tbl=some jg:=by kernel_rfl
theorem jg.go:zW tbl N C (.of 198) [a0] h nx K0 =
 sLen a0 fun v1=>yc .gtr .int v1 (I 256) fun v2=>yN v2 (K0 (I 5) h nx) (sLen a0 fun v3=>jY 1 1 [(.bool false)] v3 v3 h nx fun v4 h5 n6=>sLen a0 fun v7=>IR.run jg.b2 C N (fnO jg.res K0) (IR.run jg.b10 C N (fnO jg.res K0) (jm jg.res K0)) (jg.fr a0 (I 0) v4 .undef v2 a0 v7 (I 0) .undef .undef) h5 n6):=by
 rw [zL jg.tab];kernel_rfl
theorem jg.L2 (Inv:Nat->AV->T Blk->Pa->Prop) {m:Nat} (hm:m<N) (hi:Inv m p h nx)
  (step:∀ (m:Nat) (z1 z3 z7 z8 z9:AV) (h:T Blk) (nx:Pa) (R:Ks Prop),Inv m z7 h nx->(∀ (m':Nat) (w1 w3 w7 w8 w9:AV) (h':T Blk) (nx':Pa),m'<m->Inv m' w7 h' nx'->R (jg.fr a w1 d w3 e i o w7 w8 w9) h' nx'=.ok True) ->
   (yc .lss .int z7 o fun v1=>yN v1 (zX 1 i z7 fun v2=>zF v2 h fun v3=>yc .lss .int v3 (I 0) fun v4=>sG v4 false (fun k=>k v3) fun v5=>sG v4 false (fun k=>k a) fun v6=>sG v4 false (fun k=>sLen v6 k) fun v7=>sG v4 false (fun k=>yc .geq .int v5 v7 k) fun v8=>jM v4 (.bool true) v8 fun v9=>sG v9 false (fun k=>k d) fun vA=>sG v9 false (fun k=>k v3) fun vB=>sG v9 false (fun k=>zX 1 vA vB k) fun vC=>sG v9 false (fun k=>zF vC h k) fun vD=>jM v9 (.bool true) vD fun vE=>yN vE (K0 (I 14) h nx) ((IR.run jg.b8 C N (((fnO jg.res K0).blk 0 K).blk 1 (IR.run jg.b9 C N ((fnO jg.res K0).blk 0 K) R)) (IR.run jg.b9 C N ((fnO jg.res K0).blk 0 K) R)) (jg.fr a z1 d v3 e i o z7 v1 vE) h nx)) (K (jg.fr a z1 d z3 e i o z7 v1 z9) h nx))=.ok True) :
  IR.run jg.b2 C N (fnO jg.res K0) K (jg.fr a c d f e i o p s u) h nx=.ok True:=by
 rw [jg.b2,jg.zey,jg.b3];refine yM (fun m tm h nx=>∃ z1 z3 z7 z8 z9,tm=(jg.fr a z1 d z3 e i o z7 z8 z9)/\Inv m z7 h nx) ?_ hm ⟨_,_,_,_,_,rfl,hi⟩;rintro m tm h nx R ⟨z1,z3,z7,z8,z9,rfl,hi⟩ hR;refine Eq.trans ?_ (step m z1 z3 z7 z8 z9 h nx R hi fun m' w1 w3 w7 w8 w9 h' nx' hlt hi'=>hR m' _ h' nx' hlt ⟨_,_,_,_,_,rfl,hi'⟩)
 kernel_rfl
theorem jg.k10:IR.run jg.b10 C N (fnO jg.res K0) K (jg.fr a c d f e i o p s u) h nx =
 K0 (I 0) h nx:=by kernel_rfl
theorem jg.k9 {E0:Ks Prop}:IR.run jg.b9 C N ((fnO jg.res K0).blk 0 E0) K (jg.fr a c d f e i o p s u) h nx =
 yc .add .int p (I 1) fun v1=>K (jg.fr a c d f e i o v1 s u) h nx:=by kernel_rfl
theorem jg.k8 {E0 E1:Ks Prop}:IR.run jg.b8 C N (((fnO jg.res K0).blk 0 E0).blk 1 E1) K (jg.fr a c d f e i o p s u) h nx =
 zX 1 d f fun v1=>zP 1 v1 (.bool true) h nx fun v2 h3 n4=>K (jg.fr a c d f e i o p s u) h3 n4:=by kernel_rfl
theorem F94.fA (X2:IR) (O:qg Prop) (t:T AV):IR.run (F94.g1 X2) C N O K t h nx=IR.run X2 C N (O.blk 0 K) K t h nx:=by kernel_rfl
theorem F94.tab:T.get none (.of 94) tbl=some F94:=by kernel_rfl
theorem F94.go:zW tbl N C (.of 94) [a0] h nx K0 =
 sLen a0 fun v1=>IR.run F94.b1 C N (fnO F94.res K0) (IR.run F94.b8 C N (fnO F94.res K0) (jm F94.res K0)) (F94.fr a0 (I 0) .undef a0 v1 (I 0) .undef .undef) h nx:=by
 rw [zL F94.tab];kernel_rfl
theorem F94.L1 (Inv:Nat->AV->T Blk->Pa->Prop) {m:Nat} (hm:m<N) (hi:Inv m i h nx)
  (step:∀ (m:Nat) (z1 z2 z5 z6 z7:AV) (h:T Blk) (nx:Pa) (R:Ks Prop),Inv m z5 h nx->(∀ (m':Nat) (w1 w2 w5 w6 w7:AV) (h':T Blk) (nx':Pa),m'<m->Inv m' w5 h' nx'->R (F94.fr a w1 w2 f e w5 w6 w7) h' nx'=.ok True) ->
   (yc .lss .int z5 e fun v1=>yN v1 (zX 1 f z5 fun v2=>zF v2 h fun v3=>yc .neq .int v3 (I 0) fun v4=>yN v4 (K0 v3 h nx) (yc .add .int z5 (I 1) fun v5=>R (F94.fr a z1 v3 f e v5 v1 v4) h nx)) (K (F94.fr a z1 z2 f e z5 v1 z7) h nx))=.ok True) :
  IR.run F94.b1 C N (fnO F94.res K0) K (F94.fr a c d f e i o p) h nx=.ok True:=by
 rw [F94.b1,F94.fA,F94.b2];refine yM (fun m tm h nx=>∃ z1 z2 z5 z6 z7,tm=(F94.fr a z1 z2 f e z5 z6 z7)/\Inv m z5 h nx) ?_ hm ⟨_,_,_,_,_,rfl,hi⟩;rintro m tm h nx R ⟨z1,z2,z5,z6,z7,rfl,hi⟩ hR;refine Eq.trans ?_ (step m z1 z2 z5 z6 z7 h nx R hi fun m' w1 w2 w5 w6 w7 h' nx' hlt hi'=>hR m' _ h' nx' hlt ⟨_,_,_,_,_,rfl,hi'⟩)
 kernel_rfl
theorem F94.k8:IR.run F94.b8 C N (fnO F94.res K0) K (F94.fr a c d f e i o p) h nx =
 K0 (I 0) h nx:=by kernel_rfl
theorem F95.tab:T.get none (.of 95) tbl=some F95:=by kernel_rfl
theorem F95.go:zW tbl N C (.of 95) [a0] h nx K0 =
 yc .lss .int a0 (I 0) fun v1=>sG v1 false (fun k=>k a0) fun v2=>sG v1 false (fun k=>yc .gtr .int v2 (I 256) k) fun v3=>jM v1 (.bool true) v3 fun v4=>C.fn 96 (.of 96) [v4,(I 3)] h nx fun v5 h6 n7=>K0 v5 h6 n7:=by
 rw [zL F95.tab];kernel_rfl
theorem F96.tab:T.get none (.of 96) tbl=some F96:=by kernel_rfl
theorem F96.go:zW tbl N C (.of 96) [a0,a1] h nx K0 =
 yN a0 (K0 a1 h nx) (K0 (I 0) h nx):=by
 rw [zL F96.tab];kernel_rfl
theorem F98.zsa (X14:IR) (O:qg Prop) (t:T AV):IR.run (F98.g13 X14) C N O K t h nx=IR.run X14 C N (O.blk 4 K) K t h nx:=by kernel_rfl
theorem F98.zlr (X8:IR) (O:qg Prop) (t:T AV):IR.run (F98.g7 X8) C N O K t h nx=IR.run X8 C N (O.blk 2 K) K t h nx:=by kernel_rfl
theorem F98.tab:T.get none (.of 98) tbl=some F98:=by kernel_rfl
theorem F98.go:zW tbl N C (.of 98) [a0,a1,a2] h nx K0 =
 bW a2 h nx fun v1 h2 n3=>yK [.gy] h2 n3 fun v4 h5 n6=>yK [.zi] h5 n6 fun v7 h8 n9=>yK [(.bool false)] h8 n9 fun vA hG nG=>C.fn 163 (.of 163) [a1] hG nG fun vD hI nJ=>yK [.zi,(.bool false)] hI nJ fun vG hF nF=>zP 2 vG vD hF nF fun vJ hD nD=>sChk (true&&(true&&true)) (zH 2 vG hD fun vM=>zH 2 vG hD fun vN=>C.fn 123 (.of 123) [vM] hD nD fun vO hC nC=>(zH 2 vG hC fun v52=>zO v52 vN ((zH 2 vG hC fun v51=>zO v51 vM (zab hC nC fun vP hO nP=>(zH 2 vG hO fun v50=>zO v50 vN ((zH 2 vG hO fun v49=>zO v49 vM (pW .str vP vO vN hO nP fun vR hP nQ=>(zH 2 vG hP fun v48=>zO v48 vN ((zH 2 vG hP fun v47=>zO v47 vM (yK [.gy] hP nQ fun vZ hQ nR=>zO vP vP ((zH 2 vG hQ fun v46=>zO v46 vN ((zH 2 vG hQ fun v45=>zO v45 vM (zP 1 vZ vP hQ nR fun vW hS nS=>yK [.zi] hS nS fun v39 hT nT=>C.fn 90 (.of 90) [a0] hT nT fun v42 hU nU=>IR.run (.rf (.t (.of 14)) [(.of 15),(.of 16)] F98.b3 F98.b4) C N ((fnO F98.res K0).blk 0 (IR.run F98.b23 C N (fnO F98.res K0) (jm F98.res K0))) (IR.run F98.b23 C N (fnO F98.res K0) (jm F98.res K0)) (F98.fr a0 a1 a2 v1 v4 v7 vA vG vZ v39 .undef .undef .undef .undef v42 .undef .undef .undef .undef .undef .undef .undef .undef .undef .undef) hU nU)))))))))))))))))):=by
 rw [zL F98.tab];kernel_rfl
theorem F98.k23:IR.run F98.b23 C N (fnO F98.res K0) K (F98.fr a c d f e i o p s u b g l q v w y z A B D E F G H) h nx =
 zF s h fun v1=>zF u h fun v2=>zP 1 e v1 h nx fun v3 h4 n5=>(zF u h4 fun vF=>zO vF v2 (zP 1 i v2 h4 n5 fun v6 h7 n8=>zP 1 o (.bool true) h7 n8 fun v9 hV nV=>zF e hV fun vC=>zF i hV fun vD=>zF o hV fun vE=>K0 (.tup [vC,vD,vE]) hV nV)):=by kernel_rfl
theorem F98.p4 {N:Nat} {C:Calls Prop} {K0:Kw Prop} {id nx:Pa} {j:Jump} {h:T Blk} {a c d f e i o p s u b g l q v w y z A B D E F G H z0 z1:AV} (hl:T.get .no id h=.loop .ready j (F98.fr a c d f e i o p s u b g l q v w y z A B D E F G H) [.of 15,.of 16] F98.b3 F98.b4) :
 qW N C id [z0,z1] h nx K0 =
 yK [.zi,(.bool false)] h nx fun v1 h2 n3=>zP 2 v1 z1 h2 n3 fun v4 h5 n6=>rMid N C id K0 F98.b4 (F98.fr a c d f e i o p s u v1 g l q v z0 z1 z A B D E F G H) h5 n6:=by
 rw [zdm hl (tm1:=(F98.fr a c d f e i o p s u b g l q v z0 z1 z A B D E F G H)) (by intro k;kernel_rfl)];kernel_rfl
theorem F98.y4 {N:Nat} {C:Calls Prop} {K0:Kw Prop} {id nx:Pa} {h:T Blk} {a c d f e i o p s u b g l q v w y z A B D E F G H:AV} :
 IR.run F98.b4 C N (rO id K0) (yT id K0 .none true) (F98.fr a c d f e i o p s u b g l q v w y z A B D E F G H) h nx =
 zF s h fun v1=>zH 2 b h fun v2=>C.fn 121 (.of 121) [v1,v2] h nx fun v3 h4 n5=>yN v3 (yT id K0 .none true .e h4 n5) (zF u h4 fun v6=>zH 2 b h4 fun v7=>yX 2 1 [.zi,(.bool false)] [(0,2,v7)] h4 n5 fun v8 h9 nH=>vV C 2 32 v6 v8 h9 nH fun vB hH nI=>zP 1 u vB hH nI fun vE hA nA=>sChk (true&&true) (zH 2 p hA fun vH=>zH 2 p hA fun vI=>C.fn 123 (.of 123) [vH] hA nA fun vJ hD nD=>(zH 2 p hD fun v38=>zO v38 vI ((zH 2 p hD fun v37=>zO v37 vH (zab hD nD fun vM hM nN=>(zH 2 p hM fun vW=>zO vW vI ((zH 2 p hM fun vX=>zO vX vH (pW .str vM vJ vI hM nN fun v25 hN nO=>zP 1 s vM hN nO fun vT hW nW=>zH 2 p hW fun vQ=>yX 2 1 [.zi,(.bool false)] [(0,2,vQ)] hW nW fun v32 hX nX=>IR.run F98.b7 C N ((rO id K0).blk 1 (yT id K0 .none true)) (yT id K0 .none true) (F98.fr a c d f e i o p s u b v32 l q v w y v3 A B D E F G H) hX nX)))))))))):=by kernel_rfl
theorem F98.L7 {id:Pa} {E1:Ks Prop} (Inv:Nat->AV->T Blk->Pa->Prop) {m:Nat} (hm:m<N) (hi:Inv m g h nx)
  (step:∀ (m:Nat) (zB zC zD zE zG zI zJ zK zM zN:AV) (h:T Blk) (nx:Pa) (R:Ks Prop),Inv m zB h nx->(∀ (m':Nat) (wB wC wD wE wF wG wH wI wJ wK:AV) (h':T Blk) (nx':Pa),m'<m->Inv m' wB h' nx'->R (F98.fr a c d f e i o p s u b wB wC wD v w y z wE wF wG wH wI wJ wK) h' nx'=.ok True) ->
   (sLen zB fun v1=>yc .gtr .int v1 (I 0) fun v2=>yN v2 (zF u h fun v3=>sLen v3 fun v4=>IR.run F98.b13 C N ((((rO id K0).blk 1 E1).blk 2 K).blk 3 (IR.run F98.b22 C N (((rO id K0).blk 1 E1).blk 2 K) R)) (IR.run F98.b22 C N (((rO id K0).blk 1 E1).blk 2 K) R) (F98.fr a c d f e i o p s u b zB zC zD v w y z v2 v3 v4 (I 0) zK zM zN) h nx) (K (F98.fr a c d f e i o p s u b zB zC zD v w y z v2 zG zI zJ zK zM zN) h nx))=.ok True) :
  IR.run F98.b7 C N ((rO id K0).blk 1 E1) K (F98.fr a c d f e i o p s u b g l q v w y z A B D E F G H) h nx=.ok True:=by
 rw [F98.b7,F98.zlr,F98.b8];refine yM (fun m tm h nx=>∃ zB zC zD zE zG zI zJ zK zM zN,tm=(F98.fr a c d f e i o p s u b zB zC zD v w y z zE zG zI zJ zK zM zN)/\Inv m zB h nx) ?_ hm ⟨_,_,_,_,_,_,_,_,_,_,rfl,hi⟩;rintro m tm h nx R ⟨zB,zC,zD,zE,zG,zI,zJ,zK,zM,zN,rfl,hi⟩ hR;refine Eq.trans ?_ (step m zB zC zD zE zG zI zJ zK zM zN h nx R hi fun m' wB wC wD wE wF wG wH wI wJ wK h' nx' hlt hi'=>hR m' _ h' nx' hlt ⟨_,_,_,_,_,_,_,_,_,_,rfl,hi'⟩)
 kernel_rfl
theorem F98.k22 {id:Pa} {E1 E2:Ks Prop}:IR.run F98.b22 C N (((rO id K0).blk 1 E1).blk 2 E2) K (F98.fr a c d f e i o p s u b g l q v w y z A B D E F G H) h nx =
 zdn 2 g (some (I 1)) none none fun v1=>K (F98.fr a c d f e i o p s u b v1 l q v w y z A B D E F G H) h nx:=by kernel_rfl
theorem F98.L13 {id:Pa} {E1 E2 E3:Ks Prop} (Inv:Nat->AV->AV->T Blk->Pa->Prop) {m:Nat} (hm:m<N) (hi:Inv m g E h nx)
  (step:∀ (m:Nat) (zB zC zD zJ zK zM zN:AV) (h:T Blk) (nx:Pa) (R:Ks Prop),Inv m zB zJ h nx->(∀ (m':Nat) (wB wC wD wH wI wJ wK:AV) (h':T Blk) (nx':Pa),m'<m->Inv m' wB wH h' nx'->R (F98.fr a c d f e i o p s u b wB wC wD v w y z A B D wH wI wJ wK) h' nx'=.ok True) ->
   (yc .lss .int zJ D fun v1=>yN v1 (zX 2 B zJ fun v2=>zH 2 v2 h fun v3=>yK [.zi,(.bool false)] h nx fun v4 h5 n6=>zP 2 v4 v3 h5 n6 fun v7 h8 n9=>sChk (true&&true) (zH 2 v4 h8 fun vA=>zX 2 zB (I 0) fun vB=>zH 2 vB h8 fun vC=>C.fn 122 (.of 122) [vA,vC] h8 n9 fun vD hI nJ=>(zH 2 vB hI fun v65=>zO v65 vC ((zX 2 zB (I 0) fun v64=>zO v64 vB (zO zB zB ((zH 2 v4 hI fun v63=>zO v63 vA (yK [.zi,(.bool false)] hI nJ fun vG hF nF=>(zH 2 vB hF fun v62=>zO v62 vC ((zX 2 zB (I 0) fun v61=>zO v61 vB (zO zB zB ((zH 2 v4 hF fun v60=>zO v60 vA (zP 2 vG vD hF nF fun vJ hD nD=>zF s hD fun vM=>zH 2 vG hD fun vN=>C.fn 121 (.of 121) [vM,vN] hD nD fun vO hC nC=>yN vO (yc .add .int zJ (I 1) fun vP=>R (F98.fr a c d f e i o p s u b zB v4 vG v w y z A B D vP v1 vO zN) hC nC) (zF s hC fun vT=>zio vT hC fun vS=>zF f hC fun vR=>yc .eql .int vS vR fun vQ=>yN vQ (zP 1 e .gy hC nC fun v32 hX nX=>zP 1 i .zi hX nX fun vX hY nY=>zP 1 o (.bool false) hY nY fun v38 hZ nZ=>yT id K0 .ret false .e hZ nZ) (zF s hC fun v41=>zH 2 vG hC fun v42=>zH 2 vG hC fun v43=>C.fn 123 (.of 123) [v42] hC nC fun v44 h45 n46=>(zH 2 vG h45 fun v59=>zO v59 v43 ((zF s h45 fun v58=>zO v58 v41 (pW .str v41 v44 v43 h45 n46 fun v47 h48 n49=>zH 2 vG h48 fun v50=>yX 2 1 [.zi,(.bool false)] [(0,2,v50)] h48 n49 fun v51 h52 n53=>vV C 2 32 zB v51 h52 n53 fun v54 h55 n56=>yc .add .int zJ (I 1) fun v57=>R (F98.fr a c d f e i o p s u b v54 v4 vG v w y z A B D v57 v1 vO vQ) h55 n56)))))))))))))))))))))) (K (F98.fr a c d f e i o p s u b zB zC zD v w y z A B D zJ v1 zM zN) h nx))=.ok True) :
  IR.run F98.b13 C N ((((rO id K0).blk 1 E1).blk 2 E2).blk 3 E3) K (F98.fr a c d f e i o p s u b g l q v w y z A B D E F G H) h nx=.ok True:=by
 rw [F98.b13,F98.zsa,F98.b14];refine yM (fun m tm h nx=>∃ zB zC zD zJ zK zM zN,tm=(F98.fr a c d f e i o p s u b zB zC zD v w y z A B D zJ zK zM zN)/\Inv m zB zJ h nx) ?_ hm ⟨_,_,_,_,_,_,_,rfl,hi⟩;rintro m tm h nx R ⟨zB,zC,zD,zJ,zK,zM,zN,rfl,hi⟩ hR;refine Eq.trans ?_ (step m zB zC zD zJ zK zM zN h nx R hi fun m' wB wC wD wH wI wJ wK h' nx' hlt hi'=>hR m' _ h' nx' hlt ⟨_,_,_,_,_,_,_,rfl,hi'⟩)
 kernel_rfl
theorem F92.tab:T.get none (.of 92) tbl=some F92:=by kernel_rfl
theorem F92.go:zW tbl N C (.of 92) [a0,a1] h nx K0 =
 bW a0 h nx fun v1 h2 n3=>yK [.gy] h2 n3 fun v4 h5 n6=>yK [.zi] h5 n6 fun v7 h8 n9=>yK [(I 0)] h8 n9 fun vA hG nG=>zF v1 hG fun vD=>sLen vD fun vE=>yc .eql .int vE (I 0) fun vF=>zF v1 hG fun vG=>sLen vG fun vH=>yc .gtr .int vH (I 1536) fun vI=>C.fn 95 (.of 95) [a1] hG nG fun vJ hD nD=>(yc .gtr .int vH (I 1536) fun v76=>zO v76 vI ((sLen vG fun v75=>zO v75 vH ((zF v1 hD fun v74=>zO v74 vG ((yc .eql .int vE (I 0) fun v73=>zO v73 vF ((sLen vD fun v72=>zO v72 vE ((zF v1 hD fun v71=>zO v71 vD (C.fn 96 (.of 96) [vF,(I 12)] hD nD fun vM hM nN=>(yc .gtr .int vH (I 1536) fun v70=>zO v70 vI ((sLen vG fun v69=>zO v69 vH ((zF v1 hM fun v68=>zO v68 vG (C.fn 96 (.of 96) [vI,(I 5)] hM nN fun v25 hN nO=>yX 1 3 [(I 0)] [(0,1,vJ),(1,1,vM),(2,1,v25)] hN nO fun vT hW nW=>C.fn 94 (.of 94) [vT] hW nW fun vQ h32 n33=>yc .neq .int vQ (I 0) fun vY=>yN vY (zP 1 v4 .gy h32 n33 fun vX hY nY=>zP 1 v7 .zi hY nY fun v38 hZ nZ=>zP 1 vA vQ hZ nZ fun v41 h42 n43=>zF v4 h42 fun v44=>zF v7 h42 fun v45=>zF vA h42 fun v46=>K0 (.tup [v44,v45,v46]) h42 n43) (zF v1 h32 fun v47=>C.fn 97 (.of 97) [v47,a1] h32 n33 fun v48 h49 n50=>yc .neq .int v48 (I 0) fun v51=>yN v51 (zP 1 v4 .gy h49 n50 fun v52 h53 n54=>zP 1 v7 .zi h53 n54 fun v55 h56 n57=>zP 1 vA v48 h56 n57 fun v58 h59 n60=>zF v4 h59 fun v61=>zF v7 h59 fun v62=>zF vA h59 fun v63=>K0 (.tup [v61,v62,v63]) h59 n60) (zF v1 h49 fun v64=>C.fn 90 (.of 90) [v64] h49 n50 fun v65 h66 n67=>IR.run (.rf (.t (.of 15)) [(.of 16),(.of 17)] F92.b5 F92.b6) C N ((fnO F92.res K0).blk 0 (IR.run F92.b8 C N (fnO F92.res K0) (jm F92.res K0))) (IR.run F92.b8 C N (fnO F92.res K0) (jm F92.res K0)) (F92.fr a0 a1 v1 v4 v7 vA vQ v48 .undef .undef .undef .undef .undef vY v51 v65 .undef .undef .undef .undef) h66 n67)))))))))))))))))))):=by
 rw [zL F92.tab];kernel_rfl
theorem F92.k8:IR.run F92.b8 C N (fnO F92.res K0) K (F92.fr a c d f e i o p s u b g l q v w y z A B) h nx =
 zF d h fun v1=>zF d h fun v2=>sLen v2 fun v3=>C.fn 98 (.of 98) [v1,c,v3] h nx fun v4 h5 n6=>bg 0 v4 fun v7=>bg 1 v4 fun v8=>bg 2 v4 fun v9=>aV v9 fun vA=>sG vA false (fun k=>k v7) fun vB=>sG vA false (fun k=>zio vB h5 k) fun vC=>sG vA false (fun k=>zF d h5 k) fun vD=>sG vA false (fun k=>sLen vD k) fun vE=>sG vA false (fun k=>yc .neq .int vC vE k) fun vF=>jM vA (.bool true) vF fun vG=>yN vG (zP 1 f .gy h5 n6 fun vH h18 n19=>zP 1 e .zi h18 n19 fun vK hJ nK=>zP 1 i (I 28) hJ nK fun vN hE nE=>zF f hE fun vU=>zF e hE fun vP=>zF i hE fun vT=>K0 (.tup [vU,vP,vT]) hE nE) ((IR.run F92.b9 C N (fnO F92.res K0) K) (F92.fr a c d f e i o p s u v7 v8 v9 q v w y z A vG) h5 n6):=by kernel_rfl
theorem F92.p6 {N:Nat} {C:Calls Prop} {K0:Kw Prop} {id nx:Pa} {j:Jump} {h:T Blk} {a c d f e i o p s u b g l q v w y z A B z0 z1:AV} (hl:T.get .no id h=.loop .ready j (F92.fr a c d f e i o p s u b g l q v w y z A B) [.of 16,.of 17] F92.b5 F92.b6) :
 qW N C id [z0,z1] h nx K0 =
 yK [.zi,(.bool false)] h nx fun v1 h2 n3=>zP 2 v1 z1 h2 n3 fun v4 h5 n6=>rMid N C id K0 F92.b6 (F92.fr a c d f e i o p z0 v1 b g l q v w z0 z1 A B) h5 n6:=by
 rw [zdm hl (tm1:=(F92.fr a c d f e i o p s u b g l q v w z0 z1 A B)) (by intro k;kernel_rfl)];kernel_rfl
theorem F92.y6 {N:Nat} {C:Calls Prop} {K0:Kw Prop} {id nx:Pa} {h:T Blk} {a c d f e i o p s u b g l q v w y z A B:AV} :
 IR.run F92.b6 C N (rO id K0) (yT id K0 .none true) (F92.fr a c d f e i o p s u b g l q v w y z A B) h nx =
 yc .gtr .int s (I 0) fun v1=>sG v1 true (fun k=>zF d h k) fun v2=>sG v1 true (fun k=>k s) fun v3=>sG v1 true (fun k=>yc .sub .int v3 (I 1) k) fun v4=>sG v1 true (fun k=>zX 2 v2 v4 k) fun v5=>sG v1 true (fun k=>zH 2 v5 h k) fun v6=>sG v1 true (fun k=>zH 2 u h k) fun v7=>sGW v1 true (fun k=>C.fn 162 (.of 162) [v6,v7] h nx k) h nx fun v8 h9 nH=>sG v1 true (fun k=>yc .geq .int v8 (I 0) k) fun vB=>jM v1 vB (.bool false) fun vC=>yN vC (zP 1 f .gy h9 nH fun vD hI nJ=>zP 1 e .zi hI nJ fun vG hF nF=>zP 1 i (I 11) hF nF fun vJ hD nD=>yT id K0 .ret false .e hD nD) (yT id K0 .none true .e h9 nH):=by kernel_rfl
theorem F92.k9:IR.run F92.b9 C N (fnO F92.res K0) K (F92.fr a c d f e i o p s u b g l q v w y z A B) h nx =
 zP 1 f b h nx fun v1 h2 n3=>zP 1 e g h2 n3 fun v4 h5 n6=>zP 1 i (I 0) h5 n6 fun v7 h8 n9=>zF f h8 fun vA=>zF e h8 fun vB=>zF i h8 fun vC=>K0 (.tup [vA,vB,vC]) h8 n9:=by kernel_rfl
theorem F22.tab:T.get none (.of 22) tbl=some F22:=by kernel_rfl
theorem F22.go:zW tbl N C (.of 22) [a0,a1] h nx K0 =
 C.fn 92 (.of 92) [a0,a1] h nx fun v1 h2 n3=>bg 0 v1 fun v4=>bg 1 v1 fun v5=>bg 2 v1 fun v6=>K0 v6 h2 n3:=by
 rw [zL F22.tab];kernel_rfl
end Go.Ev
namespace Go.Ev
open Go Go.Proofs
set_option maxRecDepth 100000
section
variable {N:Nat} {C:Calls Prop} {K0:Kw Prop} {K:Ks Prop} {h:T Blk} {nx:Pa} {a c d f e i o p s u b g a0 a1:AV} {O:qg Prop} {tm:T AV} {Kt:KTm} {r:List RO} {s0 s1 s2 s3 s4 s5 s6 s7 s8 s9 s10 s11 s12 s13 s14 s15 s16 s17 s18 s19 s20 s21 s22 s23 s24 s25 s26 s27 s28 s29 s30 s31 s32 s33 s34 s35 s36 s37 s38 s39 s40 s41 s42 s43 s44 s45 s46 s47 s48 s49 s50 s51 s52 s53 s54 s55 s56 s57 s58 s59:AV}
def zy.t0:IR:=.reg [.w (.loc (.of 2)) none (.box (.t (.of 0))),.q (.of 3) (.mv (.c .zi))]
def zy.t1:IR:=.reg [.s (.mv (.t (.of 1))),.s (.len (.s 0)),.w .push none (.jk 1 8 [(I 0)] (.s 0) (.s 0)),.q (.of 4) (.mv (.s 0))]
def zy.t2:IR:=.reg [.q (.of 7) (.mv (.t (.of 1))),.q (.of 8) (.len (.t (.of 7))),.q (.of 9) (.mv (.c (I 0)))]
def zy.t3:IR:=.reg [.q (.of 10) (.bin .lss .int (.t (.of 9)) (.t (.of 8)))]
def zy.t4:IR:=.cond (.t (.of 10)) .skip (.exit 0)
def zy.t5:IR:=.reg [.s (.mv (.t (.of 9))),.s (.zx 1 (.t (.of 7)) (.t (.of 9))),.s (.load (.s 0)),.q (.of 5) (.mv (.s 2)),.q (.of 6) (.mv (.s 0))]
def zy.t6:IR:=.reg [.s (.zu 1 (.t (.of 2))),.q (.of 11) (.load (.s 0))]
def zy.t7:IR:=.reg [.s (.mv (.t (.of 1))),.s (.len (.s 0)),.s (.bin .add .int (.s 0) (.c (I 1))),.s (.mv (.t (.of 6))),.s (.bin .sub .int (.s 1) (.s 0)),.q (.of 6) (.mv (.s 0))]
def zy.t8:IR:=.cond (.t (.of 11)) zy.t7 .skip
def zy.t9:IR:=.seq zy.t6 zy.t8
def zy.t10:IR:=.reg [.s (.mv (.t (.of 4))),.s (.zu 0 (.t (.of 2))),.s (.load (.s 0)),.s (.mv (.t (.of 5))),.s (.zx 1 (.s 1) (.s 0)),.s (.load (.s 0)),.s (.mv (.t (.of 6))),.s (.zx 1 (.s 6) (.s 1)),.w .none none (.store 1 (.s 0) (.s 1))]
def zy.t11:IR:=.seq zy.t9 zy.t10
def zy.t12:IR:=.seq zy.t5 zy.t11
def zy.t13:IR:=.block 1 zy.t12
def zy.t14:IR:=.reg [.s (.bin .add .int (.t (.of 9)) (.c (I 1))),.q (.of 9) (.mv (.s 0))]
def zy.t15:IR:=.seq zy.t13 zy.t14
def zy.t16:IR:=.seq zy.t4 zy.t15
def zy.t17:IR:=.seq zy.t3 zy.t16
def zy.t18:IR:=.loop zy.t17
def zy.t19:IR:=.block 0 zy.t18
def zy.t20:IR:=.seq zy.t2 zy.t19
def zy.t21:IR:=.reg [.s (.mv (.t (.of 4))),.q (.of 3) (.mv (.s 0))]
def zy.t22:IR:=.seq zy.t21 .ret
def zy.t23:IR:=.seq zy.t20 zy.t22
def zy.t24:IR:=.seq zy.t1 zy.t23
def zy.t25:IR:=.seq zy.t0 zy.t24
theorem zy.qw:IR.run zy.t0 C N O K (zy.fr a c d f e i o p s u b g) h nx =
 bW a h nx fun v1 h2 n3=>K (zy.fr a c v1 .zi e i o p s u b g) h2 n3:=by kernel_rfl
theorem zy.qx:IR.run zy.t1 C N O K (zy.fr a c d f e i o p s u b g) h nx =
 sLen c fun v1=>jY 1 8 [(I 0)] v1 v1 h nx fun v2 h3 n4=>K (zy.fr a c d f v2 i o p s u b g) h3 n4:=by kernel_rfl
theorem zy.bC:IR.run zy.t2 C N O K (zy.fr a c d f e i o p s u b g) h nx =
 sLen c fun v1=>K (zy.fr a c d f e i o c v1 (I 0) b g) h nx:=by kernel_rfl
theorem zy.fV:IR.run zy.t3 C N O K (zy.fr a c d f e i o p s u b g) h nx =
 yc .lss .int u s fun v1=>K (zy.fr a c d f e i o p s u v1 g) h nx:=by kernel_rfl
theorem zy.v10:Arg.ev (.t (.of 10)) ⟨(zy.fr a c d f e i o p s u b g),[]⟩=b:=by kernel_rfl
theorem zy.t5_s:IR.run zy.t5 C N O K (zy.fr a c d f e i o p s u b g) h nx =
 zX 1 p u fun v1=>zF v1 h fun v2=>K (zy.fr a c d f e u v2 p s u b g) h nx:=by kernel_rfl
theorem zy.sO:IR.run zy.t6 C N O K (zy.fr a c d f e i o p s u b g) h nx =
 zS 1 d fun v1=>zF v1 h fun v2=>K (zy.fr a c d f e i o p s u b v2) h nx:=by kernel_rfl
theorem zy.t7_s:IR.run zy.t7 C N O K (zy.fr a c d f e i o p s u b g) h nx =
 sLen c fun v1=>yc .add .int v1 (I 1) fun v2=>yc .sub .int v2 o fun v3=>K (zy.fr a c d f e i v3 p s u b g) h nx:=by kernel_rfl
theorem zy.v11:Arg.ev (.t (.of 11)) ⟨(zy.fr a c d f e i o p s u b g),[]⟩=g:=by kernel_rfl
theorem zy.rC:IR.run zy.t10 C N O K (zy.fr a c d f e i o p s u b g) h nx =
 zS 0 d fun v1=>zF v1 h fun v2=>zX 1 v2 i fun v3=>zF v3 h fun v4=>zX 1 e v4 fun v5=>zP 1 v5 o h nx fun v6 h7 n8=>K (zy.fr a c d f e i o p s u b g) h7 n8:=by kernel_rfl
theorem zy.aS:IR.run zy.t14 C N O K (zy.fr a c d f e i o p s u b g) h nx =
 yc .add .int u (I 1) fun v1=>K (zy.fr a c d f e i o p s v1 b g) h nx:=by kernel_rfl
theorem zy.zt3 (Inv:Nat->AV->T Blk->Pa->Prop) {m:Nat} (hm:m<N) (hi:Inv m u h nx)
  (step:∀ (m:Nat) (z5 z6 z9 zA zB:AV) (h:T Blk) (nx:Pa) (R:Ks Prop),Inv m z9 h nx->(∀ (m':Nat) (w5 w6 w9 wA wB:AV) (h':T Blk) (nx':Pa),m'<m->Inv m' w9 h' nx'->R (zy.fr a c d f e w5 w6 p s w9 wA wB) h' nx'=.ok True)->IR.run zy.t17 C N O R (zy.fr a c d f e z5 z6 p s z9 zA zB) h nx=.ok True) :
  IR.run zy.t18 C N O K (zy.fr a c d f e i o p s u b g) h nx=.ok True:=by
 rw [zy.t18];refine yM (fun m tm h nx=>∃ z5 z6 z9 zA zB,tm=(zy.fr a c d f e z5 z6 p s z9 zA zB)/\Inv m z9 h nx) ?_ hm ⟨_,_,_,_,_,rfl,hi⟩;rintro m tm h nx R ⟨z5,z6,z9,zA,zB,rfl,hi⟩ hR;exact step m z5 z6 z9 zA zB h nx R hi fun m' w5 w6 w9 wA wB h' nx' hlt hi'=>hR m' _ h' nx' hlt ⟨_,_,_,_,_,rfl,hi'⟩
theorem zy.zac:IR.run zy.t21 C N O K (zy.fr a c d f e i o p s u b g) h nx =
 K (zy.fr a c d e e i o p s u b g) h nx:=by kernel_rfl
theorem zy.tab:T.get none (.of 135) tbl=some zy:=by kernel_rfl
theorem zy.bind (k:T AV->OP):zY zy.params [a0,a1] zy.init k=k (zy.fr a0 a1 .undef .undef .undef .undef .undef .undef .undef .undef .undef .undef):=by kernel_rfl
theorem zy.yx:zy.body=zy.t25:=by kernel_rfl
theorem zy.go:zW tbl N C (.of 135) [a0,a1] h nx K0=IR.run zy.t25 C N (fnO zy.res K0) (jm zy.res K0) (zy.fr a0 a1 .undef .undef .undef .undef .undef .undef .undef .undef .undef .undef) h nx:=by
 rw [zL zy.tab,zy.bind,zy.yx];kernel_rfl
theorem zy.ret:jm zy.res K0 (zy.fr a c d f e i o p s u b g) h nx=K0 f h nx:=by kernel_rfl
def wu.t0:IR:=.reg [.q (.of 1) (.mv (.c (I 0)))]
def wu.t1:IR:=.reg [.s (.mv (.t (.of 0))),.s (.len (.s 0)),.s (.bin .gtr .int (.s 0) (.c (I 256))),.w .push none (.call (.c (.fn 96 (.of 96) [])) [(.s 0),(.c (I 5))]),.s (.mv (.t (.of 0))),.w .push none (.call (.c (.fn 136 (.of 136) [])) [(.s 0),(.c (.fn 137 (.of 137) []))]),.w .push none (.call (.c (.fn 96 (.of 96) [])) [(.s 0),(.c (I 3))]),.w .push none (.yg 1 2 [(I 0)] [(0,1,(.s 3)),(1,1,(.s 0))]),.w .push none (.call (.c (.fn 94 (.of 94) [])) [(.s 0)]),.q (.of 1) (.mv (.s 0))]
def wu.t2:IR:=.seq wu.t1 .ret
def wu.t3:IR:=.seq wu.t0 wu.t2
theorem wu.qw:IR.run wu.t0 C N O K (wu.fr a c) h nx =
 K (wu.fr a (I 0)) h nx:=by kernel_rfl
theorem wu.qx:IR.run wu.t1 C N O K (wu.fr a c) h nx =
 sLen a fun v1=>yc .gtr .int v1 (I 256) fun v2=>C.fn 96 (.of 96) [v2,(I 5)] h nx fun v3 h4 n5=>C.fn 136 (.of 136) [a,(.fn 137 (.of 137) [])] h4 n5 fun v6 h7 n8=>C.fn 96 (.of 96) [v6,(I 3)] h7 n8 fun v9 hV nV=>yX 1 2 [(I 0)] [(0,1,v3),(1,1,v9)] hV nV fun vC h13 n14=>C.fn 94 (.of 94) [vC] h13 n14 fun vF hB nB=>K (wu.fr a vF) hB nB:=by kernel_rfl
theorem wu.tab:T.get none (.of 134) tbl=some wu:=by kernel_rfl
theorem wu.bind (k:T AV->OP):zY wu.params [a0] wu.init k=k (wu.fr a0 .undef):=by kernel_rfl
theorem wu.yx:wu.body=wu.t3:=by kernel_rfl
theorem wu.go:zW tbl N C (.of 134) [a0] h nx K0=IR.run wu.t3 C N (fnO wu.res K0) (jm wu.res K0) (wu.fr a0 .undef) h nx:=by
 rw [zL wu.tab,wu.bind,wu.yx];kernel_rfl
theorem wu.ret:jm wu.res K0 (wu.fr a c) h nx=K0 c h nx:=by kernel_rfl
def wo.t0:IR:=.reg [.q (.of 1) (.mv (.c (.bool false)))]
def wo.t1:IR:=.reg [.s (.mv (.t (.of 0))),.s (.bin .lss .int (.s 0) (.c (I (-999999999)))),.s (.mv (.s 0)),.p .push (some ((.s 0),false)) (.mv (.t (.of 0))),.p .push (some ((.s 1),false)) (.bin .gtr .int (.s 0) (.c (I 999999999))),.s (.pick (.s 2) (.c (.bool true)) (.s 0)),.q (.of 1) (.mv (.s 0))]
def wo.t2:IR:=.seq wo.t1 .ret
def wo.t3:IR:=.seq wo.t0 wo.t2
theorem wo.qw:IR.run wo.t0 C N O K (wo.fr a c) h nx =
 K (wo.fr a (.bool false)) h nx:=by kernel_rfl
theorem wo.qx:IR.run wo.t1 C N O K (wo.fr a c) h nx =
 yc .lss .int a (I (-999999999)) fun v1=>sG v1 false (fun k=>k a) fun v2=>sG v1 false (fun k=>yc .gtr .int v2 (I 999999999) k) fun v3=>jM v1 (.bool true) v3 fun v4=>K (wo.fr a v4) h nx:=by kernel_rfl
theorem wo.tab:T.get none (.of 137) tbl=some wo:=by kernel_rfl
theorem wo.bind (k:T AV->OP):zY wo.params [a0] wo.init k=k (wo.fr a0 .undef):=by kernel_rfl
theorem wo.yx:wo.body=wo.t3:=by kernel_rfl
theorem wo.go:zW tbl N C (.of 137) [a0] h nx K0=IR.run wo.t3 C N (fnO wo.res K0) (jm wo.res K0) (wo.fr a0 .undef) h nx:=by
 rw [zL wo.tab,wo.bind,wo.yx];kernel_rfl
theorem wo.ret:jm wo.res K0 (wo.fr a c) h nx=K0 c h nx:=by kernel_rfl
def F57.t0:IR:=.reg [.q (.of 1) (.mv (.c (I 0)))]
def F57.t1:IR:=.reg [.s (.mv (.t (.of 0))),.s (.len (.s 0)),.q (.of 2) (.bin .gtr .int (.s 0) (.c (I 256)))]
def F57.t2:IR:=.reg [.q (.of 1) (.mv (.c (I 5)))]
def F57.t3:IR:=.seq F57.t2 .ret
def F57.t4:IR:=.cond (.t (.of 2)) F57.t3 .skip
def F57.t5:IR:=.seq F57.t1 F57.t4
def F57.t6:IR:=.reg [.s (.mv (.t (.of 0))),.w .push none (.call (.c (.fn 59 (.of 59) [])) [(.s 0)]),.q (.of 1) (.mv (.s 0))]
def F57.t7:IR:=.seq F57.t6 .ret
def F57.t8:IR:=.seq F57.t5 F57.t7
def F57.t9:IR:=.seq F57.t0 F57.t8
theorem F57.qw:IR.run F57.t0 C N O K (F57.fr a c d) h nx =
 K (F57.fr a (I 0) d) h nx:=by kernel_rfl
theorem F57.qx:IR.run F57.t1 C N O K (F57.fr a c d) h nx =
 sLen a fun v1=>yc .gtr .int v1 (I 256) fun v2=>K (F57.fr a c v2) h nx:=by kernel_rfl
theorem F57.bC:IR.run F57.t2 C N O K (F57.fr a c d) h nx =
 K (F57.fr a (I 5) d) h nx:=by kernel_rfl
theorem F57.v2:Arg.ev (.t (.of 2)) ⟨(F57.fr a c d),[]⟩=d:=by kernel_rfl
theorem F57.sO:IR.run F57.t6 C N O K (F57.fr a c d) h nx =
 C.fn 59 (.of 59) [a] h nx fun v1 h2 n3=>K (F57.fr a v1 d) h2 n3:=by kernel_rfl
theorem F57.tab:T.get none (.of 57) tbl=some F57:=by kernel_rfl
theorem F57.bind (k:T AV->OP):zY F57.params [a0] F57.init k=k (F57.fr a0 .undef .undef):=by kernel_rfl
theorem F57.yx:F57.body=F57.t9:=by kernel_rfl
theorem F57.go:zW tbl N C (.of 57) [a0] h nx K0=IR.run F57.t9 C N (fnO F57.res K0) (jm F57.res K0) (F57.fr a0 .undef .undef) h nx:=by
 rw [zL F57.tab,F57.bind,F57.yx];kernel_rfl
theorem F57.ret:jm F57.res K0 (F57.fr a c d) h nx=K0 c h nx:=by kernel_rfl
def F59.t0:IR:=.reg [.q (.of 1) (.mv (.c (I 0)))]
def F59.t1:IR:=.reg [.q (.of 2) (.mv (.c (I 0)))]
def F59.t2:IR:=.reg [.s (.mv (.t (.of 2))),.s (.mv (.t (.of 0))),.s (.len (.s 0)),.q (.of 3) (.bin .lss .int (.s 2) (.s 0))]
def F59.t3:IR:=.cond (.t (.of 3)) .skip (.exit 0)
def F59.t4:IR:=.seq F59.t2 F59.t3
def F59.r3_1:List RO:=.p .push (some ((.s 2),false)) (.zx 1 (.s 1) (.s 0))::.p .push (some ((.s 3),false)) (.load (.s 0))::.p .push (some ((.s 4),false)) (.bin .gtr .int (.s 0) (.c (I 999999999)))::.q (.of 4) (.pick (.s 5) (.c (.bool true)) (.s 0))::[]
def F59.r3_0:List RO:=.s (.mv (.t (.of 0)))::.s (.mv (.t (.of 2)))::.s (.zx 1 (.s 1) (.s 0))::.s (.load (.s 0))::.s (.bin .lss .int (.s 0) (.c (I (-999999999))))::.s (.mv (.s 0))::.p .push (some ((.s 0),false)) (.mv (.t (.of 0)))::.p .push (some ((.s 1),false)) (.mv (.t (.of 2)))::F59.r3_1
def F59.t5:IR:=.reg F59.r3_0
def F59.t6:IR:=.reg [.q (.of 1) (.mv (.c (I 3)))]
def F59.t7:IR:=.seq F59.t6 .ret
def F59.t8:IR:=.cond (.t (.of 4)) F59.t7 .skip
def F59.t9:IR:=.seq F59.t5 F59.t8
def F59.t10:IR:=.block 1 F59.t9
def F59.t11:IR:=.reg [.s (.mv (.t (.of 2))),.s (.bin .add .int (.s 0) (.c (I 1))),.q (.of 2) (.mv (.s 0))]
def F59.t12:IR:=.seq F59.t10 F59.t11
def F59.t13:IR:=.seq F59.t4 F59.t12
def F59.t14:IR:=.loop F59.t13
def F59.t15:IR:=.block 0 F59.t14
def F59.t16:IR:=.seq F59.t1 F59.t15
def F59.t17:IR:=.reg [.q (.of 1) (.mv (.c (I 0)))]
def F59.t18:IR:=.seq F59.t17 .ret
def F59.t19:IR:=.seq F59.t16 F59.t18
def F59.t20:IR:=.seq F59.t0 F59.t19
theorem F59.qw:IR.run F59.t0 C N O K (F59.fr a c d f e) h nx =
 K (F59.fr a (I 0) d f e) h nx:=by kernel_rfl
theorem F59.qx:IR.run F59.t1 C N O K (F59.fr a c d f e) h nx =
 K (F59.fr a c (I 0) f e) h nx:=by kernel_rfl
theorem F59.bC:IR.run F59.t2 C N O K (F59.fr a c d f e) h nx =
 sLen a fun v1=>yc .lss .int d v1 fun v2=>K (F59.fr a c d v2 e) h nx:=by kernel_rfl
theorem F59.v3:Arg.ev (.t (.of 3)) ⟨(F59.fr a c d f e),[]⟩=f:=by kernel_rfl
theorem F59.t5_s:IR.run F59.t5 C N O K tm h nx=jF F59.r3_0 C ⟨tm,[]⟩ h nx (fun tm h nx=>K tm.v h nx):=xF ..
theorem F59.zsb:jF (.s (.mv (.t (.of 0)))::.s (.mv (.t (.of 2)))::.s (.zx 1 (.s 1) (.s 0))::.s (.load (.s 0))::.s (.bin .lss .int (.s 0) (.c (I (-999999999))))::.s (.mv (.s 0))::.p .push (some ((.s 0),false)) (.mv (.t (.of 0)))::.p .push (some ((.s 1),false)) (.mv (.t (.of 2)))::r) C ⟨(F59.fr a c d f e),[]⟩ h nx Kt =
 zX 1 a d fun v1=>zF v1 h fun v2=>yc .lss .int v2 (I (-999999999)) fun v3=>sG v3 false (fun k=>k a) fun v4=>sG v3 false (fun k=>k d) fun v5=>jF r C ⟨(F59.fr a c d f e),v5::v4::v3::v3::v2::v1::d::a::[]⟩ h nx Kt:=by kernel_rfl
theorem F59.zls:jF (.p .push (some ((.s 2),false)) (.zx 1 (.s 1) (.s 0))::.p .push (some ((.s 3),false)) (.load (.s 0))::.p .push (some ((.s 4),false)) (.bin .gtr .int (.s 0) (.c (I 999999999)))::.q (.of 4) (.pick (.s 5) (.c (.bool true)) (.s 0))::[]) C ⟨(F59.fr a c d f e),s0::s1::s2::s3::s4::s5::s6::s7::[]⟩ h nx Kt =
 sG s2 false (fun k=>zX 1 s1 s0 k) fun v1=>sG s2 false (fun k=>zF v1 h k) fun v2=>sG s2 false (fun k=>yc .gtr .int v2 (I 999999999) k) fun v3=>jM s2 (.bool true) v3 fun v4=>Kt ⟨(F59.fr a c d f v4),v3::v2::v1::s0::s1::s2::s3::s4::s5::s6::s7::[]⟩ h nx:=by kernel_rfl
theorem F59.sO:IR.run F59.t6 C N O K (F59.fr a c d f e) h nx =
 K (F59.fr a (I 3) d f e) h nx:=by kernel_rfl
theorem F59.v4:Arg.ev (.t (.of 4)) ⟨(F59.fr a c d f e),[]⟩=e:=by kernel_rfl
theorem F59.zad:IR.run F59.t11 C N O K (F59.fr a c d f e) h nx =
 yc .add .int d (I 1) fun v1=>K (F59.fr a c v1 f e) h nx:=by kernel_rfl
theorem F59.zlt (Inv:Nat->AV->T Blk->Pa->Prop) {m:Nat} (hm:m<N) (hi:Inv m d h nx)
  (step:∀ (m:Nat) (z1 z2 z3 z4:AV) (h:T Blk) (nx:Pa) (R:Ks Prop),Inv m z2 h nx->(∀ (m':Nat) (w1 w2 w3 w4:AV) (h':T Blk) (nx':Pa),m'<m->Inv m' w2 h' nx'->R (F59.fr a w1 w2 w3 w4) h' nx'=.ok True)->IR.run F59.t13 C N O R (F59.fr a z1 z2 z3 z4) h nx=.ok True) :
  IR.run F59.t14 C N O K (F59.fr a c d f e) h nx=.ok True:=by
 rw [F59.t14];refine yM (fun m tm h nx=>∃ z1 z2 z3 z4,tm=(F59.fr a z1 z2 z3 z4)/\Inv m z2 h nx) ?_ hm ⟨_,_,_,_,rfl,hi⟩;rintro m tm h nx R ⟨z1,z2,z3,z4,rfl,hi⟩ hR;exact step m z1 z2 z3 z4 h nx R hi fun m' w1 w2 w3 w4 h' nx' hlt hi'=>hR m' _ h' nx' hlt ⟨_,_,_,_,rfl,hi'⟩
theorem F59.rU:IR.run F59.t17 C N O K (F59.fr a c d f e) h nx =
 K (F59.fr a (I 0) d f e) h nx:=by kernel_rfl
theorem F59.tab:T.get none (.of 59) tbl=some F59:=by kernel_rfl
theorem F59.bind (k:T AV->OP):zY F59.params [a0] F59.init k=k (F59.fr a0 .undef .undef .undef .undef):=by kernel_rfl
theorem F59.yx:F59.body=F59.t20:=by kernel_rfl
theorem F59.go:zW tbl N C (.of 59) [a0] h nx K0=IR.run F59.t20 C N (fnO F59.res K0) (jm F59.res K0) (F59.fr a0 .undef .undef .undef .undef) h nx:=by
 rw [zL F59.tab,F59.bind,F59.yx];kernel_rfl
theorem F59.ret:jm F59.res K0 (F59.fr a c d f e) h nx=K0 c h nx:=by kernel_rfl
def F41.t0:IR:=.reg [.q (.of 1) (.mv (.c (I 0)))]
def F41.t1:IR:=.reg [.q (.of 2) (.mv (.c (I 0)))]
def F41.t2:IR:=.reg [.s (.mv (.t (.of 2))),.s (.mv (.t (.of 0))),.s (.len (.s 0)),.q (.of 3) (.bin .lss .int (.s 2) (.s 0))]
def F41.t3:IR:=.cond (.t (.of 3)) .skip (.exit 0)
def F41.t4:IR:=.seq F41.t2 F41.t3
def F41.t5:IR:=.reg [.s (.mv (.t (.of 0))),.s (.mv (.t (.of 2))),.s (.zx 1 (.s 1) (.s 0)),.s (.load (.s 0)),.q (.of 4) (.bin .neq .int (.s 0) (.c (I 0)))]
def F41.t6:IR:=.reg [.s (.mv (.t (.of 0))),.s (.mv (.t (.of 2))),.s (.zx 1 (.s 1) (.s 0)),.s (.load (.s 0)),.q (.of 1) (.mv (.s 0))]
def F41.t7:IR:=.seq F41.t6 .ret
def F41.t8:IR:=.cond (.t (.of 4)) F41.t7 .skip
def F41.t9:IR:=.seq F41.t5 F41.t8
def F41.t10:IR:=.block 1 F41.t9
def F41.t11:IR:=.reg [.s (.mv (.t (.of 2))),.s (.bin .add .int (.s 0) (.c (I 1))),.q (.of 2) (.mv (.s 0))]
def F41.t12:IR:=.seq F41.t10 F41.t11
def F41.t13:IR:=.seq F41.t4 F41.t12
def F41.t14:IR:=.loop F41.t13
def F41.t15:IR:=.block 0 F41.t14
def F41.t16:IR:=.seq F41.t1 F41.t15
def F41.t17:IR:=.reg [.q (.of 1) (.mv (.c (I 0)))]
def F41.t18:IR:=.seq F41.t17 .ret
def F41.t19:IR:=.seq F41.t16 F41.t18
def F41.t20:IR:=.seq F41.t0 F41.t19
theorem F41.qw:IR.run F41.t0 C N O K (F41.fr a c d f e) h nx =
 K (F41.fr a (I 0) d f e) h nx:=by kernel_rfl
theorem F41.qx:IR.run F41.t1 C N O K (F41.fr a c d f e) h nx =
 K (F41.fr a c (I 0) f e) h nx:=by kernel_rfl
theorem F41.bC:IR.run F41.t2 C N O K (F41.fr a c d f e) h nx =
 sLen a fun v1=>yc .lss .int d v1 fun v2=>K (F41.fr a c d v2 e) h nx:=by kernel_rfl
theorem F41.v3:Arg.ev (.t (.of 3)) ⟨(F41.fr a c d f e),[]⟩=f:=by kernel_rfl
theorem F41.t5_s:IR.run F41.t5 C N O K (F41.fr a c d f e) h nx =
 zX 1 a d fun v1=>zF v1 h fun v2=>yc .neq .int v2 (I 0) fun v3=>K (F41.fr a c d f v3) h nx:=by kernel_rfl
theorem F41.sO:IR.run F41.t6 C N O K (F41.fr a c d f e) h nx =
 zX 1 a d fun v1=>zF v1 h fun v2=>K (F41.fr a v2 d f e) h nx:=by kernel_rfl
theorem F41.v4:Arg.ev (.t (.of 4)) ⟨(F41.fr a c d f e),[]⟩=e:=by kernel_rfl
theorem F41.zad:IR.run F41.t11 C N O K (F41.fr a c d f e) h nx =
 yc .add .int d (I 1) fun v1=>K (F41.fr a c v1 f e) h nx:=by kernel_rfl
theorem F41.zlt (Inv:Nat->AV->T Blk->Pa->Prop) {m:Nat} (hm:m<N) (hi:Inv m d h nx)
  (step:∀ (m:Nat) (z1 z2 z3 z4:AV) (h:T Blk) (nx:Pa) (R:Ks Prop),Inv m z2 h nx->(∀ (m':Nat) (w1 w2 w3 w4:AV) (h':T Blk) (nx':Pa),m'<m->Inv m' w2 h' nx'->R (F41.fr a w1 w2 w3 w4) h' nx'=.ok True)->IR.run F41.t13 C N O R (F41.fr a z1 z2 z3 z4) h nx=.ok True) :
  IR.run F41.t14 C N O K (F41.fr a c d f e) h nx=.ok True:=by
 rw [F41.t14];refine yM (fun m tm h nx=>∃ z1 z2 z3 z4,tm=(F41.fr a z1 z2 z3 z4)/\Inv m z2 h nx) ?_ hm ⟨_,_,_,_,rfl,hi⟩;rintro m tm h nx R ⟨z1,z2,z3,z4,rfl,hi⟩ hR;exact step m z1 z2 z3 z4 h nx R hi fun m' w1 w2 w3 w4 h' nx' hlt hi'=>hR m' _ h' nx' hlt ⟨_,_,_,_,rfl,hi'⟩
theorem F41.rU:IR.run F41.t17 C N O K (F41.fr a c d f e) h nx =
 K (F41.fr a (I 0) d f e) h nx:=by kernel_rfl
theorem F41.tab:T.get none (.of 41) tbl=some F41:=by kernel_rfl
theorem F41.bind (k:T AV->OP):zY F41.params [a0] F41.init k=k (F41.fr a0 .undef .undef .undef .undef):=by kernel_rfl
theorem F41.yx:F41.body=F41.t20:=by kernel_rfl
theorem F41.go:zW tbl N C (.of 41) [a0] h nx K0=IR.run F41.t20 C N (fnO F41.res K0) (jm F41.res K0) (F41.fr a0 .undef .undef .undef .undef) h nx:=by
 rw [zL F41.tab,F41.bind,F41.yx];kernel_rfl
theorem F41.ret:jm F41.res K0 (F41.fr a c d f e) h nx=K0 c h nx:=by kernel_rfl
def F51.t0:IR:=.reg [.q (.of 1) (.mv (.c (.bool false)))]
def F51.r1_1:List RO:=.s (.mv (.s 0))::.p .push (some ((.s 0),false)) (.mv (.t (.of 0)))::.p .push (some ((.s 1),false)) (.len (.s 0))::.p .push (some ((.s 2),false)) (.bin .gtr .int (.s 0) (.c (I 260)))::.s (.pick (.s 3) (.c (.bool true)) (.s 0))::.q (.of 1) (.mv (.s 0))::[]
def F51.r1_0:List RO:=.s (.mv (.t (.of 0)))::.s (.len (.s 0))::.s (.bin .gtr .int (.s 0) (.c (I 16)))::.s (.mv (.s 0))::.p .push (some ((.s 0),true)) (.mv (.t (.of 0)))::.p .push (some ((.s 1),true)) (.len (.s 0))::.p .push (some ((.s 2),true)) (.bin .lss .int (.s 0) (.c (I 250)))::.s (.pick (.s 3) (.s 0) (.c (.bool false)))::F51.r1_1
def F51.t1:IR:=.reg F51.r1_0
def F51.t2:IR:=.seq F51.t1 .ret
def F51.t3:IR:=.seq F51.t0 F51.t2
theorem F51.qw:IR.run F51.t0 C N O K (F51.fr a c) h nx =
 K (F51.fr a (.bool false)) h nx:=by kernel_rfl
theorem F51.qx:IR.run F51.t1 C N O K tm h nx=jF F51.r1_0 C ⟨tm,[]⟩ h nx (fun tm h nx=>K tm.v h nx):=xF ..
theorem F51.zgy:jF (.s (.mv (.t (.of 0)))::.s (.len (.s 0))::.s (.bin .gtr .int (.s 0) (.c (I 16)))::.s (.mv (.s 0))::.p .push (some ((.s 0),true)) (.mv (.t (.of 0)))::.p .push (some ((.s 1),true)) (.len (.s 0))::.p .push (some ((.s 2),true)) (.bin .lss .int (.s 0) (.c (I 250)))::.s (.pick (.s 3) (.s 0) (.c (.bool false)))::r) C ⟨(F51.fr a c),[]⟩ h nx Kt =
 sLen a fun v1=>yc .gtr .int v1 (I 16) fun v2=>sG v2 true (fun k=>k a) fun v3=>sG v2 true (fun k=>sLen v3 k) fun v4=>sG v2 true (fun k=>yc .lss .int v4 (I 250) k) fun v5=>jM v2 v5 (.bool false) fun v6=>jF r C ⟨(F51.fr a c),v6::v5::v4::v3::v2::v2::v1::a::[]⟩ h nx Kt:=by kernel_rfl
theorem F51.zdo:jF (.s (.mv (.s 0))::.p .push (some ((.s 0),false)) (.mv (.t (.of 0)))::.p .push (some ((.s 1),false)) (.len (.s 0))::.p .push (some ((.s 2),false)) (.bin .gtr .int (.s 0) (.c (I 260)))::.s (.pick (.s 3) (.c (.bool true)) (.s 0))::.q (.of 1) (.mv (.s 0))::[]) C ⟨(F51.fr a c),s0::s1::s2::s3::s4::s5::s6::s7::[]⟩ h nx Kt =
 sG s0 false (fun k=>k a) fun v1=>sG s0 false (fun k=>sLen v1 k) fun v2=>sG s0 false (fun k=>yc .gtr .int v2 (I 260) k) fun v3=>jM s0 (.bool true) v3 fun v4=>Kt ⟨(F51.fr a v4),v4::v3::v2::v1::s0::s0::s1::s2::s3::s4::s5::s6::s7::[]⟩ h nx:=by kernel_rfl
theorem F51.tab:T.get none (.of 51) tbl=some F51:=by kernel_rfl
theorem F51.bind (k:T AV->OP):zY F51.params [a0] F51.init k=k (F51.fr a0 .undef):=by kernel_rfl
theorem F51.yx:F51.body=F51.t3:=by kernel_rfl
theorem F51.go:zW tbl N C (.of 51) [a0] h nx K0=IR.run F51.t3 C N (fnO F51.res K0) (jm F51.res K0) (F51.fr a0 .undef) h nx:=by
 rw [zL F51.tab,F51.bind,F51.yx];kernel_rfl
theorem F51.ret:jm F51.res K0 (F51.fr a c) h nx=K0 c h nx:=by kernel_rfl
end
end Go.Ev
namespace Go.Ev
open Go Go.Proofs
set_option maxRecDepth 100000
section
variable {N:Nat} {C:Calls Prop} {K0:Kw Prop} {K:Ks Prop} {h:T Blk} {nx:Pa} {a c d f e i o a0 a1 a2 a3:AV} {O:qg Prop} {tm:T AV} {Kt:KTm} {r:List RO} {s0 s1 s2 s3 s4 s5 s6 s7 s8 s9 s10 s11 s12 s13 s14 s15 s16 s17 s18 s19 s20 s21 s22 s23 s24 s25 s26 s27 s28 s29 s30 s31 s32 s33 s34 s35 s36 s37 s38 s39 s40 s41 s42 s43 s44 s45 s46 s47 s48 s49 s50 s51 s52 s53 s54 s55 s56 s57 s58 s59:AV}
def F60.t0:IR:=.reg [.q (.of 4) (.mv (.c (.bool false)))]
def F60.t1:IR:=.reg [.s (.mv (.t (.of 2))),.q (.of 5) (.bin .neq .int (.s 0) (.c (I 0)))]
def F60.t2:IR:=.reg [.s (.mv (.t (.of 0))),.s (.len (.s 0)),.s (.bin .eql .int (.s 0) (.c (I 0))),.s (.mv (.s 0)),.p .push (some ((.s 0),true)) (.mv (.t (.of 1))),.p .push (some ((.s 1),true)) (.mv (.t (.of 2))),.p .push (some ((.s 2),true)) (.bin .eql .int (.s 1) (.s 0)),.s (.pick (.s 3) (.s 0) (.c (.bool false))),.q (.of 4) (.mv (.s 0))]
def F60.t3:IR:=.seq F60.t2 .ret
def F60.t4:IR:=.cond (.t (.of 5)) F60.t3 .skip
def F60.t5:IR:=.seq F60.t1 F60.t4
def F60.t6:IR:=.reg [.s (.mv (.t (.of 1))),.s (.bin .eql .int (.s 0) (.c (I 0))),.s (.mv (.s 0)),.p .push (some ((.s 0),true)) (.mv (.t (.of 0))),.p .push (some ((.s 1),true)) (.mv (.t (.of 3))),.w .push (some ((.s 2),true)) (.call (.c (.fn 82 (.of 82) [])) [(.s 1),(.s 0)]),.s (.pick (.s 3) (.s 0) (.c (.bool false))),.q (.of 4) (.mv (.s 0))]
def F60.t7:IR:=.seq F60.t6 .ret
def F60.t8:IR:=.seq F60.t5 F60.t7
def F60.t9:IR:=.seq F60.t0 F60.t8
theorem F60.qw:IR.run F60.t0 C N O K (F60.fr a c d f e i) h nx =
 K (F60.fr a c d f (.bool false) i) h nx:=by kernel_rfl
theorem F60.qx:IR.run F60.t1 C N O K (F60.fr a c d f e i) h nx =
 yc .neq .int d (I 0) fun v1=>K (F60.fr a c d f e v1) h nx:=by kernel_rfl
theorem F60.bC:IR.run F60.t2 C N O K (F60.fr a c d f e i) h nx =
 sLen a fun v1=>yc .eql .int v1 (I 0) fun v2=>sG v2 true (fun k=>k c) fun v3=>sG v2 true (fun k=>k d) fun v4=>sG v2 true (fun k=>yc .eql .int v3 v4 k) fun v5=>jM v2 v5 (.bool false) fun v6=>K (F60.fr a c d f v6 i) h nx:=by kernel_rfl
theorem F60.v5:Arg.ev (.t (.of 5)) ⟨(F60.fr a c d f e i),[]⟩=i:=by kernel_rfl
theorem F60.sO:IR.run F60.t6 C N O K (F60.fr a c d f e i) h nx =
 yc .eql .int c (I 0) fun v1=>sG v1 true (fun k=>k a) fun v2=>sG v1 true (fun k=>k f) fun v3=>sGW v1 true (fun k=>C.fn 82 (.of 82) [v2,v3] h nx k) h nx fun v4 h5 n6=>jM v1 v4 (.bool false) fun v7=>K (F60.fr a c d f v7 i) h5 n6:=by kernel_rfl
theorem F60.tab:T.get none (.of 60) tbl=some F60:=by kernel_rfl
theorem F60.bind (k:T AV->OP):zY F60.params [a0,a1,a2,a3] F60.init k=k (F60.fr a0 a1 a2 a3 .undef .undef):=by kernel_rfl
theorem F60.yx:F60.body=F60.t9:=by kernel_rfl
theorem F60.go:zW tbl N C (.of 60) [a0,a1,a2,a3] h nx K0=IR.run F60.t9 C N (fnO F60.res K0) (jm F60.res K0) (F60.fr a0 a1 a2 a3 .undef .undef) h nx:=by
 rw [zL F60.tab,F60.bind,F60.yx];kernel_rfl
theorem F60.ret:jm F60.res K0 (F60.fr a c d f e i) h nx=K0 e h nx:=by kernel_rfl
end
end Go.Ev
namespace Go.Ev
open Go Go.Proofs
set_option maxRecDepth 100000
section
variable {N:Nat} {C:Calls Prop} {K0:Kw Prop} {K:Ks Prop} {h:T Blk} {nx:Pa} {a c d f e i o p s u b g l q v w a0 a1 a2 a3:AV} {O:qg Prop} {tm:T AV} {Kt:KTm} {r:List RO} {s0 s1 s2 s3 s4 s5 s6 s7 s8 s9 s10 s11 s12 s13 s14 s15 s16 s17 s18 s19 s20 s21 s22 s23 s24 s25 s26 s27 s28 s29 s30 s31 s32 s33 s34 s35 s36 s37 s38 s39 s40 s41 s42 s43 s44 s45 s46 s47 s48 s49 s50 s51 s52 s53 s54 s55 s56 s57 s58 s59:AV}
def F62.t0:IR:=.reg [.w (.loc (.of 4)) none (.box (.t (.of 0))),.w (.loc (.of 5)) none (.box (.t (.of 3))),.q (.of 6) (.mv (.c (.bool false)))]
def F62.t1:IR:=.reg [.s (.mv (.t (.of 2))),.q (.of 7) (.bin .neq .int (.s 0) (.c (I 0)))]
def F62.r2_1:List RO:=.s (.pick (.s 3) (.s 0) (.c (.bool false)))::.s (.mv (.s 0))::.p .push (some ((.s 0),true)) (.mv (.t (.of 1)))::.p .push (some ((.s 1),true)) (.mv (.t (.of 2)))::.p .push (some ((.s 2),true)) (.bin .eql .int (.s 1) (.s 0))::.s (.pick (.s 3) (.s 0) (.c (.bool false)))::.q (.of 6) (.mv (.s 0))::[]
def F62.r2_0:List RO:=.s (.zu 0 (.t (.of 4)))::.s (.load (.s 0))::.s (.len (.s 0))::.s (.bin .eql .int (.s 0) (.c (I 0)))::.s (.mv (.s 0))::.p .push (some ((.s 0),true)) (.zu 1 (.t (.of 4)))::.p .push (some ((.s 1),true)) (.load (.s 0))::.p .push (some ((.s 2),true)) (.not (.s 0))::F62.r2_1
def F62.t2:IR:=.reg F62.r2_0
def F62.t3:IR:=.seq F62.t2 .ret
def F62.t4:IR:=.cond (.t (.of 7)) F62.t3 .skip
def F62.t5:IR:=.seq F62.t1 F62.t4
def F62.t6:IR:=.reg [.s (.mv (.t (.of 1))),.s (.bin .eql .int (.s 0) (.c (I 0))),.s (.mv (.s 0)),.p .push (some ((.s 0),true)) (.zh 2 (.t (.of 4))),.p .push (some ((.s 1),true)) (.zh 2 (.t (.of 5))),.w .push (some ((.s 2),true)) (.call (.c (.fn 30 (.of 30) [])) [(.s 1),(.s 0)]),.s (.pick (.s 3) (.s 0) (.c (.bool false))),.q (.of 6) (.mv (.s 0))]
def F62.t7:IR:=.seq F62.t6 .ret
def F62.t8:IR:=.seq F62.t5 F62.t7
def F62.t9:IR:=.seq F62.t0 F62.t8
theorem F62.qw:IR.run F62.t0 C N O K (F62.fr a c d f e i o p) h nx =
 bW a h nx fun v1 h2 n3=>bW f h2 n3 fun v4 h5 n6=>K (F62.fr a c d f v1 v4 (.bool false) p) h5 n6:=by kernel_rfl
theorem F62.qx:IR.run F62.t1 C N O K (F62.fr a c d f e i o p) h nx =
 yc .neq .int d (I 0) fun v1=>K (F62.fr a c d f e i o v1) h nx:=by kernel_rfl
theorem F62.bC:IR.run F62.t2 C N O K tm h nx=jF F62.r2_0 C ⟨tm,[]⟩ h nx (fun tm h nx=>K tm.v h nx):=xF ..
theorem F62.zsc:jF (.s (.zu 0 (.t (.of 4)))::.s (.load (.s 0))::.s (.len (.s 0))::.s (.bin .eql .int (.s 0) (.c (I 0)))::.s (.mv (.s 0))::.p .push (some ((.s 0),true)) (.zu 1 (.t (.of 4)))::.p .push (some ((.s 1),true)) (.load (.s 0))::.p .push (some ((.s 2),true)) (.not (.s 0))::r) C ⟨(F62.fr a c d f e i o p),[]⟩ h nx Kt =
 zS 0 e fun v1=>zF v1 h fun v2=>sLen v2 fun v3=>yc .eql .int v3 (I 0) fun v4=>sG v4 true (fun k=>zS 1 e k) fun v5=>sG v4 true (fun k=>zF v5 h k) fun v6=>sG v4 true (fun k=>aV v6 k) fun v7=>jF r C ⟨(F62.fr a c d f e i o p),v7::v6::v5::v4::v4::v3::v2::v1::[]⟩ h nx Kt:=by kernel_rfl
theorem F62.zsd:jF (.s (.pick (.s 3) (.s 0) (.c (.bool false)))::.s (.mv (.s 0))::.p .push (some ((.s 0),true)) (.mv (.t (.of 1)))::.p .push (some ((.s 1),true)) (.mv (.t (.of 2)))::.p .push (some ((.s 2),true)) (.bin .eql .int (.s 1) (.s 0))::.s (.pick (.s 3) (.s 0) (.c (.bool false)))::.q (.of 6) (.mv (.s 0))::[]) C ⟨(F62.fr a c d f e i o p),s0::s1::s2::s3::s4::s5::s6::s7::[]⟩ h nx Kt =
 jM s3 s0 (.bool false) fun v1=>sG v1 true (fun k=>k c) fun v2=>sG v1 true (fun k=>k d) fun v3=>sG v1 true (fun k=>yc .eql .int v2 v3 k) fun v4=>jM v1 v4 (.bool false) fun v5=>Kt ⟨(F62.fr a c d f e i v5 p),v5::v4::v3::v2::v1::v1::s0::s1::s2::s3::s4::s5::s6::s7::[]⟩ h nx:=by kernel_rfl
theorem F62.v7:Arg.ev (.t (.of 7)) ⟨(F62.fr a c d f e i o p),[]⟩=p:=by kernel_rfl
theorem F62.sO:IR.run F62.t6 C N O K (F62.fr a c d f e i o p) h nx =
 yc .eql .int c (I 0) fun v1=>sG v1 true (fun k=>zH 2 e h k) fun v2=>sG v1 true (fun k=>zH 2 i h k) fun v3=>sGW v1 true (fun k=>C.fn 30 (.of 30) [v2,v3] h nx k) h nx fun v4 h5 n6=>jM v1 v4 (.bool false) fun v7=>K (F62.fr a c d f e i v7 p) h5 n6:=by kernel_rfl
theorem F62.tab:T.get none (.of 62) tbl=some F62:=by kernel_rfl
theorem F62.bind (k:T AV->OP):zY F62.params [a0,a1,a2,a3] F62.init k=k (F62.fr a0 a1 a2 a3 .undef .undef .undef .undef):=by kernel_rfl
theorem F62.yx:F62.body=F62.t9:=by kernel_rfl
theorem F62.go:zW tbl N C (.of 62) [a0,a1,a2,a3] h nx K0=IR.run F62.t9 C N (fnO F62.res K0) (jm F62.res K0) (F62.fr a0 a1 a2 a3 .undef .undef .undef .undef) h nx:=by
 rw [zL F62.tab,F62.bind,F62.yx];kernel_rfl
theorem F62.ret:jm F62.res K0 (F62.fr a c d f e i o p) h nx=K0 o h nx:=by kernel_rfl
end
end Go.Ev
namespace Go.Ev
open Go Go.Proofs
set_option maxRecDepth 100000
section
variable {N:Nat} {C:Calls Prop} {K0:Kw Prop} {K:Ks Prop} {h:T Blk} {nx:Pa} {a c d f e i o p s u b g l q v w y z a0 a1 a2:AV} {O:qg Prop} {tm:T AV} {Kt:KTm} {r:List RO} {s0 s1 s2 s3 s4 s5 s6 s7 s8 s9 s10 s11 s12 s13 s14 s15 s16 s17 s18 s19 s20 s21 s22 s23 s24 s25 s26 s27 s28 s29 s30 s31 s32 s33 s34 s35 s36 s37 s38 s39 s40 s41 s42 s43 s44 s45 s46 s47 s48 s49 s50 s51 s52 s53 s54 s55 s56 s57 s58 s59:AV}
def zo.t0:IR:=.reg [.q (.of 3) (.mv (.c .gy)),.w (.loc (.of 4)) none (.alloc [.zi,.zi]),.q (.of 5) (.mv (.c (I 0)))]
def zo.t1:IR:=.reg [.w (.loc (.of 6)) none (.alloc [.zi,.zi])]
def zo.t2:IR:=.reg [.s (.mv (.t (.of 0))),.s (.mv (.t (.of 2))),.w .push none (.call (.c (.fn 92 (.of 92) [])) [(.s 1),(.s 0)]),.s (.mv (.s 0)),.s (.ext 0 (.s 0)),.s (.ext 1 (.s 1)),.s (.ext 2 (.s 2)),.q (.of 7) (.mv (.s 2)),.q (.of 8) (.mv (.s 1)),.q (.of 9) (.mv (.s 0))]
def zo.t3:IR:=.reg [.s (.mv (.t (.of 9))),.q (.of 13) (.bin .neq .int (.s 0) (.c (I 0)))]
def zo.t4:IR:=.yw [] [(.s (.zh 2 (.t (.of 6))),0,[]),(.s (.mv (.t (.of 9))),1,[]),(.q (.of 3) (.mv (.c .gy)),0,[]),(.w .none none (.store 2 (.t (.of 4)) (.s 1)),0,[]),(.q (.of 5) (.mv (.s 0)),0,[])]
def zo.t5:IR:=.seq zo.t4 .ret
def zo.t6:IR:=.cond (.t (.of 13)) zo.t5 .skip
def zo.t7:IR:=.seq zo.t3 zo.t6
def zo.t8:IR:=.reg [.s (.mv (.t (.of 1))),.s (.mv (.t (.of 2))),.w .push none (.call (.c (.fn 92 (.of 92) [])) [(.s 1),(.s 0)]),.s (.mv (.s 0)),.s (.ext 0 (.s 0)),.s (.ext 1 (.s 1)),.s (.ext 2 (.s 2)),.q (.of 10) (.mv (.s 2)),.q (.of 11) (.mv (.s 1)),.q (.of 9) (.mv (.s 0))]
def zo.t9:IR:=.reg [.s (.mv (.t (.of 9))),.q (.of 14) (.bin .neq .int (.s 0) (.c (I 0)))]
def zo.t10:IR:=.yw [] [(.s (.zh 2 (.t (.of 6))),0,[]),(.s (.mv (.t (.of 9))),1,[]),(.q (.of 3) (.mv (.c .gy)),0,[]),(.w .none none (.store 2 (.t (.of 4)) (.s 1)),0,[]),(.q (.of 5) (.mv (.s 0)),0,[])]
def zo.t11:IR:=.seq zo.t10 .ret
def zo.t12:IR:=.cond (.t (.of 14)) zo.t11 .skip
def zo.t13:IR:=.seq zo.t9 zo.t12
def zo.t14:IR:=.reg [.s (.mv (.t (.of 10))),.w (.loc (.of 15)) none (.range (.s 0))]
def zo.t15:IR:=.reg [.w .push none (.next (.t (.of 15))),.q (.of 16) (.ext 0 (.s 0))]
def zo.t16:IR:=.cond (.t (.of 16)) .skip (.exit 0)
def zo.t17:IR:=.reg [.s (.entry (.t (.of 15))),.s (.ext 1 (.s 0)),.w (.loc (.of 12)) none (.alloc [.zi,(.bool false)]),.w .none none (.store 2 (.t (.of 12)) (.s 0))]
def zo.t18:IR:=.reg [.s (.mv (.t (.of 7))),.s (.zh 2 (.t (.of 12))),.w .push none (.call (.c (.fn 121 (.of 121) [])) [(.s 1),(.s 0)]),.q (.of 17) (.not (.s 0))]
def zo.t19:IR:=.yw [] [(.s (.zh 2 (.t (.of 6))),0,[]),(.q (.of 3) (.mv (.c .gy)),0,[]),(.w .none none (.store 2 (.t (.of 4)) (.s 0)),0,[]),(.q (.of 5) (.mv (.c (I 28))),0,[])]
def zo.t20:IR:=.seq zo.t19 .ret
def zo.t21:IR:=.cond (.t (.of 17)) zo.t20 .skip
def zo.t22:IR:=.seq zo.t18 zo.t21
def zo.t23:IR:=.seq zo.t17 zo.t22
def zo.t24:IR:=.block 1 zo.t23
def zo.t25:IR:=.seq zo.t16 zo.t24
def zo.t26:IR:=.seq zo.t15 zo.t25
def zo.t27:IR:=.loop zo.t26
def zo.t28:IR:=.block 0 zo.t27
def zo.t29:IR:=.seq zo.t14 zo.t28
def zo.t30:IR:=.reg [.s (.mv (.t (.of 8))),.s (.mv (.t (.of 11))),.s (.tK 1 2 (.t (.of 6)) (.c (I 0))),.w .none none (.store 1 (.s 0) (.s 2)),.s (.tK 1 2 (.t (.of 6)) (.c (I 1))),.w .none none (.store 1 (.s 0) (.s 2))]
def zo.t31:IR:=.yw [] [(.s (.mv (.t (.of 10))),0,[]),(.s (.zh 2 (.t (.of 6))),0,[]),(.q (.of 3) (.mv (.s 1)),0,[]),(.w .none none (.store 2 (.t (.of 4)) (.s 0)),0,[]),(.q (.of 5) (.mv (.c (I 0))),0,[])]
def zo.t32:IR:=.seq zo.t31 .ret
def zo.t33:IR:=.seq zo.t30 zo.t32
def zo.t34:IR:=.seq zo.t29 zo.t33
def zo.t35:IR:=.seq zo.t13 zo.t34
def zo.t36:IR:=.seq zo.t8 zo.t35
def zo.t37:IR:=.seq zo.t7 zo.t36
def zo.t38:IR:=.seq zo.t2 zo.t37
def zo.t39:IR:=.seq zo.t1 zo.t38
def zo.t40:IR:=.seq zo.t0 zo.t39
theorem zo.qw:IR.run zo.t0 C N O K (zo.fr a c d f e i o p s u b g l q v w y z) h nx =
 yK [.zi,.zi] h nx fun v1 h2 n3=>K (zo.fr a c d .gy v1 (I 0) o p s u b g l q v w y z) h2 n3:=by kernel_rfl
theorem zo.qx:IR.run zo.t1 C N O K (zo.fr a c d f e i o p s u b g l q v w y z) h nx =
 yK [.zi,.zi] h nx fun v1 h2 n3=>K (zo.fr a c d f e i v1 p s u b g l q v w y z) h2 n3:=by kernel_rfl
theorem zo.bC:IR.run zo.t2 C N O K (zo.fr a c d f e i o p s u b g l q v w y z) h nx =
 C.fn 92 (.of 92) [a,d] h nx fun v1 h2 n3=>bg 0 v1 fun v4=>bg 1 v1 fun v5=>bg 2 v1 fun v6=>K (zo.fr a c d f e i o v4 v5 v6 b g l q v w y z) h2 n3:=by kernel_rfl
theorem zo.fV:IR.run zo.t3 C N O K (zo.fr a c d f e i o p s u b g l q v w y z) h nx =
 yc .neq .int u (I 0) fun v1=>K (zo.fr a c d f e i o p s u b g l v1 v w y z) h nx:=by kernel_rfl
theorem zo.t4_s:IR.run zo.t4 C N O K (zo.fr a c d f e i o p s u b g l q v w y z) h nx =
 zH 2 o h fun v1=>zP 2 e v1 h nx fun v2 h3 n4=>zO u u (K (zo.fr a c d .gy e u o p s u b g l q v w y z) h3 n4):=by kernel_rfl
theorem zo.v13:Arg.ev (.t (.of 13)) ⟨(zo.fr a c d f e i o p s u b g l q v w y z),[]⟩=q:=by kernel_rfl
theorem zo.rV:IR.run zo.t8 C N O K (zo.fr a c d f e i o p s u b g l q v w y z) h nx =
 C.fn 92 (.of 92) [c,d] h nx fun v1 h2 n3=>bg 0 v1 fun v4=>bg 1 v1 fun v5=>bg 2 v1 fun v6=>K (zo.fr a c d f e i o p s v6 v4 v5 l q v w y z) h2 n3:=by kernel_rfl
theorem zo.rE:IR.run zo.t9 C N O K (zo.fr a c d f e i o p s u b g l q v w y z) h nx =
 yc .neq .int u (I 0) fun v1=>K (zo.fr a c d f e i o p s u b g l q v1 w y z) h nx:=by kernel_rfl
theorem zo.rC:IR.run zo.t10 C N O K (zo.fr a c d f e i o p s u b g l q v w y z) h nx =
 zH 2 o h fun v1=>zP 2 e v1 h nx fun v2 h3 n4=>zO u u (K (zo.fr a c d .gy e u o p s u b g l q v w y z) h3 n4):=by kernel_rfl
theorem zo.v14:Arg.ev (.t (.of 14)) ⟨(zo.fr a c d f e i o p s u b g l q v w y z),[]⟩=v:=by kernel_rfl
theorem zo.aS:IR.run zo.t14 C N O K (zo.fr a c d f e i o p s u b g l q v w y z) h nx =
 zdp b h nx fun v1 h2 n3=>K (zo.fr a c d f e i o p s u b g l q v v1 y z) h2 n3:=by kernel_rfl
theorem zo.rW:IR.run zo.t15 C N O K (zo.fr a c d f e i o p s u b g l q v w y z) h nx =
 ziq C w h nx fun v1 h2 n3=>bg 0 v1 fun v4=>K (zo.fr a c d f e i o p s u b g l q v w v4 z) h2 n3:=by kernel_rfl
theorem zo.v16:Arg.ev (.t (.of 16)) ⟨(zo.fr a c d f e i o p s u b g l q v w y z),[]⟩=y:=by kernel_rfl
theorem zo.rU:IR.run zo.t17 C N O K (zo.fr a c d f e i o p s u b g l q v w y z) h nx =
 zdq w h fun v1=>bg 1 v1 fun v2=>yK [.zi,(.bool false)] h nx fun v3 h4 n5=>zP 2 v3 v2 h4 n5 fun v6 h7 n8=>K (zo.fr a c d f e i o p s u b g v3 q v w y z) h7 n8:=by kernel_rfl
theorem zo.zae:IR.run zo.t18 C N O K (zo.fr a c d f e i o p s u b g l q v w y z) h nx =
 zH 2 l h fun v1=>C.fn 121 (.of 121) [p,v1] h nx fun v2 h3 n4=>aV v2 fun v5=>K (zo.fr a c d f e i o p s u b g l q v w y v5) h3 n4:=by kernel_rfl
theorem zo.zaf:IR.run zo.t19 C N O K (zo.fr a c d f e i o p s u b g l q v w y z) h nx =
 zH 2 o h fun v1=>zP 2 e v1 h nx fun v2 h3 n4=>K (zo.fr a c d .gy e (I 28) o p s u b g l q v w y z) h3 n4:=by kernel_rfl
theorem zo.v17:Arg.ev (.t (.of 17)) ⟨(zo.fr a c d f e i o p s u b g l q v w y z),[]⟩=z:=by kernel_rfl
theorem zo.zt4 (Inv:Nat->T Blk->Pa->Prop) {m:Nat} (hm:m<N) (hi:Inv m h nx)
  (step:∀ (m:Nat) (z3 z5 zC zQ zR:AV) (h:T Blk) (nx:Pa) (R:Ks Prop),Inv m h nx->(∀ (m':Nat) (w3 w5 wC wL wM:AV) (h':T Blk) (nx':Pa),m'<m->Inv m' h' nx'->R (zo.fr a c d w3 e w5 o p s u b g wC q v w wL wM) h' nx'=.ok True)->IR.run zo.t26 C N O R (zo.fr a c d z3 e z5 o p s u b g zC q v w zQ zR) h nx=.ok True) :
  IR.run zo.t27 C N O K (zo.fr a c d f e i o p s u b g l q v w y z) h nx=.ok True:=by
 rw [zo.t27];refine yM (fun m tm h nx=>∃ z3 z5 zC zQ zR,tm=(zo.fr a c d z3 e z5 o p s u b g zC q v w zQ zR)/\Inv m h nx) ?_ hm ⟨_,_,_,_,_,rfl,hi⟩;rintro m tm h nx R ⟨z3,z5,zC,zQ,zR,rfl,hi⟩ hR;exact step m z3 z5 zC zQ zR h nx R hi fun m' w3 w5 wC wL wM h' nx' hlt hi'=>hR m' _ h' nx' hlt ⟨_,_,_,_,_,rfl,hi'⟩
theorem zo.zcj:IR.run zo.t30 C N O K (zo.fr a c d f e i o p s u b g l q v w y z) h nx =
 dK 1 2 o (I 0) fun v1=>zP 1 v1 s h nx fun v2 h3 n4=>dK 1 2 o (I 1) fun v5=>zP 1 v5 g h3 n4 fun v6 h7 n8=>K (zo.fr a c d f e i o p s u b g l q v w y z) h7 n8:=by kernel_rfl
theorem zo.ze0:IR.run zo.t31 C N O K (zo.fr a c d f e i o p s u b g l q v w y z) h nx =
 zH 2 o h fun v1=>zP 2 e v1 h nx fun v2 h3 n4=>K (zo.fr a c d b e (I 0) o p s u b g l q v w y z) h3 n4:=by kernel_rfl
theorem zo.tab:T.get none (.of 120) tbl=some zo:=by kernel_rfl
theorem zo.bind (k:T AV->OP):zY zo.params [a0,a1,a2] zo.init k=k (zo.fr a0 a1 a2 .undef .undef .undef .undef .undef .undef .undef .undef .undef .undef .undef .undef .undef .undef .undef):=by kernel_rfl
theorem zo.yx:zo.body=zo.t40:=by kernel_rfl
theorem zo.go:zW tbl N C (.of 120) [a0,a1,a2] h nx K0=IR.run zo.t40 C N (fnO zo.res K0) (jm zo.res K0) (zo.fr a0 a1 a2 .undef .undef .undef .undef .undef .undef .undef .undef .undef .undef .undef .undef .undef .undef .undef) h nx:=by
 rw [zL zo.tab,zo.bind,zo.yx];kernel_rfl
theorem zo.ret:jm zo.res K0 (zo.fr a c d f e i o p s u b g l q v w y z) h nx=zH 2 e h fun v1=>K0 (.tup [f,v1,i]) h nx:=by kernel_rfl
def F27.t0:IR:=.reg [.q (.of 2) (.mv (.c .zi)),.q (.of 3) (.mv (.c (I 0)))]
def F27.t1:IR:=.reg [.s (.mv (.t (.of 1))),.w .push none (.call (.c (.fn 95 (.of 95) [])) [(.s 0)]),.s (.mv (.t (.of 0))),.s (.len (.s 0)),.s (.bin .gtr .int (.s 0) (.c (I 256))),.w .push none (.call (.c (.fn 96 (.of 96) [])) [(.s 0),(.c (I 5))]),.w .push none (.yg 1 2 [(I 0)] [(0,1,(.s 4)),(1,1,(.s 0))]),.w .push none (.call (.c (.fn 94 (.of 94) [])) [(.s 0)]),.q (.of 4) (.mv (.s 0))]
def F27.t2:IR:=.reg [.s (.mv (.t (.of 4))),.q (.of 8) (.bin .neq .int (.s 0) (.c (I 0)))]
def F27.t3:IR:=.reg [.s (.mv (.t (.of 4))),.q (.of 2) (.mv (.c .zi)),.q (.of 3) (.mv (.s 0))]
def F27.t4:IR:=.seq F27.t3 .ret
def F27.t5:IR:=.cond (.t (.of 8)) F27.t4 .skip
def F27.t6:IR:=.seq F27.t2 F27.t5
def F27.t7:IR:=.seq F27.t1 F27.t6
def F27.t8:IR:=.reg [.s (.mv (.t (.of 0))),.s (.mv (.t (.of 1))),.w .push none (.call (.c (.fn 97 (.of 97) [])) [(.s 1),(.s 0)]),.q (.of 5) (.mv (.s 0))]
def F27.t9:IR:=.reg [.s (.mv (.t (.of 5))),.q (.of 9) (.bin .neq .int (.s 0) (.c (I 0)))]
def F27.t10:IR:=.reg [.s (.mv (.t (.of 5))),.q (.of 2) (.mv (.c .zi)),.q (.of 3) (.mv (.s 0))]
def F27.t11:IR:=.seq F27.t10 .ret
def F27.t12:IR:=.cond (.t (.of 9)) F27.t11 .skip
def F27.t13:IR:=.seq F27.t9 F27.t12
def F27.t14:IR:=.seq F27.t8 F27.t13
def F27.t15:IR:=.reg [.s (.mv (.t (.of 0))),.s (.mv (.t (.of 1))),.w .push none (.call (.c (.fn 98 (.of 98) [])) [(.s 1),(.s 0),(.c (I 1536))]),.s (.mv (.s 0)),.s (.ext 0 (.s 0)),.s (.ext 1 (.s 1)),.s (.ext 2 (.s 2)),.q (.of 6) (.mv (.s 2)),.s (.mv (.s 1)),.q (.of 7) (.mv (.s 1))]
def F27.t16:IR:=.reg [.s (.mv (.t (.of 7))),.q (.of 10) (.not (.s 0))]
def F27.t17:IR:=.reg [.q (.of 2) (.mv (.c .zi)),.q (.of 3) (.mv (.c (I 20)))]
def F27.t18:IR:=.seq F27.t17 .ret
def F27.t19:IR:=.cond (.t (.of 10)) F27.t18 .skip
def F27.t20:IR:=.seq F27.t16 F27.t19
def F27.t21:IR:=.reg [.s (.mv (.t (.of 6))),.w .push none (.call (.c (.fn 99 (.of 99) [])) [(.s 0)]),.q (.of 2) (.mv (.s 0)),.q (.of 3) (.mv (.c (I 0)))]
def F27.t22:IR:=.seq F27.t21 .ret
def F27.t23:IR:=.seq F27.t20 F27.t22
def F27.t24:IR:=.seq F27.t15 F27.t23
def F27.t25:IR:=.seq F27.t14 F27.t24
def F27.t26:IR:=.seq F27.t7 F27.t25
def F27.t27:IR:=.seq F27.t0 F27.t26
theorem F27.qw:IR.run F27.t0 C N O K (F27.fr a c d f e i o p s u b) h nx =
 K (F27.fr a c .zi (I 0) e i o p s u b) h nx:=by kernel_rfl
theorem F27.qx:IR.run F27.t1 C N O K (F27.fr a c d f e i o p s u b) h nx =
 C.fn 95 (.of 95) [c] h nx fun v1 h2 n3=>sLen a fun v4=>yc .gtr .int v4 (I 256) fun v5=>C.fn 96 (.of 96) [v5,(I 5)] h2 n3 fun v6 h7 n8=>yX 1 2 [(I 0)] [(0,1,v1),(1,1,v6)] h7 n8 fun v9 hV nV=>C.fn 94 (.of 94) [v9] hV nV fun vC h13 n14=>K (F27.fr a c d f vC i o p s u b) h13 n14:=by kernel_rfl
theorem F27.bC:IR.run F27.t2 C N O K (F27.fr a c d f e i o p s u b) h nx =
 yc .neq .int e (I 0) fun v1=>K (F27.fr a c d f e i o p v1 u b) h nx:=by kernel_rfl
theorem F27.fV:IR.run F27.t3 C N O K (F27.fr a c d f e i o p s u b) h nx =
 K (F27.fr a c .zi e e i o p s u b) h nx:=by kernel_rfl
theorem F27.v8:Arg.ev (.t (.of 8)) ⟨(F27.fr a c d f e i o p s u b),[]⟩=s:=by kernel_rfl
theorem F27.rV:IR.run F27.t8 C N O K (F27.fr a c d f e i o p s u b) h nx =
 C.fn 97 (.of 97) [a,c] h nx fun v1 h2 n3=>K (F27.fr a c d f e v1 o p s u b) h2 n3:=by kernel_rfl
theorem F27.rE:IR.run F27.t9 C N O K (F27.fr a c d f e i o p s u b) h nx =
 yc .neq .int i (I 0) fun v1=>K (F27.fr a c d f e i o p s v1 b) h nx:=by kernel_rfl
theorem F27.rC:IR.run F27.t10 C N O K (F27.fr a c d f e i o p s u b) h nx =
 K (F27.fr a c .zi i e i o p s u b) h nx:=by kernel_rfl
theorem F27.v9:Arg.ev (.t (.of 9)) ⟨(F27.fr a c d f e i o p s u b),[]⟩=u:=by kernel_rfl
theorem F27.rW:IR.run F27.t15 C N O K (F27.fr a c d f e i o p s u b) h nx =
 C.fn 98 (.of 98) [a,c,(I 1536)] h nx fun v1 h2 n3=>bg 0 v1 fun v4=>bg 1 v1 fun v5=>bg 2 v1 fun v6=>K (F27.fr a c d f e i v4 v6 s u b) h2 n3:=by kernel_rfl
theorem F27.fM:IR.run F27.t16 C N O K (F27.fr a c d f e i o p s u b) h nx =
 aV p fun v1=>K (F27.fr a c d f e i o p s u v1) h nx:=by kernel_rfl
theorem F27.rU:IR.run F27.t17 C N O K (F27.fr a c d f e i o p s u b) h nx =
 K (F27.fr a c .zi (I 20) e i o p s u b) h nx:=by kernel_rfl
theorem F27.v10:Arg.ev (.t (.of 10)) ⟨(F27.fr a c d f e i o p s u b),[]⟩=b:=by kernel_rfl
theorem F27.zac:IR.run F27.t21 C N O K (F27.fr a c d f e i o p s u b) h nx =
 C.fn 99 (.of 99) [o] h nx fun v1 h2 n3=>K (F27.fr a c v1 (I 0) e i o p s u b) h2 n3:=by kernel_rfl
theorem F27.tab:T.get none (.of 27) tbl=some F27:=by kernel_rfl
theorem F27.bind (k:T AV->OP):zY F27.params [a0,a1] F27.init k=k (F27.fr a0 a1 .undef .undef .undef .undef .undef .undef .undef .undef .undef):=by kernel_rfl
theorem F27.yx:F27.body=F27.t27:=by kernel_rfl
theorem F27.go:zW tbl N C (.of 27) [a0,a1] h nx K0=IR.run F27.t27 C N (fnO F27.res K0) (jm F27.res K0) (F27.fr a0 a1 .undef .undef .undef .undef .undef .undef .undef .undef .undef) h nx:=by
 rw [zL F27.tab,F27.bind,F27.yx];kernel_rfl
theorem F27.ret:jm F27.res K0 (F27.fr a c d f e i o p s u b) h nx=K0 (.tup [d,f]) h nx:=by kernel_rfl
end
end Go.Ev
namespace Go.Ev
open Go Go.Proofs
set_option maxRecDepth 100000
variable {N:Nat} {C:Calls Prop} {K0:Kw Prop} {K R:Ks Prop} {h:T Blk} {nx:Pa} {a c d f e i o a0 a1 a2 p s u b g l q v w y z A B D E F G H:AV}
theorem F99.fA (X2:IR) (O:qg Prop) (t:T AV):IR.run (F99.g1 X2) C N O K t h nx=IR.run X2 C N (O.blk 0 K) K t h nx:=by kernel_rfl
theorem F99.zlr (X8:IR) (O:qg Prop) (t:T AV):IR.run (F99.g7 X8) C N O K t h nx=IR.run X8 C N (O.blk 2 K) K t h nx:=by kernel_rfl
theorem F99.tab:T.get none (.of 99) tbl=some F99:=by kernel_rfl
theorem F99.go:zW tbl N C (.of 99) [a0] h nx K0 =
 zdp a0 h nx fun v1 h2 n3=>IR.run F99.b1 C N (fnO F99.res K0) (IR.run F99.b6 C N (fnO F99.res K0) (jm F99.res K0)) (F99.fr a0 .zi .zi .undef .undef .undef v1 .undef .undef .undef .undef .undef) h2 n3:=by
 rw [zL F99.tab];kernel_rfl
theorem F99.L1 (Inv:Nat->AV->T Blk->Pa->Prop) {m:Nat} (hm:m<N) (hi:Inv m d h nx)
  (step:∀ (m:Nat) (z2 z3 z7:AV) (h:T Blk) (nx:Pa) (R:Ks Prop),Inv m z2 h nx->(∀ (m':Nat) (w2 w3 w7:AV) (h':T Blk) (nx':Pa),m'<m->Inv m' w2 h' nx'->R (F99.fr a c w2 w3 e i o w7 s u b g) h' nx'=.ok True) ->
   (ziq C o h nx fun v1 h2 n3=>bg 0 v1 fun v4=>yN v4 (zdq o h2 fun v5=>bg 1 v5 fun v6=>yK [.zi,(.bool false)] h2 n3 fun v7 h8 n9=>zP 2 v7 v6 h8 n9 fun vA hG nG=>zH 2 v7 hG fun vD=>yX 2 1 [.zi,(.bool false)] [(0,2,vD)] hG nG fun vE hA nA=>vV C 2 32 z2 vE hA nA fun vH h18 n19=>R (F99.fr a c vH v7 e i o v4 s u b g) h18 n19) (K (F99.fr a c z2 z3 e i o v4 s u b g) h2 n3))=.ok True) :
  IR.run F99.b1 C N (fnO F99.res K0) K (F99.fr a c d f e i o p s u b g) h nx=.ok True:=by
 rw [F99.b1,F99.fA,F99.b2];refine yM (fun m tm h nx=>∃ z2 z3 z7,tm=(F99.fr a c z2 z3 e i o z7 s u b g)/\Inv m z2 h nx) ?_ hm ⟨_,_,_,rfl,hi⟩;rintro m tm h nx R ⟨z2,z3,z7,rfl,hi⟩ hR;refine Eq.trans ?_ (step m z2 z3 z7 h nx R hi fun m' w2 w3 w7 h' nx' hlt hi'=>hR m' _ h' nx' hlt ⟨_,_,_,rfl,hi'⟩)
 kernel_rfl
theorem F99.k6:IR.run F99.b6 C N (fnO F99.res K0) K (F99.fr a c d f e i o p s u b g) h nx =
 C.fn 164 (.of 164) [d,(.fn 162 (.of 162) [])] h nx fun v1 h2 n3=>sLen d fun v4=>IR.run F99.b7 C N (fnO F99.res K0) (IR.run F99.b14 C N (fnO F99.res K0) K) (F99.fr a c d f .zi i o p d v4 (I 0) g) h2 n3:=by kernel_rfl
theorem F99.L7 (Inv:Nat->AV->AV->T Blk->Pa->Prop) {m:Nat} (hm:m<N) (hi:Inv m e b h nx)
  (step:∀ (m:Nat) (z4 z5 zA zB:AV) (h:T Blk) (nx:Pa) (R:Ks Prop),Inv m z4 zA h nx->(∀ (m':Nat) (w4 w5 wA wB:AV) (h':T Blk) (nx':Pa),m'<m->Inv m' w4 wA h' nx'->R (F99.fr a c d f w4 w5 o p s u wA wB) h' nx'=.ok True) ->
   (yc .lss .int zA u fun v1=>yN v1 (zX 2 s zA fun v2=>zH 2 v2 h fun v3=>yK [.zi,(.bool false)] h nx fun v4 h5 n6=>zP 2 v4 v3 h5 n6 fun v7 h8 n9=>zH 2 v4 h8 fun vA=>yX 2 1 [.zi,(.bool false)] [(0,2,vA)] h8 n9 fun vB hH nI=>vV C 2 32 z4 vB hH nI fun vE hA nA=>yc .add .int zA (I 1) fun vH=>R (F99.fr a c d f vE v4 o p s u vH v1) hA nA) (K (F99.fr a c d f z4 z5 o p s u zA v1) h nx))=.ok True) :
  IR.run F99.b7 C N (fnO F99.res K0) K (F99.fr a c d f e i o p s u b g) h nx=.ok True:=by
 rw [F99.b7,F99.zlr,F99.b8];refine yM (fun m tm h nx=>∃ z4 z5 zA zB,tm=(F99.fr a c d f z4 z5 o p s u zA zB)/\Inv m z4 zA h nx) ?_ hm ⟨_,_,_,_,rfl,hi⟩;rintro m tm h nx R ⟨z4,z5,zA,zB,rfl,hi⟩ hR;refine Eq.trans ?_ (step m z4 z5 zA zB h nx R hi fun m' w4 w5 wA wB h' nx' hlt hi'=>hR m' _ h' nx' hlt ⟨_,_,_,_,rfl,hi'⟩)
 kernel_rfl
theorem F99.k14:IR.run F99.b14 C N (fnO F99.res K0) K (F99.fr a c d f e i o p s u b g) h nx =
 K0 e h nx:=by kernel_rfl
end Go.Ev
namespace Go.Ev
open Go Go.Proofs
set_option maxRecDepth 100000
section
variable {N:Nat} {C:Calls Prop} {K0:Kw Prop} {K:Ks Prop} {h:T Blk} {nx:Pa} {a c d f e i o p s u b g l q v w y z A B a0 a1 a2:AV} {O:qg Prop} {tm:T AV} {Kt:KTm} {r:List RO} {s0 s1 s2 s3 s4 s5 s6 s7 s8 s9 s10 s11 s12 s13 s14 s15 s16 s17 s18 s19 s20 s21 s22 s23 s24 s25 s26 s27 s28 s29 s30 s31 s32 s33 s34 s35 s36 s37 s38 s39 s40 s41 s42 s43 s44 s45 s46 s47 s48 s49 s50 s51 s52 s53 s54 s55 s56 s57 s58 s59:AV}
def F39.t0:IR:=.reg [.w (.loc (.of 3)) none (.box (.t (.of 1))),.q (.of 4) (.mv (.c .zi)),.q (.of 5) (.mv (.c (I 0)))]
def F39.t1:IR:=.reg [.s (.mv (.t (.of 0))),.s (.load (.t (.of 3))),.s (.mv (.t (.of 2))),.w .push none (.call (.c (.fn 120 (.of 120) [])) [(.s 2),(.s 1),(.s 0)]),.s (.mv (.s 0)),.s (.ext 0 (.s 0)),.s (.ext 1 (.s 1)),.s (.ext 2 (.s 2)),.w .push none (.alloc [.zi,.zi]),.s (.mv (.s 3)),.w .none none (.store 2 (.s 1) (.s 3)),.q (.of 6) (.mv (.s 2))]
def F39.t2:IR:=.reg [.s (.mv (.t (.of 6))),.q (.of 12) (.bin .neq .int (.s 0) (.c (I 0)))]
def F39.t3:IR:=.reg [.s (.mv (.t (.of 6))),.q (.of 4) (.mv (.c .zi)),.q (.of 5) (.mv (.s 0))]
def F39.t4:IR:=.seq F39.t3 .ret
def F39.t5:IR:=.cond (.t (.of 12)) F39.t4 .skip
def F39.t6:IR:=.seq F39.t2 F39.t5
def F39.t7:IR:=.seq F39.t1 F39.t6
def F39.t8:IR:=.reg [.w .push none .fO,.w (.loc (.of 7)) none (.alloc [.gy]),.w .none none (.store 1 (.t (.of 7)) (.s 0))]
def F39.t9:IR:=.reg [.w (.loc (.of 8)) none (.alloc [.zi])]
def F39.t10:IR:=.reg [.s (.mv (.t (.of 0))),.w (.loc (.of 13)) none (.call (.c (.fn 90 (.of 90) [])) [(.s 0)])]
def F39.t11:IR:=.reg [.w (.loc (.of 9)) none (.alloc [.zi,(.bool false)]),.w .none none (.store 2 (.t (.of 9)) (.t (.of 15)))]
def F39.t12:IR:=.reg [.s (.load (.t (.of 7))),.s (.zh 2 (.t (.of 9))),.w (.loc (.of 16)) none (.call (.c (.fn 121 (.of 121) [])) [(.s 1),(.s 0)])]
def F39.t13:IR:=.cond (.t (.of 16)) (.exit 1) .skip
def F39.t14:IR:=.seq F39.t12 F39.t13
def F39.t15:IR:=.reg [.s (.load (.t (.of 3))),.w (.loc (.of 17)) none (.call (.c (.fn 90 (.of 90) [])) [(.s 0)])]
def F39.t16:IR:=.reg [.w (.loc (.of 10)) none (.alloc [.zi,(.bool false)]),.w .none none (.store 2 (.t (.of 10)) (.t (.of 19)))]
def F39.t17:IR:=.reg [.s (.zh 2 (.t (.of 9))),.s (.zh 2 (.t (.of 10))),.w .push none (.call (.c (.fn 122 (.of 122) [])) [(.s 1),(.s 0)]),.w (.loc (.of 11)) none (.alloc [.zi,(.bool false)]),.w .none none (.store 2 (.t (.of 11)) (.s 0))]
def F39.t18:IR:=.yw [] [(.s (.load (.t (.of 7))),1,[]),(.s (.zh 2 (.t (.of 11))),0,[]),(.s (.zh 2 (.t (.of 11))),1,[]),(.w .push none (.call (.c (.fn 123 (.of 123) [])) [(.s 1)]),0,[]),(.w .none none (.oz .str (.s 3) (.s 0) (.s 1)),0,[])]
def F39.t19:IR:=.seq F39.t17 F39.t18
def F39.t20:IR:=.block 3 F39.t19
def F39.t21:IR:=.rf (.t (.of 17)) [(.of 18),(.of 19)] F39.t16 F39.t20
def F39.t22:IR:=.block 2 F39.t21
def F39.t23:IR:=.seq F39.t15 F39.t22
def F39.t24:IR:=.yw [] [(.s (.load (.t (.of 8))),2,[]),(.s (.zu 0 (.t (.of 9))),0,[]),(.s (.load (.s 0)),0,[]),(.s (.zu 1 (.t (.of 9))),1,[]),(.s (.load (.s 0)),1,[]),(.w .push none (.call (.c (.fn 106 (.of 106) [])) [(.s 2)]),0,[]),(.s (.build [.zi,(.bool false)] [(0,1,(.s 0)),(1,1,(.s 1))]),0,[]),(.w .push none (.yg 2 1 [.zi,(.bool false)] [(0,2,(.s 0))]),0,[]),(.w .push none (.appq 2 32 (.s 7) (.s 0)),0,[]),(.w .none none (.store 1 (.t (.of 8)) (.s 0)),0,[])]
def F39.t25:IR:=.seq F39.t23 F39.t24
def F39.t26:IR:=.seq F39.t14 F39.t25
def F39.t27:IR:=.block 1 F39.t26
def F39.t28:IR:=.rf (.t (.of 13)) [(.of 14),(.of 15)] F39.t11 F39.t27
def F39.t29:IR:=.block 0 F39.t28
def F39.t30:IR:=.seq F39.t10 F39.t29
def F39.t31:IR:=.reg [.s (.load (.t (.of 8))),.q (.of 4) (.mv (.s 0)),.q (.of 5) (.mv (.c (I 0)))]
def F39.t32:IR:=.seq F39.t31 .ret
def F39.t33:IR:=.seq F39.t30 F39.t32
def F39.t34:IR:=.seq F39.t9 F39.t33
def F39.t35:IR:=.seq F39.t8 F39.t34
def F39.t36:IR:=.seq F39.t7 F39.t35
def F39.t37:IR:=.seq F39.t0 F39.t36
theorem F39.qw:IR.run F39.t0 C N O K (F39.fr a c d f e i o p s u b g l q v w y z A B) h nx =
 bW c h nx fun v1 h2 n3=>K (F39.fr a c d v1 .zi (I 0) o p s u b g l q v w y z A B) h2 n3:=by kernel_rfl
theorem F39.qx:IR.run F39.t1 C N O K (F39.fr a c d f e i o p s u b g l q v w y z A B) h nx =
 zF f h fun v1=>C.fn 120 (.of 120) [a,v1,d] h nx fun v2 h3 n4=>bg 0 v2 fun v5=>bg 1 v2 fun v6=>bg 2 v2 fun v7=>yK [.zi,.zi] h3 n4 fun v8 h9 nH=>zP 2 v8 v6 h9 nH fun vB hH nI=>K (F39.fr a c d f e i v7 p s u b g l q v w y z A B) hH nI:=by kernel_rfl
theorem F39.bC:IR.run F39.t2 C N O K (F39.fr a c d f e i o p s u b g l q v w y z A B) h nx =
 yc .neq .int o (I 0) fun v1=>K (F39.fr a c d f e i o p s u b g v1 q v w y z A B) h nx:=by kernel_rfl
theorem F39.v12:Arg.ev (.t (.of 12)) ⟨(F39.fr a c d f e i o p s u b g l q v w y z A B),[]⟩=l:=by kernel_rfl
theorem F39.rV:IR.run F39.t8 C N O K (F39.fr a c d f e i o p s u b g l q v w y z A B) h nx =
 zab h nx fun v1 h2 n3=>yK [.gy] h2 n3 fun v4 h5 n6=>zP 1 v4 v1 h5 n6 fun v7 h8 n9=>K (F39.fr a c d f e i o v4 s u b g l q v w y z A B) h8 n9:=by kernel_rfl
theorem F39.rE:IR.run F39.t9 C N O K (F39.fr a c d f e i o p s u b g l q v w y z A B) h nx =
 yK [.zi] h nx fun v1 h2 n3=>K (F39.fr a c d f e i o p v1 u b g l q v w y z A B) h2 n3:=by kernel_rfl
theorem F39.rC:IR.run F39.t10 C N O K (F39.fr a c d f e i o p s u b g l q v w y z A B) h nx =
 C.fn 90 (.of 90) [a] h nx fun v1 h2 n3=>K (F39.fr a c d f e i o p s u b g l v1 v w y z A B) h2 n3:=by kernel_rfl
theorem F39.zad:IR.run F39.t11 C N O K (F39.fr a c d f e i o p s u b g l q v w y z A B) h nx =
 yK [.zi,(.bool false)] h nx fun v1 h2 n3=>zP 2 v1 w h2 n3 fun v4 h5 n6=>K (F39.fr a c d f e i o p s v1 b g l q v w y z A B) h5 n6:=by kernel_rfl
theorem F39.zah:IR.run F39.t12 C N O K (F39.fr a c d f e i o p s u b g l q v w y z A B) h nx =
 zF p h fun v1=>zH 2 u h fun v2=>C.fn 121 (.of 121) [v1,v2] h nx fun v3 h4 n5=>K (F39.fr a c d f e i o p s u b g l q v w v3 z A B) h4 n5:=by kernel_rfl
theorem F39.v16:Arg.ev (.t (.of 16)) ⟨(F39.fr a c d f e i o p s u b g l q v w y z A B),[]⟩=y:=by kernel_rfl
theorem F39.rW:IR.run F39.t15 C N O K (F39.fr a c d f e i o p s u b g l q v w y z A B) h nx =
 zF f h fun v1=>C.fn 90 (.of 90) [v1] h nx fun v2 h3 n4=>K (F39.fr a c d f e i o p s u b g l q v w y v2 A B) h3 n4:=by kernel_rfl
theorem F39.fM:IR.run F39.t16 C N O K (F39.fr a c d f e i o p s u b g l q v w y z A B) h nx =
 yK [.zi,(.bool false)] h nx fun v1 h2 n3=>zP 2 v1 B h2 n3 fun v4 h5 n6=>K (F39.fr a c d f e i o p s u v1 g l q v w y z A B) h5 n6:=by kernel_rfl
theorem F39.rU:IR.run F39.t17 C N O K (F39.fr a c d f e i o p s u b g l q v w y z A B) h nx =
 zH 2 u h fun v1=>zH 2 b h fun v2=>C.fn 122 (.of 122) [v1,v2] h nx fun v3 h4 n5=>yK [.zi,(.bool false)] h4 n5 fun v6 h7 n8=>zP 2 v6 v3 h7 n8 fun v9 hV nV=>K (F39.fr a c d f e i o p s u b v6 l q v w y z A B) hV nV:=by kernel_rfl
theorem F39.zae:IR.run F39.t18 C N O K (F39.fr a c d f e i o p s u b g l q v w y z A B) h nx =
 zF p h fun v1=>zH 2 g h fun v2=>zH 2 g h fun v3=>C.fn 123 (.of 123) [v2] h nx fun v4 h5 n6=>(zH 2 g h5 fun vB=>zO vB v3 ((zF p h5 fun vA=>zO vA v1 (pW .str v1 v4 v3 h5 n6 fun v7 h8 n9=>K (F39.fr a c d f e i o p s u b g l q v w y z A B) h8 n9)))):=by kernel_rfl
theorem F39.zt5:Arg.ev (.t (.of 17)) ⟨(F39.fr a c d f e i o p s u b g l q v w y z A B),[]⟩=z:=by kernel_rfl
theorem F39.zt6 {z0 z1:AV} (k:T AV->OP):zY [(.of 18),(.of 19)] [z0,z1] (F39.fr a c d f e i o p s u b g l q v w y z A B) k=k (F39.fr a c d f e i o p s u b g l q v w y z z0 z1):=by kernel_rfl
theorem F39.zt7:IR.run F39.t24 C N O K (F39.fr a c d f e i o p s u b g l q v w y z A B) h nx =
 zF s h fun v1=>zS 0 u fun v2=>zF v2 h fun v3=>zS 1 u fun v4=>zF v4 h fun v5=>C.fn 106 (.of 106) [v3] h nx fun v6 h7 n8=>(zF v4 h7 fun vM=>zO vM v5 ((zS 1 u fun vL=>zO vL v4 ((zF s h7 fun vK=>zO vK v1 (uN [.zi,(.bool false)] [(0,1,v6),(1,1,v5)] fun v9=>yX 2 1 [.zi,(.bool false)] [(0,2,v9)] h7 n8 fun vA hG nG=>(zF s hG fun vJ=>zO vJ v1 (vV C 2 32 v1 vA hG nG fun vD hI nJ=>zP 1 s vD hI nJ fun vG hF nF=>K (F39.fr a c d f e i o p s u b g l q v w y z A B) hF nF)))))))):=by kernel_rfl
theorem F39.zt8:Arg.ev (.t (.of 13)) ⟨(F39.fr a c d f e i o p s u b g l q v w y z A B),[]⟩=q:=by kernel_rfl
theorem F39.zt9 {z0 z1:AV} (k:T AV->OP):zY [(.of 14),(.of 15)] [z0,z1] (F39.fr a c d f e i o p s u b g l q v w y z A B) k=k (F39.fr a c d f e i o p s u b g l q z0 z1 y z A B):=by kernel_rfl
theorem F39.ze0:IR.run F39.t31 C N O K (F39.fr a c d f e i o p s u b g l q v w y z A B) h nx =
 zF s h fun v1=>K (F39.fr a c d f v1 (I 0) o p s u b g l q v w y z A B) h nx:=by kernel_rfl
theorem F39.tab:T.get none (.of 39) tbl=some F39:=by kernel_rfl
theorem F39.bind (k:T AV->OP):zY F39.params [a0,a1,a2] F39.init k=k (F39.fr a0 a1 a2 .undef .undef .undef .undef .undef .undef .undef .undef .undef .undef .undef .undef .undef .undef .undef .undef .undef):=by kernel_rfl
theorem F39.yx:F39.body=F39.t37:=by kernel_rfl
theorem F39.go:zW tbl N C (.of 39) [a0,a1,a2] h nx K0=IR.run F39.t37 C N (fnO F39.res K0) (jm F39.res K0) (F39.fr a0 a1 a2 .undef .undef .undef .undef .undef .undef .undef .undef .undef .undef .undef .undef .undef .undef .undef .undef .undef) h nx:=by
 rw [zL F39.tab,F39.bind,F39.yx];kernel_rfl
theorem F39.ret:jm F39.res K0 (F39.fr a c d f e i o p s u b g l q v w y z A B) h nx=K0 (.tup [e,i]) h nx:=by kernel_rfl
def F40.t0:IR:=.reg [.q (.of 3) (.mv (.c (.bool false))),.q (.of 4) (.mv (.c (I 0)))]
def F40.t1:IR:=.reg [.s (.mv (.t (.of 0))),.s (.mv (.t (.of 1))),.s (.mv (.t (.of 2))),.w .push none (.call (.c (.fn 120 (.of 120) [])) [(.s 2),(.s 1),(.s 0)]),.s (.mv (.s 0)),.s (.ext 0 (.s 0)),.s (.ext 1 (.s 1)),.s (.ext 2 (.s 2)),.w (.loc (.of 6)) none (.alloc [.zi,.zi]),.q (.of 5) (.mv (.s 2)),.w .none none (.store 2 (.t (.of 6)) (.s 1)),.q (.of 7) (.mv (.s 0))]
def F40.t2:IR:=.reg [.s (.mv (.t (.of 7))),.q (.of 10) (.bin .neq .int (.s 0) (.c (I 0)))]
def F40.t3:IR:=.reg [.s (.mv (.t (.of 7))),.q (.of 3) (.mv (.c (.bool false))),.q (.of 4) (.mv (.s 0))]
def F40.t4:IR:=.seq F40.t3 .ret
def F40.t5:IR:=.cond (.t (.of 10)) F40.t4 .skip
def F40.t6:IR:=.seq F40.t2 F40.t5
def F40.t7:IR:=.reg [.s (.tK 1 2 (.t (.of 6)) (.c (I 0))),.q (.of 11) (.load (.s 0)),.q (.of 12) (.len (.t (.of 11))),.q (.of 13) (.mv (.c (I 0)))]
def F40.t8:IR:=.reg [.q (.of 14) (.bin .lss .int (.t (.of 13)) (.t (.of 12)))]
def F40.t9:IR:=.cond (.t (.of 14)) .skip (.exit 0)
def F40.t10:IR:=.reg [.s (.zx 2 (.t (.of 11)) (.t (.of 13))),.s (.zh 2 (.s 0)),.w (.loc (.of 8)) none (.alloc [.zi,(.bool false)]),.w .none none (.store 2 (.t (.of 8)) (.s 0))]
def F40.t11:IR:=.reg [.s (.tK 1 2 (.t (.of 6)) (.c (I 1))),.q (.of 15) (.load (.s 0)),.q (.of 16) (.len (.t (.of 15))),.q (.of 17) (.mv (.c (I 0)))]
def F40.t12:IR:=.reg [.q (.of 18) (.bin .lss .int (.t (.of 17)) (.t (.of 16)))]
def F40.t13:IR:=.cond (.t (.of 18)) .skip (.exit 2)
def F40.t14:IR:=.reg [.s (.zx 2 (.t (.of 15)) (.t (.of 17))),.s (.zh 2 (.s 0)),.w (.loc (.of 9)) none (.alloc [.zi,(.bool false)]),.w .none none (.store 2 (.t (.of 9)) (.s 0))]
def F40.t15:IR:=.yw [] [(.s (.mv (.t (.of 5))),3,[]),(.s (.zh 2 (.t (.of 8))),0,[]),(.s (.zh 2 (.t (.of 9))),0,[]),(.s (.zh 2 (.t (.of 8))),1,[]),(.w .push none (.call (.c (.fn 122 (.of 122) [])) [(.s 2),(.s 1)]),0,[]),(.w .push none (.call (.c (.fn 124 (.of 124) [])) [(.s 1)]),0,[]),(.w .push none (.call (.c (.fn 122 (.of 122) [])) [(.s 1),(.s 0)]),0,[]),(.w .push none (.call (.c (.fn 121 (.of 121) [])) [(.s 6),(.s 0)]),0,[]),(.q (.of 19) (.not (.s 0)),0,[])]
def F40.t16:IR:=.reg [.q (.of 3) (.mv (.c (.bool false))),.q (.of 4) (.mv (.c (I 0)))]
def F40.t17:IR:=.seq F40.t16 .ret
def F40.t18:IR:=.cond (.t (.of 19)) F40.t17 .skip
def F40.t19:IR:=.seq F40.t15 F40.t18
def F40.t20:IR:=.seq F40.t14 F40.t19
def F40.t21:IR:=.block 3 F40.t20
def F40.t22:IR:=.reg [.s (.bin .add .int (.t (.of 17)) (.c (I 1))),.q (.of 17) (.mv (.s 0))]
def F40.t23:IR:=.seq F40.t21 F40.t22
def F40.t24:IR:=.seq F40.t13 F40.t23
def F40.t25:IR:=.seq F40.t12 F40.t24
def F40.t26:IR:=.loop F40.t25
def F40.t27:IR:=.block 2 F40.t26
def F40.t28:IR:=.seq F40.t11 F40.t27
def F40.t29:IR:=.seq F40.t10 F40.t28
def F40.t30:IR:=.block 1 F40.t29
def F40.t31:IR:=.reg [.s (.bin .add .int (.t (.of 13)) (.c (I 1))),.q (.of 13) (.mv (.s 0))]
def F40.t32:IR:=.seq F40.t30 F40.t31
def F40.t33:IR:=.seq F40.t9 F40.t32
def F40.t34:IR:=.seq F40.t8 F40.t33
def F40.t35:IR:=.loop F40.t34
def F40.t36:IR:=.block 0 F40.t35
def F40.t37:IR:=.seq F40.t7 F40.t36
def F40.t38:IR:=.reg [.q (.of 3) (.mv (.c (.bool true))),.q (.of 4) (.mv (.c (I 0)))]
def F40.t39:IR:=.seq F40.t38 .ret
def F40.t40:IR:=.seq F40.t37 F40.t39
def F40.t41:IR:=.seq F40.t6 F40.t40
def F40.t42:IR:=.seq F40.t1 F40.t41
def F40.t43:IR:=.seq F40.t0 F40.t42
theorem F40.qw:IR.run F40.t0 C N O K (F40.fr a c d f e i o p s u b g l q v w y z A B) h nx =
 K (F40.fr a c d (.bool false) (I 0) i o p s u b g l q v w y z A B) h nx:=by kernel_rfl
theorem F40.qx:IR.run F40.t1 C N O K (F40.fr a c d f e i o p s u b g l q v w y z A B) h nx =
 C.fn 120 (.of 120) [a,c,d] h nx fun v1 h2 n3=>bg 0 v1 fun v4=>bg 1 v1 fun v5=>bg 2 v1 fun v6=>yK [.zi,.zi] h2 n3 fun v7 h8 n9=>zP 2 v7 v5 h8 n9 fun vA hG nG=>K (F40.fr a c d f e v4 v7 v6 s u b g l q v w y z A B) hG nG:=by kernel_rfl
theorem F40.bC:IR.run F40.t2 C N O K (F40.fr a c d f e i o p s u b g l q v w y z A B) h nx =
 yc .neq .int p (I 0) fun v1=>K (F40.fr a c d f e i o p s u v1 g l q v w y z A B) h nx:=by kernel_rfl
theorem F40.fV:IR.run F40.t3 C N O K (F40.fr a c d f e i o p s u b g l q v w y z A B) h nx =
 K (F40.fr a c d (.bool false) p i o p s u b g l q v w y z A B) h nx:=by kernel_rfl
theorem F40.v10:Arg.ev (.t (.of 10)) ⟨(F40.fr a c d f e i o p s u b g l q v w y z A B),[]⟩=b:=by kernel_rfl
theorem F40.t7_s:IR.run F40.t7 C N O K (F40.fr a c d f e i o p s u b g l q v w y z A B) h nx =
 dK 1 2 o (I 0) fun v1=>zF v1 h fun v2=>sLen v2 fun v3=>K (F40.fr a c d f e i o p s u b v2 v3 (I 0) v w y z A B) h nx:=by kernel_rfl
theorem F40.rV:IR.run F40.t8 C N O K (F40.fr a c d f e i o p s u b g l q v w y z A B) h nx =
 yc .lss .int q l fun v1=>K (F40.fr a c d f e i o p s u b g l q v1 w y z A B) h nx:=by kernel_rfl
theorem F40.v14:Arg.ev (.t (.of 14)) ⟨(F40.fr a c d f e i o p s u b g l q v w y z A B),[]⟩=v:=by kernel_rfl
theorem F40.rC:IR.run F40.t10 C N O K (F40.fr a c d f e i o p s u b g l q v w y z A B) h nx =
 zX 2 g q fun v1=>zH 2 v1 h fun v2=>yK [.zi,(.bool false)] h nx fun v3 h4 n5=>zP 2 v3 v2 h4 n5 fun v6 h7 n8=>K (F40.fr a c d f e i o p v3 u b g l q v w y z A B) h7 n8:=by kernel_rfl
theorem F40.zad:IR.run F40.t11 C N O K (F40.fr a c d f e i o p s u b g l q v w y z A B) h nx =
 dK 1 2 o (I 1) fun v1=>zF v1 h fun v2=>sLen v2 fun v3=>K (F40.fr a c d f e i o p s u b g l q v v2 v3 (I 0) A B) h nx:=by kernel_rfl
theorem F40.zah:IR.run F40.t12 C N O K (F40.fr a c d f e i o p s u b g l q v w y z A B) h nx =
 yc .lss .int z y fun v1=>K (F40.fr a c d f e i o p s u b g l q v w y z v1 B) h nx:=by kernel_rfl
theorem F40.v18:Arg.ev (.t (.of 18)) ⟨(F40.fr a c d f e i o p s u b g l q v w y z A B),[]⟩=A:=by kernel_rfl
theorem F40.aS:IR.run F40.t14 C N O K (F40.fr a c d f e i o p s u b g l q v w y z A B) h nx =
 zX 2 w z fun v1=>zH 2 v1 h fun v2=>yK [.zi,(.bool false)] h nx fun v3 h4 n5=>zP 2 v3 v2 h4 n5 fun v6 h7 n8=>K (F40.fr a c d f e i o p s v3 b g l q v w y z A B) h7 n8:=by kernel_rfl
theorem F40.rW:IR.run F40.t15 C N O K (F40.fr a c d f e i o p s u b g l q v w y z A B) h nx =
 zH 2 s h fun v1=>zH 2 u h fun v2=>zH 2 s h fun v3=>C.fn 122 (.of 122) [v1,v2] h nx fun v4 h5 n6=>(zH 2 s h5 fun vH=>zO vH v3 (zO i i (C.fn 124 (.of 124) [v3] h5 n6 fun v7 h8 n9=>zO i i (C.fn 122 (.of 122) [v4,v7] h8 n9 fun vA hG nG=>zO i i (C.fn 121 (.of 121) [i,vA] hG nG fun vD hI nJ=>aV vD fun vG=>K (F40.fr a c d f e i o p s u b g l q v w y z A vG) hI nJ))))):=by kernel_rfl
theorem F40.fM:IR.run F40.t16 C N O K (F40.fr a c d f e i o p s u b g l q v w y z A B) h nx =
 K (F40.fr a c d (.bool false) (I 0) i o p s u b g l q v w y z A B) h nx:=by kernel_rfl
theorem F40.v19:Arg.ev (.t (.of 19)) ⟨(F40.fr a c d f e i o p s u b g l q v w y z A B),[]⟩=B:=by kernel_rfl
theorem F40.ze1:IR.run F40.t22 C N O K (F40.fr a c d f e i o p s u b g l q v w y z A B) h nx =
 yc .add .int z (I 1) fun v1=>K (F40.fr a c d f e i o p s u b g l q v w y v1 A B) h nx:=by kernel_rfl
theorem F40.zua (Inv:Nat->AV->T Blk->Pa->Prop) {m:Nat} (hm:m<N) (hi:Inv m z h nx)
  (step:∀ (m:Nat) (z3 z4 z9 zR zE zG:AV) (h:T Blk) (nx:Pa) (R:Ks Prop),Inv m zR h nx->(∀ (m':Nat) (w3 w4 w9 wM wE wF:AV) (h':T Blk) (nx':Pa),m'<m->Inv m' wM h' nx'->R (F40.fr a c d w3 w4 i o p s w9 b g l q v w y wM wE wF) h' nx'=.ok True)->IR.run F40.t25 C N O R (F40.fr a c d z3 z4 i o p s z9 b g l q v w y zR zE zG) h nx=.ok True) :
  IR.run F40.t26 C N O K (F40.fr a c d f e i o p s u b g l q v w y z A B) h nx=.ok True:=by
 rw [F40.t26];refine yM (fun m tm h nx=>∃ z3 z4 z9 zR zE zG,tm=(F40.fr a c d z3 z4 i o p s z9 b g l q v w y zR zE zG)/\Inv m zR h nx) ?_ hm ⟨_,_,_,_,_,_,rfl,hi⟩;rintro m tm h nx R ⟨z3,z4,z9,zR,zE,zG,rfl,hi⟩ hR;exact step m z3 z4 z9 zR zE zG h nx R hi fun m' w3 w4 w9 wM wE wF h' nx' hlt hi'=>hR m' _ h' nx' hlt ⟨_,_,_,_,_,_,rfl,hi'⟩
theorem F40.ze0:IR.run F40.t31 C N O K (F40.fr a c d f e i o p s u b g l q v w y z A B) h nx =
 yc .add .int q (I 1) fun v1=>K (F40.fr a c d f e i o p s u b g l v1 v w y z A B) h nx:=by kernel_rfl
theorem F40.zue (Inv:Nat->AV->T Blk->Pa->Prop) {m:Nat} (hm:m<N) (hi:Inv m q h nx)
  (step:∀ (m:Nat) (z3 z4 z8 z9 zD zT zU zQ zR zE zG:AV) (h:T Blk) (nx:Pa) (R:Ks Prop),Inv m zD h nx->(∀ (m':Nat) (w3 w4 w8 w9 wD wN wO wL wM wE wF:AV) (h':T Blk) (nx':Pa),m'<m->Inv m' wD h' nx'->R (F40.fr a c d w3 w4 i o p w8 w9 b g l wD wN wO wL wM wE wF) h' nx'=.ok True)->IR.run F40.t34 C N O R (F40.fr a c d z3 z4 i o p z8 z9 b g l zD zT zU zQ zR zE zG) h nx=.ok True) :
  IR.run F40.t35 C N O K (F40.fr a c d f e i o p s u b g l q v w y z A B) h nx=.ok True:=by
 rw [F40.t35];refine yM (fun m tm h nx=>∃ z3 z4 z8 z9 zD zT zU zQ zR zE zG,tm=(F40.fr a c d z3 z4 i o p z8 z9 b g l zD zT zU zQ zR zE zG)/\Inv m zD h nx) ?_ hm ⟨_,_,_,_,_,_,_,_,_,_,_,rfl,hi⟩;rintro m tm h nx R ⟨z3,z4,z8,z9,zD,zT,zU,zQ,zR,zE,zG,rfl,hi⟩ hR;exact step m z3 z4 z8 z9 zD zT zU zQ zR zE zG h nx R hi fun m' w3 w4 w8 w9 wD wN wO wL wM wE wF h' nx' hlt hi'=>hR m' _ h' nx' hlt ⟨_,_,_,_,_,_,_,_,_,_,_,rfl,hi'⟩
theorem F40.zuf:IR.run F40.t38 C N O K (F40.fr a c d f e i o p s u b g l q v w y z A B) h nx =
 K (F40.fr a c d (.bool true) (I 0) i o p s u b g l q v w y z A B) h nx:=by kernel_rfl
theorem F40.tab:T.get none (.of 40) tbl=some F40:=by kernel_rfl
theorem F40.bind (k:T AV->OP):zY F40.params [a0,a1,a2] F40.init k=k (F40.fr a0 a1 a2 .undef .undef .undef .undef .undef .undef .undef .undef .undef .undef .undef .undef .undef .undef .undef .undef .undef):=by kernel_rfl
theorem F40.yx:F40.body=F40.t43:=by kernel_rfl
theorem F40.go:zW tbl N C (.of 40) [a0,a1,a2] h nx K0=IR.run F40.t43 C N (fnO F40.res K0) (jm F40.res K0) (F40.fr a0 a1 a2 .undef .undef .undef .undef .undef .undef .undef .undef .undef .undef .undef .undef .undef .undef .undef .undef .undef) h nx:=by
 rw [zL F40.tab,F40.bind,F40.yx];kernel_rfl
theorem F40.ret:jm F40.res K0 (F40.fr a c d f e i o p s u b g l q v w y z A B) h nx=K0 (.tup [f,e]) h nx:=by kernel_rfl
end
end Go.Ev
namespace Go.Ev
open Go Go.Proofs
set_option maxRecDepth 100000
section
variable {N:Nat} {C:Calls Prop} {K0:Kw Prop} {K:Ks Prop} {h:T Blk} {nx:Pa} {a c d f e i o p s u a0:AV} {O:qg Prop} {tm:T AV} {Kt:KTm} {r:List RO} {s0 s1 s2 s3 s4 s5 s6 s7 s8 s9 s10 s11 s12 s13 s14 s15 s16 s17 s18 s19 s20 s21 s22 s23 s24 s25 s26 s27 s28 s29 s30 s31 s32 s33 s34 s35 s36 s37 s38 s39 s40 s41 s42 s43 s44 s45 s46 s47 s48 s49 s50 s51 s52 s53 s54 s55 s56 s57 s58 s59:AV}
def yt.t0:IR:=.reg [.w (.loc (.of 1)) none (.box (.t (.of 0))),.w (.loc (.of 2)) none (.alloc [.zi,(.bool false)])]
def yt.t1:IR:=.yw [(.alloc [.zi,(.bool false)])] [(.s (.zu 0 (.t (.of 1))),2,[]),(.s (.load (.s 0)),2,[]),(.s (.len (.s 0)),2,[(.jk 1 8 [(I 0)] (.s 0) (.s 0))]),(.s (.zu 1 (.t (.of 1))),2,[]),(.s (.load (.s 0)),2,[]),(.w .push none (.jk 1 8 [(I 0)] (.s 2) (.s 2)),0,[]),(.s (.build [.zi,(.bool false)] [(0,1,(.s 0)),(1,1,(.s 1))]),1,[]),(.w (.loc (.of 3)) none (.alloc [.zi,(.bool false)]),0,[]),(.w .none none (.store 2 (.t (.of 3)) (.s 0)),0,[])]
def yt.t2:IR:=.reg [.s (.zu 0 (.t (.of 1))),.q (.of 6) (.load (.s 0)),.q (.of 7) (.len (.t (.of 6))),.q (.of 8) (.mv (.c (I 0)))]
def yt.t3:IR:=.reg [.q (.of 9) (.bin .lss .int (.t (.of 8)) (.t (.of 7)))]
def yt.t4:IR:=.cond (.t (.of 9)) .skip (.exit 0)
def yt.t5:IR:=.reg [.s (.mv (.t (.of 8))),.s (.zx 1 (.t (.of 6)) (.t (.of 8))),.s (.load (.s 0)),.q (.of 4) (.mv (.s 2)),.q (.of 5) (.mv (.s 0))]
def yt.t6:IR:=.reg [.s (.zu 0 (.t (.of 3))),.s (.load (.s 0)),.s (.mv (.t (.of 5))),.s (.mv (.t (.of 4))),.s (.zx 1 (.s 2) (.s 1)),.w .none none (.store 1 (.s 0) (.s 1))]
def yt.t7:IR:=.seq yt.t5 yt.t6
def yt.t8:IR:=.block 1 yt.t7
def yt.t9:IR:=.reg [.s (.bin .add .int (.t (.of 8)) (.c (I 1))),.q (.of 8) (.mv (.s 0))]
def yt.t10:IR:=.seq yt.t8 yt.t9
def yt.t11:IR:=.seq yt.t4 yt.t10
def yt.t12:IR:=.seq yt.t3 yt.t11
def yt.t13:IR:=.loop yt.t12
def yt.t14:IR:=.block 0 yt.t13
def yt.t15:IR:=.seq yt.t2 yt.t14
def yt.t16:IR:=.reg [.s (.zh 2 (.t (.of 3))),.w .none none (.store 2 (.t (.of 2)) (.s 0))]
def yt.t17:IR:=.seq yt.t16 .ret
def yt.t18:IR:=.seq yt.t15 yt.t17
def yt.t19:IR:=.seq yt.t1 yt.t18
def yt.t20:IR:=.seq yt.t0 yt.t19
theorem yt.qw:IR.run yt.t0 C N O K (yt.fr a c d f e i o p s u) h nx =
 bW a h nx fun v1 h2 n3=>yK [.zi,(.bool false)] h2 n3 fun v4 h5 n6=>K (yt.fr a v1 v4 f e i o p s u) h5 n6:=by kernel_rfl
theorem yt.qx:IR.run yt.t1 C N O K (yt.fr a c d f e i o p s u) h nx =
 sChk (true&&true) (zS 0 c fun v1=>zF v1 h fun v2=>sLen v2 fun v3=>sChk (mkSl 8 v3 v3&&true) (zS 1 c fun v4=>zF v4 h fun v5=>jY 1 8 [(I 0)] v3 v3 h nx fun v6 h7 n8=>(zF v4 h7 fun vU=>zO vU v5 ((zS 1 c fun v25=>zO v25 v4 ((sLen v2 fun vO=>zO vO v3 ((zF v1 h7 fun vN=>zO vN v2 ((zS 0 c fun vM=>zO vM v1 (uN [.zi,(.bool false)] [(0,1,v6),(1,1,v5)] fun v9=>yK [.zi,(.bool false)] h7 n8 fun vA hG nG=>(uN [.zi,(.bool false)] [(0,1,v6),(1,1,v5)] fun vL=>zO vL v9 ((zF v4 hG fun vK=>zO vK v5 ((zS 1 c fun vJ=>zO vJ v4 ((sLen v2 fun vI=>zO vI v3 ((zF v1 hG fun vH=>zO vH v2 ((zS 0 c fun vG=>zO vG v1 (zP 2 vA v9 hG nG fun vD hI nJ=>K (yt.fr a c d vA e i o p s u) hI nJ)))))))))))))))))))))))):=by kernel_rfl
theorem yt.bC:IR.run yt.t2 C N O K (yt.fr a c d f e i o p s u) h nx =
 zS 0 c fun v1=>zF v1 h fun v2=>sLen v2 fun v3=>K (yt.fr a c d f e i v2 v3 (I 0) u) h nx:=by kernel_rfl
theorem yt.fV:IR.run yt.t3 C N O K (yt.fr a c d f e i o p s u) h nx =
 yc .lss .int s p fun v1=>K (yt.fr a c d f e i o p s v1) h nx:=by kernel_rfl
theorem yt.v9:Arg.ev (.t (.of 9)) ⟨(yt.fr a c d f e i o p s u),[]⟩=u:=by kernel_rfl
theorem yt.t5_s:IR.run yt.t5 C N O K (yt.fr a c d f e i o p s u) h nx =
 zX 1 o s fun v1=>zF v1 h fun v2=>K (yt.fr a c d f s v2 o p s u) h nx:=by kernel_rfl
theorem yt.sO:IR.run yt.t6 C N O K (yt.fr a c d f e i o p s u) h nx =
 zS 0 f fun v1=>zF v1 h fun v2=>zX 1 v2 i fun v3=>zP 1 v3 e h nx fun v4 h5 n6=>K (yt.fr a c d f e i o p s u) h5 n6:=by kernel_rfl
theorem yt.rE:IR.run yt.t9 C N O K (yt.fr a c d f e i o p s u) h nx =
 yc .add .int s (I 1) fun v1=>K (yt.fr a c d f e i o p v1 u) h nx:=by kernel_rfl
theorem yt.zug (Inv:Nat->AV->T Blk->Pa->Prop) {m:Nat} (hm:m<N) (hi:Inv m s h nx)
  (step:∀ (m:Nat) (z4 z5 z8 z9:AV) (h:T Blk) (nx:Pa) (R:Ks Prop),Inv m z8 h nx->(∀ (m':Nat) (w4 w5 w8 w9:AV) (h':T Blk) (nx':Pa),m'<m->Inv m' w8 h' nx'->R (yt.fr a c d f w4 w5 o p w8 w9) h' nx'=.ok True)->IR.run yt.t12 C N O R (yt.fr a c d f z4 z5 o p z8 z9) h nx=.ok True) :
  IR.run yt.t13 C N O K (yt.fr a c d f e i o p s u) h nx=.ok True:=by
 rw [yt.t13];refine yM (fun m tm h nx=>∃ z4 z5 z8 z9,tm=(yt.fr a c d f z4 z5 o p z8 z9)/\Inv m z8 h nx) ?_ hm ⟨_,_,_,_,rfl,hi⟩;rintro m tm h nx R ⟨z4,z5,z8,z9,rfl,hi⟩ hR;exact step m z4 z5 z8 z9 h nx R hi fun m' w4 w5 w8 w9 h' nx' hlt hi'=>hR m' _ h' nx' hlt ⟨_,_,_,_,rfl,hi'⟩
theorem yt.fM:IR.run yt.t16 C N O K (yt.fr a c d f e i o p s u) h nx =
 zH 2 f h fun v1=>zP 2 d v1 h nx fun v2 h3 n4=>K (yt.fr a c d f e i o p s u) h3 n4:=by kernel_rfl
theorem yt.tab:T.get none (.of 124) tbl=some yt:=by kernel_rfl
theorem yt.bind (k:T AV->OP):zY yt.params [a0] yt.init k=k (yt.fr a0 .undef .undef .undef .undef .undef .undef .undef .undef .undef):=by kernel_rfl
theorem yt.yx:yt.body=yt.t20:=by kernel_rfl
theorem yt.go:zW tbl N C (.of 124) [a0] h nx K0=IR.run yt.t20 C N (fnO yt.res K0) (jm yt.res K0) (yt.fr a0 .undef .undef .undef .undef .undef .undef .undef .undef .undef) h nx:=by
 rw [zL yt.tab,yt.bind,yt.yx];kernel_rfl
theorem yt.ret:jm yt.res K0 (yt.fr a c d f e i o p s u) h nx=zH 2 d h fun v1=>K0 v1 h nx:=by kernel_rfl
def F63.t0:IR:=.reg [.w (.loc (.of 1)) none (.box (.t (.of 0))),.w (.loc (.of 2)) none (.alloc [.zi,(.bool false)])]
def F63.t1:IR:=.yw [] [(.s (.zu 0 (.t (.of 1))),0,[]),(.s (.load (.s 0)),0,[]),(.s (.zu 1 (.t (.of 1))),1,[]),(.s (.load (.s 0)),1,[]),(.w .push none (.call (.c (.fn 141 (.of 141) [])) [(.s 2)]),0,[]),(.s (.build [.zi,(.bool false)] [(0,1,(.s 0)),(1,1,(.s 1))]),0,[]),(.w .none none (.store 2 (.t (.of 2)) (.s 0)),0,[])]
def F63.t2:IR:=.seq F63.t1 .ret
def F63.t3:IR:=.seq F63.t0 F63.t2
theorem F63.qw:IR.run F63.t0 C N O K (F63.fr a c d) h nx =
 bW a h nx fun v1 h2 n3=>yK [.zi,(.bool false)] h2 n3 fun v4 h5 n6=>K (F63.fr a v1 v4) h5 n6:=by kernel_rfl
theorem F63.qx:IR.run F63.t1 C N O K (F63.fr a c d) h nx =
 zS 0 c fun v1=>zF v1 h fun v2=>zS 1 c fun v3=>zF v3 h fun v4=>C.fn 141 (.of 141) [v2] h nx fun v5 h6 n7=>(zF v3 h6 fun vD=>zO vD v4 ((zS 1 c fun vC=>zO vC v3 (uN [.zi,(.bool false)] [(0,1,v5),(1,1,v4)] fun v8=>zP 2 d v8 h6 n7 fun v9 hV nV=>K (F63.fr a c d) hV nV)))):=by kernel_rfl
theorem F63.tab:T.get none (.of 63) tbl=some F63:=by kernel_rfl
theorem F63.bind (k:T AV->OP):zY F63.params [a0] F63.init k=k (F63.fr a0 .undef .undef):=by kernel_rfl
theorem F63.yx:F63.body=F63.t3:=by kernel_rfl
theorem F63.go:zW tbl N C (.of 63) [a0] h nx K0=IR.run F63.t3 C N (fnO F63.res K0) (jm F63.res K0) (F63.fr a0 .undef .undef) h nx:=by
 rw [zL F63.tab,F63.bind,F63.yx];kernel_rfl
theorem F63.ret:jm F63.res K0 (F63.fr a c d) h nx=zH 2 d h fun v1=>K0 v1 h nx:=by kernel_rfl
def yu.t0:IR:=.reg [.q (.of 1) (.mv (.c .zi))]
def yu.t1:IR:=.reg [.s (.mv (.t (.of 0))),.s (.len (.s 0)),.w .push none (.jk 1 8 [(I 0)] (.s 0) (.s 0)),.q (.of 2) (.mv (.s 0))]
def yu.t2:IR:=.reg [.q (.of 3) (.mv (.c (I 0)))]
def yu.t3:IR:=.reg [.s (.mv (.t (.of 3))),.s (.mv (.t (.of 0))),.s (.len (.s 0)),.q (.of 4) (.bin .lss .int (.s 2) (.s 0))]
def yu.t4:IR:=.cond (.t (.of 4)) .skip (.exit 0)
def yu.t5:IR:=.seq yu.t3 yu.t4
def yu.t6:IR:=.reg [.s (.mv (.t (.of 2))),.s (.mv (.t (.of 0))),.s (.mv (.t (.of 3))),.s (.zx 1 (.s 1) (.s 0)),.s (.load (.s 0)),.s (.mv (.t (.of 3))),.s (.zx 1 (.s 5) (.s 1)),.w .none none (.store 1 (.s 0) (.s 1))]
def yu.t7:IR:=.block 1 yu.t6
def yu.t8:IR:=.reg [.s (.mv (.t (.of 3))),.s (.bin .add .int (.s 0) (.c (I 1))),.q (.of 3) (.mv (.s 0))]
def yu.t9:IR:=.seq yu.t7 yu.t8
def yu.t10:IR:=.seq yu.t5 yu.t9
def yu.t11:IR:=.loop yu.t10
def yu.t12:IR:=.block 0 yu.t11
def yu.t13:IR:=.seq yu.t2 yu.t12
def yu.t14:IR:=.reg [.s (.mv (.t (.of 2))),.q (.of 1) (.mv (.s 0))]
def yu.t15:IR:=.seq yu.t14 .ret
def yu.t16:IR:=.seq yu.t13 yu.t15
def yu.t17:IR:=.seq yu.t1 yu.t16
def yu.t18:IR:=.seq yu.t0 yu.t17
theorem yu.qw:IR.run yu.t0 C N O K (yu.fr a c d f e) h nx =
 K (yu.fr a .zi d f e) h nx:=by kernel_rfl
theorem yu.qx:IR.run yu.t1 C N O K (yu.fr a c d f e) h nx =
 sLen a fun v1=>jY 1 8 [(I 0)] v1 v1 h nx fun v2 h3 n4=>K (yu.fr a c v2 f e) h3 n4:=by kernel_rfl
theorem yu.bC:IR.run yu.t2 C N O K (yu.fr a c d f e) h nx =
 K (yu.fr a c d (I 0) e) h nx:=by kernel_rfl
theorem yu.fV:IR.run yu.t3 C N O K (yu.fr a c d f e) h nx =
 sLen a fun v1=>yc .lss .int f v1 fun v2=>K (yu.fr a c d f v2) h nx:=by kernel_rfl
theorem yu.v4:Arg.ev (.t (.of 4)) ⟨(yu.fr a c d f e),[]⟩=e:=by kernel_rfl
theorem yu.sO:IR.run yu.t6 C N O K (yu.fr a c d f e) h nx =
 zX 1 a f fun v1=>zF v1 h fun v2=>zX 1 d v2 fun v3=>zP 1 v3 f h nx fun v4 h5 n6=>K (yu.fr a c d f e) h5 n6:=by kernel_rfl
theorem yu.rV:IR.run yu.t8 C N O K (yu.fr a c d f e) h nx =
 yc .add .int f (I 1) fun v1=>K (yu.fr a c d v1 e) h nx:=by kernel_rfl
theorem yu.zuh (Inv:Nat->AV->T Blk->Pa->Prop) {m:Nat} (hm:m<N) (hi:Inv m f h nx)
  (step:∀ (m:Nat) (z3 z4:AV) (h:T Blk) (nx:Pa) (R:Ks Prop),Inv m z3 h nx->(∀ (m':Nat) (w3 w4:AV) (h':T Blk) (nx':Pa),m'<m->Inv m' w3 h' nx'->R (yu.fr a c d w3 w4) h' nx'=.ok True)->IR.run yu.t10 C N O R (yu.fr a c d z3 z4) h nx=.ok True) :
  IR.run yu.t11 C N O K (yu.fr a c d f e) h nx=.ok True:=by
 rw [yu.t11];refine yM (fun m tm h nx=>∃ z3 z4,tm=(yu.fr a c d z3 z4)/\Inv m z3 h nx) ?_ hm ⟨_,_,rfl,hi⟩;rintro m tm h nx R ⟨z3,z4,rfl,hi⟩ hR;exact step m z3 z4 h nx R hi fun m' w3 w4 h' nx' hlt hi'=>hR m' _ h' nx' hlt ⟨_,_,rfl,hi'⟩
theorem yu.aS:IR.run yu.t14 C N O K (yu.fr a c d f e) h nx =
 K (yu.fr a d d f e) h nx:=by kernel_rfl
theorem yu.tab:T.get none (.of 141) tbl=some yu:=by kernel_rfl
theorem yu.bind (k:T AV->OP):zY yu.params [a0] yu.init k=k (yu.fr a0 .undef .undef .undef .undef):=by kernel_rfl
theorem yu.yx:yu.body=yu.t18:=by kernel_rfl
theorem yu.go:zW tbl N C (.of 141) [a0] h nx K0=IR.run yu.t18 C N (fnO yu.res K0) (jm yu.res K0) (yu.fr a0 .undef .undef .undef .undef) h nx:=by
 rw [zL yu.tab,yu.bind,yu.yx];kernel_rfl
theorem yu.ret:jm yu.res K0 (yu.fr a c d f e) h nx=K0 c h nx:=by kernel_rfl
end
end Go.Ev
namespace Go.Ev
open Go Go.Proofs
set_option maxRecDepth 100000
section
variable {N:Nat} {C:Calls Prop} {K0:Kw Prop} {K:Ks Prop} {h:T Blk} {nx:Pa} {a c d f e i o p s u b g a0 a1 a2:AV} {O:qg Prop} {tm:T AV} {Kt:KTm} {r:List RO} {s0 s1 s2 s3 s4 s5 s6 s7 s8 s9 s10 s11 s12 s13 s14 s15 s16 s17 s18 s19 s20 s21 s22 s23 s24 s25 s26 s27 s28 s29 s30 s31 s32 s33 s34 s35 s36 s37 s38 s39 s40 s41 s42 s43 s44 s45 s46 s47 s48 s49 s50 s51 s52 s53 s54 s55 s56 s57 s58 s59:AV}
end
end Go.Ev
namespace Go.Ev
open Go Go.Proofs
set_option maxRecDepth 100000
section
variable {N:Nat} {C:Calls Prop} {K0:Kw Prop} {K:Ks Prop} {h:T Blk} {nx:Pa} {a c d f e i o p s u b g l a0 a1:AV} {O:qg Prop} {tm:T AV} {Kt:KTm} {r:List RO} {s0 s1 s2 s3 s4 s5 s6 s7 s8 s9 s10 s11 s12 s13 s14 s15 s16 s17 s18 s19 s20 s21 s22 s23 s24 s25 s26 s27 s28 s29 s30 s31 s32 s33 s34 s35 s36 s37 s38 s39 s40 s41 s42 s43 s44 s45 s46 s47 s48 s49 s50 s51 s52 s53 s54 s55 s56 s57 s58 s59:AV}
end
end Go.Ev
namespace Go.Ev
open Go Go.Proofs
set_option maxRecDepth 100000
section
variable {N:Nat} {C:Calls Prop} {K0:Kw Prop} {K:Ks Prop} {h:T Blk} {nx:Pa} {a c d f e i o p s u b g l q v w a0 a1:AV} {O:qg Prop} {tm:T AV} {Kt:KTm} {r:List RO} {s0 s1 s2 s3 s4 s5 s6 s7 s8 s9 s10 s11 s12 s13 s14 s15 s16 s17 s18 s19 s20 s21 s22 s23 s24 s25 s26 s27 s28 s29 s30 s31 s32 s33 s34 s35 s36 s37 s38 s39 s40 s41 s42 s43 s44 s45 s46 s47 s48 s49 s50 s51 s52 s53 s54 s55 s56 s57 s58 s59:AV}
end
end Go.Ev
namespace Go.Ev
open Go Go.Proofs
set_option maxRecDepth 100000
section
variable {N:Nat} {C:Calls Prop} {K0:Kw Prop} {K:Ks Prop} {h:T Blk} {nx:Pa} {a c d f e i o p s u b g l q v w y z A B a0 a1:AV} {O:qg Prop} {tm:T AV} {Kt:KTm} {r:List RO} {s0 s1 s2 s3 s4 s5 s6 s7 s8 s9 s10 s11 s12 s13 s14 s15 s16 s17 s18 s19 s20 s21 s22 s23 s24 s25 s26 s27 s28 s29 s30 s31 s32 s33 s34 s35 s36 s37 s38 s39 s40 s41 s42 s43 s44 s45 s46 s47 s48 s49 s50 s51 s52 s53 s54 s55 s56 s57 s58 s59:AV}
end
end Go.Ev
namespace Go.Ev
open Go Go.Proofs
set_option maxRecDepth 100000
section
variable {N:Nat} {C:Calls Prop} {K0:Kw Prop} {K:Ks Prop} {h:T Blk} {nx:Pa} {a c d f e i o p s u b g l q a0 a1:AV} {O:qg Prop} {tm:T AV} {Kt:KTm} {r:List RO} {s0 s1 s2 s3 s4 s5 s6 s7 s8 s9 s10 s11 s12 s13 s14 s15 s16 s17 s18 s19 s20 s21 s22 s23 s24 s25 s26 s27 s28 s29 s30 s31 s32 s33 s34 s35 s36 s37 s38 s39 s40 s41 s42 s43 s44 s45 s46 s47 s48 s49 s50 s51 s52 s53 s54 s55 s56 s57 s58 s59:AV}
def F55.t0:IR:=.reg [.w (.loc (.of 1)) none (.box (.t (.of 0))),.q (.of 2) (.mv (.c (I 0))),.q (.of 3) (.mv (.c (I 0)))]
def F55.t1:IR:=.reg [.s (.zh 2 (.t (.of 1))),.s (.zu 0 (.t (.of 1))),.s (.load (.s 0)),.s (.len (.s 0)),.w .push none (.call (.c (.fn 56 (.of 56) [])) [(.s 3),(.s 0)]),.q (.of 4) (.mv (.s 0))]
def F55.t2:IR:=.reg [.s (.mv (.t (.of 4))),.q (.of 8) (.bin .neq .int (.s 0) (.c (I 0)))]
def F55.t3:IR:=.reg [.s (.mv (.t (.of 4))),.q (.of 2) (.mv (.c (I 0))),.q (.of 3) (.mv (.s 0))]
def F55.t4:IR:=.seq F55.t3 .ret
def F55.t5:IR:=.cond (.t (.of 8)) F55.t4 .skip
def F55.t6:IR:=.seq F55.t2 F55.t5
def F55.t7:IR:=.seq F55.t1 F55.t6
def F55.t8:IR:=.reg [.s (.zh 2 (.t (.of 1))),.w .push none (.call (.c (.fn 138 (.of 138) [])) [(.s 0)]),.q (.of 5) (.mv (.s 0))]
def F55.t9:IR:=.reg [.s (.zu 1 (.t (.of 1))),.q (.of 9) (.load (.s 0))]
def F55.t10:IR:=.reg [.s (.mv (.t (.of 5))),.w .push none (.yg 1 1 [(I 0)] [(0,1,(.c (I 2)))]),.w .push none (.app 1 8 (.s 1) (.s 0)),.q (.of 5) (.mv (.s 0))]
def F55.t11:IR:=.cond (.t (.of 9)) F55.t10 .skip
def F55.t12:IR:=.seq F55.t9 F55.t11
def F55.t13:IR:=.reg [.q (.of 6) (.mv (.c (I 1)))]
def F55.t14:IR:=.reg [.q (.of 10) (.mv (.t (.of 5))),.q (.of 11) (.len (.t (.of 10))),.q (.of 12) (.mv (.c (I 0)))]
def F55.t15:IR:=.reg [.q (.of 13) (.bin .lss .int (.t (.of 12)) (.t (.of 11)))]
def F55.t16:IR:=.cond (.t (.of 13)) .skip (.exit 0)
def F55.t17:IR:=.reg [.s (.zx 1 (.t (.of 10)) (.t (.of 12))),.s (.load (.s 0)),.q (.of 7) (.mv (.s 0))]
def F55.t18:IR:=.reg [.s (.mv (.t (.of 6))),.s (.mv (.t (.of 6))),.s (.mv (.t (.of 7))),.w .push none (.call (.c (.fn 139 (.of 139) [])) [(.s 1),(.s 0)]),.s (.bin .quo .int (.s 3) (.s 0)),.s (.mv (.t (.of 7))),.s (.bin .mul .int (.s 1) (.s 0)),.q (.of 6) (.mv (.s 0))]
def F55.t19:IR:=.seq F55.t17 F55.t18
def F55.t20:IR:=.block 1 F55.t19
def F55.t21:IR:=.reg [.s (.bin .add .int (.t (.of 12)) (.c (I 1))),.q (.of 12) (.mv (.s 0))]
def F55.t22:IR:=.seq F55.t20 F55.t21
def F55.t23:IR:=.seq F55.t16 F55.t22
def F55.t24:IR:=.seq F55.t15 F55.t23
def F55.t25:IR:=.loop F55.t24
def F55.t26:IR:=.block 0 F55.t25
def F55.t27:IR:=.seq F55.t14 F55.t26
def F55.t28:IR:=.reg [.s (.mv (.t (.of 6))),.q (.of 2) (.mv (.s 0)),.q (.of 3) (.mv (.c (I 0)))]
def F55.t29:IR:=.seq F55.t28 .ret
def F55.t30:IR:=.seq F55.t27 F55.t29
def F55.t31:IR:=.seq F55.t13 F55.t30
def F55.t32:IR:=.seq F55.t12 F55.t31
def F55.t33:IR:=.seq F55.t8 F55.t32
def F55.t34:IR:=.seq F55.t7 F55.t33
def F55.t35:IR:=.seq F55.t0 F55.t34
theorem F55.qw:IR.run F55.t0 C N O K (F55.fr a c d f e i o p s u b g l q) h nx =
 bW a h nx fun v1 h2 n3=>K (F55.fr a v1 (I 0) (I 0) e i o p s u b g l q) h2 n3:=by kernel_rfl
theorem F55.qx:IR.run F55.t1 C N O K (F55.fr a c d f e i o p s u b g l q) h nx =
 zH 2 c h fun v1=>zS 0 c fun v2=>zF v2 h fun v3=>sLen v3 fun v4=>C.fn 56 (.of 56) [v1,v4] h nx fun v5 h6 n7=>K (F55.fr a c d f v5 i o p s u b g l q) h6 n7:=by kernel_rfl
theorem F55.bC:IR.run F55.t2 C N O K (F55.fr a c d f e i o p s u b g l q) h nx =
 yc .neq .int e (I 0) fun v1=>K (F55.fr a c d f e i o p v1 u b g l q) h nx:=by kernel_rfl
theorem F55.fV:IR.run F55.t3 C N O K (F55.fr a c d f e i o p s u b g l q) h nx =
 K (F55.fr a c (I 0) e e i o p s u b g l q) h nx:=by kernel_rfl
theorem F55.v8:Arg.ev (.t (.of 8)) ⟨(F55.fr a c d f e i o p s u b g l q),[]⟩=s:=by kernel_rfl
theorem F55.rV:IR.run F55.t8 C N O K (F55.fr a c d f e i o p s u b g l q) h nx =
 zH 2 c h fun v1=>C.fn 138 (.of 138) [v1] h nx fun v2 h3 n4=>K (F55.fr a c d f e v2 o p s u b g l q) h3 n4:=by kernel_rfl
theorem F55.rE:IR.run F55.t9 C N O K (F55.fr a c d f e i o p s u b g l q) h nx =
 zS 1 c fun v1=>zF v1 h fun v2=>K (F55.fr a c d f e i o p s v2 b g l q) h nx:=by kernel_rfl
theorem F55.rC:IR.run F55.t10 C N O K (F55.fr a c d f e i o p s u b g l q) h nx =
 yX 1 1 [(I 0)] [(0,1,(I 2))] h nx fun v1 h2 n3=>sW 1 8 i v1 h2 n3 fun v4 h5 n6=>K (F55.fr a c d f e v4 o p s u b g l q) h5 n6:=by kernel_rfl
theorem F55.v9:Arg.ev (.t (.of 9)) ⟨(F55.fr a c d f e i o p s u b g l q),[]⟩=u:=by kernel_rfl
theorem F55.ze2:IR.run F55.t13 C N O K (F55.fr a c d f e i o p s u b g l q) h nx =
 K (F55.fr a c d f e i (I 1) p s u b g l q) h nx:=by kernel_rfl
theorem F55.aS:IR.run F55.t14 C N O K (F55.fr a c d f e i o p s u b g l q) h nx =
 sLen i fun v1=>K (F55.fr a c d f e i o p s u i v1 (I 0) q) h nx:=by kernel_rfl
theorem F55.rW:IR.run F55.t15 C N O K (F55.fr a c d f e i o p s u b g l q) h nx =
 yc .lss .int l g fun v1=>K (F55.fr a c d f e i o p s u b g l v1) h nx:=by kernel_rfl
theorem F55.v13:Arg.ev (.t (.of 13)) ⟨(F55.fr a c d f e i o p s u b g l q),[]⟩=q:=by kernel_rfl
theorem F55.rU:IR.run F55.t17 C N O K (F55.fr a c d f e i o p s u b g l q) h nx =
 zX 1 b l fun v1=>zF v1 h fun v2=>K (F55.fr a c d f e i o v2 s u b g l q) h nx:=by kernel_rfl
theorem F55.zae:IR.run F55.t18 C N O K (F55.fr a c d f e i o p s u b g l q) h nx =
 C.fn 139 (.of 139) [o,p] h nx fun v1 h2 n3=>yc .quo .int o v1 fun v4=>yc .mul .int v4 p fun v5=>K (F55.fr a c d f e i v5 p s u b g l q) h2 n3:=by kernel_rfl
theorem F55.zac:IR.run F55.t21 C N O K (F55.fr a c d f e i o p s u b g l q) h nx =
 yc .add .int l (I 1) fun v1=>K (F55.fr a c d f e i o p s u b g v1 q) h nx:=by kernel_rfl
theorem F55.zui (Inv:Nat->AV->AV->T Blk->Pa->Prop) {m:Nat} (hm:m<N) (hi:Inv m o l h nx)
  (step:∀ (m:Nat) (z6 z7 zC zD:AV) (h:T Blk) (nx:Pa) (R:Ks Prop),Inv m z6 zC h nx->(∀ (m':Nat) (w6 w7 wC wD:AV) (h':T Blk) (nx':Pa),m'<m->Inv m' w6 wC h' nx'->R (F55.fr a c d f e i w6 w7 s u b g wC wD) h' nx'=.ok True)->IR.run F55.t24 C N O R (F55.fr a c d f e i z6 z7 s u b g zC zD) h nx=.ok True) :
  IR.run F55.t25 C N O K (F55.fr a c d f e i o p s u b g l q) h nx=.ok True:=by
 rw [F55.t25];refine yM (fun m tm h nx=>∃ z6 z7 zC zD,tm=(F55.fr a c d f e i z6 z7 s u b g zC zD)/\Inv m z6 zC h nx) ?_ hm ⟨_,_,_,_,rfl,hi⟩;rintro m tm h nx R ⟨z6,z7,zC,zD,rfl,hi⟩ hR;exact step m z6 z7 zC zD h nx R hi fun m' w6 w7 wC wD h' nx' hlt hi'=>hR m' _ h' nx' hlt ⟨_,_,_,_,rfl,hi'⟩
theorem F55.zlu:IR.run F55.t28 C N O K (F55.fr a c d f e i o p s u b g l q) h nx =
 K (F55.fr a c o (I 0) e i o p s u b g l q) h nx:=by kernel_rfl
theorem F55.tab:T.get none (.of 55) tbl=some F55:=by kernel_rfl
theorem F55.bind (k:T AV->OP):zY F55.params [a0] F55.init k=k (F55.fr a0 .undef .undef .undef .undef .undef .undef .undef .undef .undef .undef .undef .undef .undef):=by kernel_rfl
theorem F55.yx:F55.body=F55.t35:=by kernel_rfl
theorem F55.go:zW tbl N C (.of 55) [a0] h nx K0=IR.run F55.t35 C N (fnO F55.res K0) (jm F55.res K0) (F55.fr a0 .undef .undef .undef .undef .undef .undef .undef .undef .undef .undef .undef .undef .undef) h nx:=by
 rw [zL F55.tab,F55.bind,F55.yx];kernel_rfl
theorem F55.ret:jm F55.res K0 (F55.fr a c d f e i o p s u b g l q) h nx=K0 (.tup [d,f]) h nx:=by kernel_rfl
def zk.t0:IR:=.reg [.w (.loc (.of 1)) none (.box (.t (.of 0))),.q (.of 2) (.mv (.c .zi))]
def zk.t1:IR:=.reg [.q (.of 3) (.mv (.c .zi))]
def zk.t2:IR:=.reg [.s (.zu 0 (.t (.of 1))),.s (.load (.s 0)),.s (.len (.s 0)),.w .push none (.jk 1 1 [(.bool false)] (.s 0) (.s 0)),.q (.of 4) (.mv (.s 0))]
def zk.t3:IR:=.reg [.s (.zu 0 (.t (.of 1))),.s (.load (.s 0)),.q (.of 8) (.len (.s 0)),.q (.of 9) (.mv (.c (I 0)))]
def zk.t4:IR:=.reg [.q (.of 10) (.bin .lss .int (.t (.of 9)) (.t (.of 8)))]
def zk.t5:IR:=.cond (.t (.of 10)) .skip (.exit 0)
def zk.t6:IR:=.reg [.s (.mv (.t (.of 9))),.q (.of 5) (.mv (.s 0))]
def zk.t7:IR:=.reg [.q (.of 6) (.mv (.c (I 0)))]
def zk.t8:IR:=.reg [.s (.mv (.t (.of 5))),.q (.of 7) (.mv (.s 0))]
def zk.t9:IR:=.reg [.s (.mv (.t (.of 4))),.s (.mv (.t (.of 7))),.s (.zx 1 (.s 1) (.s 0)),.s (.load (.s 0)),.q (.of 11) (.not (.s 0))]
def zk.t10:IR:=.cond (.t (.of 11)) .skip (.exit 2)
def zk.t11:IR:=.seq zk.t9 zk.t10
def zk.t12:IR:=.reg [.s (.mv (.t (.of 4))),.s (.mv (.t (.of 7))),.s (.zx 1 (.s 1) (.s 0)),.w .none none (.store 1 (.s 0) (.c (.bool true)))]
def zk.t13:IR:=.reg [.s (.mv (.t (.of 6))),.s (.bin .add .int (.s 0) (.c (I 1))),.q (.of 6) (.mv (.s 0))]
def zk.t14:IR:=.seq zk.t12 zk.t13
def zk.t15:IR:=.block 3 zk.t14
def zk.t16:IR:=.reg [.s (.zu 0 (.t (.of 1))),.s (.load (.s 0)),.s (.mv (.t (.of 7))),.s (.zx 1 (.s 1) (.s 0)),.s (.load (.s 0)),.q (.of 7) (.mv (.s 0))]
def zk.t17:IR:=.seq zk.t15 zk.t16
def zk.t18:IR:=.seq zk.t11 zk.t17
def zk.t19:IR:=.loop zk.t18
def zk.t20:IR:=.block 2 zk.t19
def zk.t21:IR:=.seq zk.t8 zk.t20
def zk.t22:IR:=.reg [.s (.mv (.t (.of 6))),.q (.of 12) (.bin .gtr .int (.s 0) (.c (I 0)))]
def zk.t23:IR:=.reg [.s (.mv (.t (.of 3))),.s (.mv (.t (.of 6))),.w .push none (.yg 1 1 [(I 0)] [(0,1,(.s 0))]),.w .push none (.app 1 8 (.s 2) (.s 0)),.q (.of 3) (.mv (.s 0))]
def zk.t24:IR:=.cond (.t (.of 12)) zk.t23 .skip
def zk.t25:IR:=.seq zk.t22 zk.t24
def zk.t26:IR:=.seq zk.t21 zk.t25
def zk.t27:IR:=.seq zk.t7 zk.t26
def zk.t28:IR:=.seq zk.t6 zk.t27
def zk.t29:IR:=.block 1 zk.t28
def zk.t30:IR:=.reg [.s (.bin .add .int (.t (.of 9)) (.c (I 1))),.q (.of 9) (.mv (.s 0))]
def zk.t31:IR:=.seq zk.t29 zk.t30
def zk.t32:IR:=.seq zk.t5 zk.t31
def zk.t33:IR:=.seq zk.t4 zk.t32
def zk.t34:IR:=.loop zk.t33
def zk.t35:IR:=.block 0 zk.t34
def zk.t36:IR:=.seq zk.t3 zk.t35
def zk.t37:IR:=.reg [.s (.mv (.t (.of 3))),.q (.of 2) (.mv (.s 0))]
def zk.t38:IR:=.seq zk.t37 .ret
def zk.t39:IR:=.seq zk.t36 zk.t38
def zk.t40:IR:=.seq zk.t2 zk.t39
def zk.t41:IR:=.seq zk.t1 zk.t40
def zk.t42:IR:=.seq zk.t0 zk.t41
theorem zk.qw:IR.run zk.t0 C N O K (zk.fr a c d f e i o p s u b g l) h nx =
 bW a h nx fun v1 h2 n3=>K (zk.fr a v1 .zi f e i o p s u b g l) h2 n3:=by kernel_rfl
theorem zk.qx:IR.run zk.t1 C N O K (zk.fr a c d f e i o p s u b g l) h nx =
 K (zk.fr a c d .zi e i o p s u b g l) h nx:=by kernel_rfl
theorem zk.bC:IR.run zk.t2 C N O K (zk.fr a c d f e i o p s u b g l) h nx =
 zS 0 c fun v1=>zF v1 h fun v2=>sLen v2 fun v3=>jY 1 1 [(.bool false)] v3 v3 h nx fun v4 h5 n6=>K (zk.fr a c d f v4 i o p s u b g l) h5 n6:=by kernel_rfl
theorem zk.fV:IR.run zk.t3 C N O K (zk.fr a c d f e i o p s u b g l) h nx =
 zS 0 c fun v1=>zF v1 h fun v2=>sLen v2 fun v3=>K (zk.fr a c d f e i o p v3 (I 0) b g l) h nx:=by kernel_rfl
theorem zk.t4_s:IR.run zk.t4 C N O K (zk.fr a c d f e i o p s u b g l) h nx =
 yc .lss .int u s fun v1=>K (zk.fr a c d f e i o p s u v1 g l) h nx:=by kernel_rfl
theorem zk.v10:Arg.ev (.t (.of 10)) ⟨(zk.fr a c d f e i o p s u b g l),[]⟩=b:=by kernel_rfl
theorem zk.sO:IR.run zk.t6 C N O K (zk.fr a c d f e i o p s u b g l) h nx =
 K (zk.fr a c d f e u o p s u b g l) h nx:=by kernel_rfl
theorem zk.t7_s:IR.run zk.t7 C N O K (zk.fr a c d f e i o p s u b g l) h nx =
 K (zk.fr a c d f e i (I 0) p s u b g l) h nx:=by kernel_rfl
theorem zk.rV:IR.run zk.t8 C N O K (zk.fr a c d f e i o p s u b g l) h nx =
 K (zk.fr a c d f e i o i s u b g l) h nx:=by kernel_rfl
theorem zk.rE:IR.run zk.t9 C N O K (zk.fr a c d f e i o p s u b g l) h nx =
 zX 1 e p fun v1=>zF v1 h fun v2=>aV v2 fun v3=>K (zk.fr a c d f e i o p s u b v3 l) h nx:=by kernel_rfl
theorem zk.v11:Arg.ev (.t (.of 11)) ⟨(zk.fr a c d f e i o p s u b g l),[]⟩=g:=by kernel_rfl
theorem zk.zah:IR.run zk.t12 C N O K (zk.fr a c d f e i o p s u b g l) h nx =
 zX 1 e p fun v1=>zP 1 v1 (.bool true) h nx fun v2 h3 n4=>K (zk.fr a c d f e i o p s u b g l) h3 n4:=by kernel_rfl
theorem zk.ze2:IR.run zk.t13 C N O K (zk.fr a c d f e i o p s u b g l) h nx =
 yc .add .int o (I 1) fun v1=>K (zk.fr a c d f e i v1 p s u b g l) h nx:=by kernel_rfl
theorem zk.fM:IR.run zk.t16 C N O K (zk.fr a c d f e i o p s u b g l) h nx =
 zS 0 c fun v1=>zF v1 h fun v2=>zX 1 v2 p fun v3=>zF v3 h fun v4=>K (zk.fr a c d f e i o v4 s u b g l) h nx:=by kernel_rfl
theorem zk.zlv (Inv:Nat->AV->AV->T Blk->Pa->Prop) {m:Nat} (hm:m<N) (hi:Inv m o p h nx)
  (step:∀ (m:Nat) (z6 z7 zB:AV) (h:T Blk) (nx:Pa) (R:Ks Prop),Inv m z6 z7 h nx->(∀ (m':Nat) (w6 w7 wB:AV) (h':T Blk) (nx':Pa),m'<m->Inv m' w6 w7 h' nx'->R (zk.fr a c d f e i w6 w7 s u b wB l) h' nx'=.ok True)->IR.run zk.t18 C N O R (zk.fr a c d f e i z6 z7 s u b zB l) h nx=.ok True) :
  IR.run zk.t19 C N O K (zk.fr a c d f e i o p s u b g l) h nx=.ok True:=by
 rw [zk.t19];refine yM (fun m tm h nx=>∃ z6 z7 zB,tm=(zk.fr a c d f e i z6 z7 s u b zB l)/\Inv m z6 z7 h nx) ?_ hm ⟨_,_,_,rfl,hi⟩;rintro m tm h nx R ⟨z6,z7,zB,rfl,hi⟩ hR;exact step m z6 z7 zB h nx R hi fun m' w6 w7 wB h' nx' hlt hi'=>hR m' _ h' nx' hlt ⟨_,_,_,rfl,hi'⟩
theorem zk.ze1:IR.run zk.t22 C N O K (zk.fr a c d f e i o p s u b g l) h nx =
 yc .gtr .int o (I 0) fun v1=>K (zk.fr a c d f e i o p s u b g v1) h nx:=by kernel_rfl
theorem zk.zck:IR.run zk.t23 C N O K (zk.fr a c d f e i o p s u b g l) h nx =
 yX 1 1 [(I 0)] [(0,1,o)] h nx fun v1 h2 n3=>sW 1 8 f v1 h2 n3 fun v4 h5 n6=>K (zk.fr a c d v4 e i o p s u b g l) h5 n6:=by kernel_rfl
theorem zk.v12:Arg.ev (.t (.of 12)) ⟨(zk.fr a c d f e i o p s u b g l),[]⟩=l:=by kernel_rfl
theorem zk.zcj:IR.run zk.t30 C N O K (zk.fr a c d f e i o p s u b g l) h nx =
 yc .add .int u (I 1) fun v1=>K (zk.fr a c d f e i o p s v1 b g l) h nx:=by kernel_rfl
theorem zk.zuj (Inv:Nat->AV->AV->T Blk->Pa->Prop) {m:Nat} (hm:m<N) (hi:Inv m f u h nx)
  (step:∀ (m:Nat) (z3 z5 z6 z7 z9 zA zB zC:AV) (h:T Blk) (nx:Pa) (R:Ks Prop),Inv m z3 z9 h nx->(∀ (m':Nat) (w3 w5 w6 w7 w9 wA wB wC:AV) (h':T Blk) (nx':Pa),m'<m->Inv m' w3 w9 h' nx'->R (zk.fr a c d w3 e w5 w6 w7 s w9 wA wB wC) h' nx'=.ok True)->IR.run zk.t33 C N O R (zk.fr a c d z3 e z5 z6 z7 s z9 zA zB zC) h nx=.ok True) :
  IR.run zk.t34 C N O K (zk.fr a c d f e i o p s u b g l) h nx=.ok True:=by
 rw [zk.t34];refine yM (fun m tm h nx=>∃ z3 z5 z6 z7 z9 zA zB zC,tm=(zk.fr a c d z3 e z5 z6 z7 s z9 zA zB zC)/\Inv m z3 z9 h nx) ?_ hm ⟨_,_,_,_,_,_,_,_,rfl,hi⟩;rintro m tm h nx R ⟨z3,z5,z6,z7,z9,zA,zB,zC,rfl,hi⟩ hR;exact step m z3 z5 z6 z7 z9 zA zB zC h nx R hi fun m' w3 w5 w6 w7 w9 wA wB wC h' nx' hlt hi'=>hR m' _ h' nx' hlt ⟨_,_,_,_,_,_,_,_,rfl,hi'⟩
theorem zk.zuk:IR.run zk.t37 C N O K (zk.fr a c d f e i o p s u b g l) h nx =
 K (zk.fr a c f f e i o p s u b g l) h nx:=by kernel_rfl
theorem zk.tab:T.get none (.of 138) tbl=some zk:=by kernel_rfl
theorem zk.bind (k:T AV->OP):zY zk.params [a0] zk.init k=k (zk.fr a0 .undef .undef .undef .undef .undef .undef .undef .undef .undef .undef .undef .undef):=by kernel_rfl
theorem zk.yx:zk.body=zk.t42:=by kernel_rfl
theorem zk.go:zW tbl N C (.of 138) [a0] h nx K0=IR.run zk.t42 C N (fnO zk.res K0) (jm zk.res K0) (zk.fr a0 .undef .undef .undef .undef .undef .undef .undef .undef .undef .undef .undef .undef) h nx:=by
 rw [zL zk.tab,zk.bind,zk.yx];kernel_rfl
theorem zk.ret:jm zk.res K0 (zk.fr a c d f e i o p s u b g l) h nx=K0 d h nx:=by kernel_rfl
def jc.t0:IR:=.reg [.q (.of 2) (.mv (.c (I 0)))]
def jc.t1:IR:=.reg [.s (.mv (.t (.of 1))),.q (.of 3) (.bin .neq .int (.s 0) (.c (I 0)))]
def jc.t2:IR:=.cond (.t (.of 3)) .skip (.exit 0)
def jc.t3:IR:=.seq jc.t1 jc.t2
def jc.t4:IR:=.yw [] [(.s (.mv (.t (.of 1))),0,[]),(.s (.mv (.t (.of 0))),0,[]),(.s (.mv (.t (.of 1))),0,[]),(.s (.bin .rem .int (.s 1) (.s 0)),0,[]),(.q (.of 0) (.mv (.s 3)),0,[]),(.q (.of 1) (.mv (.s 0)),0,[])]
def jc.t5:IR:=.block 1 jc.t4
def jc.t6:IR:=.seq jc.t3 jc.t5
def jc.t7:IR:=.loop jc.t6
def jc.t8:IR:=.block 0 jc.t7
def jc.t9:IR:=.reg [.s (.mv (.t (.of 0))),.q (.of 2) (.mv (.s 0))]
def jc.t10:IR:=.seq jc.t9 .ret
def jc.t11:IR:=.seq jc.t8 jc.t10
def jc.t12:IR:=.seq jc.t0 jc.t11
theorem jc.qw:IR.run jc.t0 C N O K (jc.fr a c d f) h nx =
 K (jc.fr a c (I 0) f) h nx:=by kernel_rfl
theorem jc.qx:IR.run jc.t1 C N O K (jc.fr a c d f) h nx =
 yc .neq .int c (I 0) fun v1=>K (jc.fr a c d v1) h nx:=by kernel_rfl
theorem jc.v3:Arg.ev (.t (.of 3)) ⟨(jc.fr a c d f),[]⟩=f:=by kernel_rfl
theorem jc.t4_s:IR.run jc.t4 C N O K (jc.fr a c d f) h nx =
 yc .rem .int a c fun v1=>K (jc.fr c v1 d f) h nx:=by kernel_rfl
theorem jc.t7_L (Inv:Nat->AV->AV->T Blk->Pa->Prop) {m:Nat} (hm:m<N) (hi:Inv m a c h nx)
  (step:∀ (m:Nat) (z0 z1 z3:AV) (h:T Blk) (nx:Pa) (R:Ks Prop),Inv m z0 z1 h nx->(∀ (m':Nat) (w0 w1 w3:AV) (h':T Blk) (nx':Pa),m'<m->Inv m' w0 w1 h' nx'->R (jc.fr w0 w1 d w3) h' nx'=.ok True)->IR.run jc.t6 C N O R (jc.fr z0 z1 d z3) h nx=.ok True) :
  IR.run jc.t7 C N O K (jc.fr a c d f) h nx=.ok True:=by
 rw [jc.t7];refine yM (fun m tm h nx=>∃ z0 z1 z3,tm=(jc.fr z0 z1 d z3)/\Inv m z0 z1 h nx) ?_ hm ⟨_,_,_,rfl,hi⟩;rintro m tm h nx R ⟨z0,z1,z3,rfl,hi⟩ hR;exact step m z0 z1 z3 h nx R hi fun m' w0 w1 w3 h' nx' hlt hi'=>hR m' _ h' nx' hlt ⟨_,_,_,rfl,hi'⟩
theorem jc.rE:IR.run jc.t9 C N O K (jc.fr a c d f) h nx =
 K (jc.fr a c a f) h nx:=by kernel_rfl
theorem jc.tab:T.get none (.of 139) tbl=some jc:=by kernel_rfl
theorem jc.bind (k:T AV->OP):zY jc.params [a0,a1] jc.init k=k (jc.fr a0 a1 .undef .undef):=by kernel_rfl
theorem jc.yx:jc.body=jc.t12:=by kernel_rfl
theorem jc.go:zW tbl N C (.of 139) [a0,a1] h nx K0=IR.run jc.t12 C N (fnO jc.res K0) (jm jc.res K0) (jc.fr a0 a1 .undef .undef) h nx:=by
 rw [zL jc.tab,jc.bind,jc.yx];kernel_rfl
theorem jc.ret:jm jc.res K0 (jc.fr a c d f) h nx=K0 d h nx:=by kernel_rfl
def F64.t0:IR:=.reg [.w (.loc (.of 1)) none (.box (.t (.of 0))),.q (.of 2) (.mv (.c (I 0)))]
def F64.t1:IR:=.reg [.q (.of 3) (.mv (.c (I 1)))]
def F64.t2:IR:=.reg [.s (.zu 0 (.t (.of 1))),.s (.load (.s 0)),.w .push none (.call (.c (.fn 142 (.of 142) [])) [(.s 0)]),.q (.of 4) (.mv (.s 0))]
def F64.t3:IR:=.reg [.q (.of 5) (.mv (.c (I 0)))]
def F64.t4:IR:=.reg [.s (.mv (.t (.of 5))),.s (.mv (.t (.of 4))),.s (.len (.s 0)),.q (.of 6) (.bin .lss .int (.s 2) (.s 0))]
def F64.t5:IR:=.cond (.t (.of 6)) .skip (.exit 0)
def F64.t6:IR:=.seq F64.t4 F64.t5
def F64.t7:IR:=.yw [] [(.s (.mv (.t (.of 3))),1,[]),(.s (.mv (.t (.of 3))),0,[]),(.s (.mv (.t (.of 4))),0,[]),(.s (.mv (.t (.of 5))),0,[]),(.s (.zx 1 (.s 1) (.s 0)),0,[]),(.s (.load (.s 0)),0,[]),(.s (.len (.s 0)),0,[]),(.s (.mv (.t (.of 4))),1,[]),(.s (.mv (.t (.of 5))),1,[]),(.s (.zx 1 (.s 1) (.s 0)),1,[]),(.s (.load (.s 0)),1,[]),(.s (.len (.s 0)),1,[]),(.w .push none (.call (.c (.fn 143 (.of 143) [])) [(.s 10),(.s 5)]),0,[]),(.s (.bin .quo .int (.s 12) (.s 0)),0,[]),(.s (.bin .mul .int (.s 0) (.s 2)),0,[]),(.q (.of 3) (.mv (.s 0)),0,[])]
def F64.t8:IR:=.block 1 F64.t7
def F64.t9:IR:=.reg [.s (.mv (.t (.of 5))),.s (.bin .add .int (.s 0) (.c (I 1))),.q (.of 5) (.mv (.s 0))]
def F64.t10:IR:=.seq F64.t8 F64.t9
def F64.t11:IR:=.seq F64.t6 F64.t10
def F64.t12:IR:=.loop F64.t11
def F64.t13:IR:=.block 0 F64.t12
def F64.t14:IR:=.seq F64.t3 F64.t13
def F64.t15:IR:=.reg [.s (.zu 1 (.t (.of 1))),.s (.load (.s 0)),.s (.mv (.s 0)),.p .push (some ((.s 0),true)) (.mv (.t (.of 3))),.p .push (some ((.s 1),true)) (.bin .rem .int (.s 0) (.c (I 2))),.p .push (some ((.s 2),true)) (.bin .eql .int (.s 0) (.c (I 1))),.q (.of 7) (.pick (.s 3) (.s 0) (.c (.bool false)))]
def F64.t16:IR:=.reg [.s (.mv (.t (.of 3))),.s (.bin .mul .int (.c (I 2)) (.s 0)),.q (.of 3) (.mv (.s 0))]
def F64.t17:IR:=.cond (.t (.of 7)) F64.t16 .skip
def F64.t18:IR:=.seq F64.t15 F64.t17
def F64.t19:IR:=.reg [.s (.mv (.t (.of 3))),.q (.of 2) (.mv (.s 0))]
def F64.t20:IR:=.seq F64.t19 .ret
def F64.t21:IR:=.seq F64.t18 F64.t20
def F64.t22:IR:=.seq F64.t14 F64.t21
def F64.t23:IR:=.seq F64.t2 F64.t22
def F64.t24:IR:=.seq F64.t1 F64.t23
def F64.t25:IR:=.seq F64.t0 F64.t24
theorem F64.qw:IR.run F64.t0 C N O K (F64.fr a c d f e i o p) h nx =
 bW a h nx fun v1 h2 n3=>K (F64.fr a v1 (I 0) f e i o p) h2 n3:=by kernel_rfl
theorem F64.qx:IR.run F64.t1 C N O K (F64.fr a c d f e i o p) h nx =
 K (F64.fr a c d (I 1) e i o p) h nx:=by kernel_rfl
theorem F64.bC:IR.run F64.t2 C N O K (F64.fr a c d f e i o p) h nx =
 zS 0 c fun v1=>zF v1 h fun v2=>C.fn 142 (.of 142) [v2] h nx fun v3 h4 n5=>K (F64.fr a c d f v3 i o p) h4 n5:=by kernel_rfl
theorem F64.fV:IR.run F64.t3 C N O K (F64.fr a c d f e i o p) h nx =
 K (F64.fr a c d f e (I 0) o p) h nx:=by kernel_rfl
theorem F64.t4_s:IR.run F64.t4 C N O K (F64.fr a c d f e i o p) h nx =
 sLen e fun v1=>yc .lss .int i v1 fun v2=>K (F64.fr a c d f e i v2 p) h nx:=by kernel_rfl
theorem F64.v6:Arg.ev (.t (.of 6)) ⟨(F64.fr a c d f e i o p),[]⟩=o:=by kernel_rfl
theorem F64.t7_s:IR.run F64.t7 C N O K (F64.fr a c d f e i o p) h nx =
 zX 1 e i fun v1=>zF v1 h fun v2=>sLen v2 fun v3=>zX 1 e i fun v4=>zF v4 h fun v5=>sLen v5 fun v6=>C.fn 143 (.of 143) [f,v3] h nx fun v7 h8 n9=>(sLen v5 fun vE=>zO vE v6 ((zF v4 h8 fun vD=>zO vD v5 ((zX 1 e i fun vC=>zO vC v4 (zO i i (zO e e (zO f f (yc .quo .int f v7 fun vA=>yc .mul .int vA v6 fun vB=>K (F64.fr a c d vB e i o p) h8 n9))))))))):=by kernel_rfl
theorem F64.rE:IR.run F64.t9 C N O K (F64.fr a c d f e i o p) h nx =
 yc .add .int i (I 1) fun v1=>K (F64.fr a c d f e v1 o p) h nx:=by kernel_rfl
theorem F64.zul (Inv:Nat->AV->AV->T Blk->Pa->Prop) {m:Nat} (hm:m<N) (hi:Inv m f i h nx)
  (step:∀ (m:Nat) (z3 z5 z6:AV) (h:T Blk) (nx:Pa) (R:Ks Prop),Inv m z3 z5 h nx->(∀ (m':Nat) (w3 w5 w6:AV) (h':T Blk) (nx':Pa),m'<m->Inv m' w3 w5 h' nx'->R (F64.fr a c d w3 e w5 w6 p) h' nx'=.ok True)->IR.run F64.t11 C N O R (F64.fr a c d z3 e z5 z6 p) h nx=.ok True) :
  IR.run F64.t12 C N O K (F64.fr a c d f e i o p) h nx=.ok True:=by
 rw [F64.t12];refine yM (fun m tm h nx=>∃ z3 z5 z6,tm=(F64.fr a c d z3 e z5 z6 p)/\Inv m z3 z5 h nx) ?_ hm ⟨_,_,_,rfl,hi⟩;rintro m tm h nx R ⟨z3,z5,z6,rfl,hi⟩ hR;exact step m z3 z5 z6 h nx R hi fun m' w3 w5 w6 h' nx' hlt hi'=>hR m' _ h' nx' hlt ⟨_,_,_,rfl,hi'⟩
theorem F64.rW:IR.run F64.t15 C N O K (F64.fr a c d f e i o p) h nx =
 zS 1 c fun v1=>zF v1 h fun v2=>sG v2 true (fun k=>k f) fun v3=>sG v2 true (fun k=>yc .rem .int v3 (I 2) k) fun v4=>sG v2 true (fun k=>yc .eql .int v4 (I 1) k) fun v5=>jM v2 v5 (.bool false) fun v6=>K (F64.fr a c d f e i o v6) h nx:=by kernel_rfl
theorem F64.fM:IR.run F64.t16 C N O K (F64.fr a c d f e i o p) h nx =
 yc .mul .int (I 2) f fun v1=>K (F64.fr a c d v1 e i o p) h nx:=by kernel_rfl
theorem F64.v7:Arg.ev (.t (.of 7)) ⟨(F64.fr a c d f e i o p),[]⟩=p:=by kernel_rfl
theorem F64.zaf:IR.run F64.t19 C N O K (F64.fr a c d f e i o p) h nx =
 K (F64.fr a c f f e i o p) h nx:=by kernel_rfl
theorem F64.tab:T.get none (.of 64) tbl=some F64:=by kernel_rfl
theorem F64.bind (k:T AV->OP):zY F64.params [a0] F64.init k=k (F64.fr a0 .undef .undef .undef .undef .undef .undef .undef):=by kernel_rfl
theorem F64.yx:F64.body=F64.t25:=by kernel_rfl
theorem F64.go:zW tbl N C (.of 64) [a0] h nx K0=IR.run F64.t25 C N (fnO F64.res K0) (jm F64.res K0) (F64.fr a0 .undef .undef .undef .undef .undef .undef .undef) h nx:=by
 rw [zL F64.tab,F64.bind,F64.yx];kernel_rfl
theorem F64.ret:jm F64.res K0 (F64.fr a c d f e i o p) h nx=K0 d h nx:=by kernel_rfl
def zn.t0:IR:=.reg [.q (.of 1) (.mv (.c .zi))]
def zn.t1:IR:=.reg [.q (.of 2) (.mv (.c .zi))]
def zn.t2:IR:=.reg [.s (.mv (.t (.of 0))),.s (.len (.s 0)),.w .push none (.jk 1 1 [(.bool false)] (.s 0) (.s 0)),.q (.of 3) (.mv (.s 0))]
def zn.t3:IR:=.reg [.q (.of 4) (.mv (.c (I 0)))]
def zn.t4:IR:=.reg [.s (.mv (.t (.of 4))),.s (.mv (.t (.of 0))),.s (.len (.s 0)),.q (.of 7) (.bin .lss .int (.s 2) (.s 0))]
def zn.t5:IR:=.cond (.t (.of 7)) .skip (.exit 0)
def zn.t6:IR:=.seq zn.t4 zn.t5
def zn.t7:IR:=.reg [.q (.of 5) (.mv (.c .zi))]
def zn.t8:IR:=.reg [.s (.mv (.t (.of 4))),.q (.of 6) (.mv (.s 0))]
def zn.t9:IR:=.reg [.s (.mv (.t (.of 3))),.s (.mv (.t (.of 6))),.s (.zx 1 (.s 1) (.s 0)),.s (.load (.s 0)),.q (.of 8) (.not (.s 0))]
def zn.t10:IR:=.cond (.t (.of 8)) .skip (.exit 2)
def zn.t11:IR:=.seq zn.t9 zn.t10
def zn.t12:IR:=.reg [.s (.mv (.t (.of 3))),.s (.mv (.t (.of 6))),.s (.zx 1 (.s 1) (.s 0)),.w .none none (.store 1 (.s 0) (.c (.bool true)))]
def zn.t13:IR:=.reg [.s (.mv (.t (.of 5))),.s (.mv (.t (.of 6))),.w .push none (.yg 1 1 [(I 0)] [(0,1,(.s 0))]),.w .push none (.app 1 8 (.s 2) (.s 0)),.q (.of 5) (.mv (.s 0))]
def zn.t14:IR:=.seq zn.t12 zn.t13
def zn.t15:IR:=.block 3 zn.t14
def zn.t16:IR:=.reg [.s (.mv (.t (.of 0))),.s (.mv (.t (.of 6))),.s (.zx 1 (.s 1) (.s 0)),.s (.load (.s 0)),.q (.of 6) (.mv (.s 0))]
def zn.t17:IR:=.seq zn.t15 zn.t16
def zn.t18:IR:=.seq zn.t11 zn.t17
def zn.t19:IR:=.loop zn.t18
def zn.t20:IR:=.block 2 zn.t19
def zn.t21:IR:=.seq zn.t8 zn.t20
def zn.t22:IR:=.reg [.s (.mv (.t (.of 5))),.s (.len (.s 0)),.q (.of 9) (.bin .gtr .int (.s 0) (.c (I 0)))]
def zn.t23:IR:=.reg [.s (.mv (.t (.of 2))),.s (.mv (.t (.of 5))),.w .push none (.yg 1 1 [.zi] [(0,1,(.s 0))]),.w .push none (.app 1 24 (.s 2) (.s 0)),.q (.of 2) (.mv (.s 0))]
def zn.t24:IR:=.cond (.t (.of 9)) zn.t23 .skip
def zn.t25:IR:=.seq zn.t22 zn.t24
def zn.t26:IR:=.seq zn.t21 zn.t25
def zn.t27:IR:=.seq zn.t7 zn.t26
def zn.t28:IR:=.block 1 zn.t27
def zn.t29:IR:=.reg [.s (.mv (.t (.of 4))),.s (.bin .add .int (.s 0) (.c (I 1))),.q (.of 4) (.mv (.s 0))]
def zn.t30:IR:=.seq zn.t28 zn.t29
def zn.t31:IR:=.seq zn.t6 zn.t30
def zn.t32:IR:=.loop zn.t31
def zn.t33:IR:=.block 0 zn.t32
def zn.t34:IR:=.seq zn.t3 zn.t33
def zn.t35:IR:=.reg [.s (.mv (.t (.of 2))),.q (.of 1) (.mv (.s 0))]
def zn.t36:IR:=.seq zn.t35 .ret
def zn.t37:IR:=.seq zn.t34 zn.t36
def zn.t38:IR:=.seq zn.t2 zn.t37
def zn.t39:IR:=.seq zn.t1 zn.t38
def zn.t40:IR:=.seq zn.t0 zn.t39
theorem zn.qw:IR.run zn.t0 C N O K (zn.fr a c d f e i o p s u) h nx =
 K (zn.fr a .zi d f e i o p s u) h nx:=by kernel_rfl
theorem zn.qx:IR.run zn.t1 C N O K (zn.fr a c d f e i o p s u) h nx =
 K (zn.fr a c .zi f e i o p s u) h nx:=by kernel_rfl
theorem zn.bC:IR.run zn.t2 C N O K (zn.fr a c d f e i o p s u) h nx =
 sLen a fun v1=>jY 1 1 [(.bool false)] v1 v1 h nx fun v2 h3 n4=>K (zn.fr a c d v2 e i o p s u) h3 n4:=by kernel_rfl
theorem zn.fV:IR.run zn.t3 C N O K (zn.fr a c d f e i o p s u) h nx =
 K (zn.fr a c d f (I 0) i o p s u) h nx:=by kernel_rfl
theorem zn.t4_s:IR.run zn.t4 C N O K (zn.fr a c d f e i o p s u) h nx =
 sLen a fun v1=>yc .lss .int e v1 fun v2=>K (zn.fr a c d f e i o v2 s u) h nx:=by kernel_rfl
theorem zn.v7:Arg.ev (.t (.of 7)) ⟨(zn.fr a c d f e i o p s u),[]⟩=p:=by kernel_rfl
theorem zn.t7_s:IR.run zn.t7 C N O K (zn.fr a c d f e i o p s u) h nx =
 K (zn.fr a c d f e .zi o p s u) h nx:=by kernel_rfl
theorem zn.rV:IR.run zn.t8 C N O K (zn.fr a c d f e i o p s u) h nx =
 K (zn.fr a c d f e i e p s u) h nx:=by kernel_rfl
theorem zn.rE:IR.run zn.t9 C N O K (zn.fr a c d f e i o p s u) h nx =
 zX 1 f o fun v1=>zF v1 h fun v2=>aV v2 fun v3=>K (zn.fr a c d f e i o p v3 u) h nx:=by kernel_rfl
theorem zn.v8:Arg.ev (.t (.of 8)) ⟨(zn.fr a c d f e i o p s u),[]⟩=s:=by kernel_rfl
theorem zn.zah:IR.run zn.t12 C N O K (zn.fr a c d f e i o p s u) h nx =
 zX 1 f o fun v1=>zP 1 v1 (.bool true) h nx fun v2 h3 n4=>K (zn.fr a c d f e i o p s u) h3 n4:=by kernel_rfl
theorem zn.ze2:IR.run zn.t13 C N O K (zn.fr a c d f e i o p s u) h nx =
 yX 1 1 [(I 0)] [(0,1,o)] h nx fun v1 h2 n3=>sW 1 8 i v1 h2 n3 fun v4 h5 n6=>K (zn.fr a c d f e v4 o p s u) h5 n6:=by kernel_rfl
theorem zn.fM:IR.run zn.t16 C N O K (zn.fr a c d f e i o p s u) h nx =
 zX 1 a o fun v1=>zF v1 h fun v2=>K (zn.fr a c d f e i v2 p s u) h nx:=by kernel_rfl
theorem zn.zlv (Inv:Nat->AV->AV->T Blk->Pa->Prop) {m:Nat} (hm:m<N) (hi:Inv m i o h nx)
  (step:∀ (m:Nat) (z5 z6 z8:AV) (h:T Blk) (nx:Pa) (R:Ks Prop),Inv m z5 z6 h nx->(∀ (m':Nat) (w5 w6 w8:AV) (h':T Blk) (nx':Pa),m'<m->Inv m' w5 w6 h' nx'->R (zn.fr a c d f e w5 w6 p w8 u) h' nx'=.ok True)->IR.run zn.t18 C N O R (zn.fr a c d f e z5 z6 p z8 u) h nx=.ok True) :
  IR.run zn.t19 C N O K (zn.fr a c d f e i o p s u) h nx=.ok True:=by
 rw [zn.t19];refine yM (fun m tm h nx=>∃ z5 z6 z8,tm=(zn.fr a c d f e z5 z6 p z8 u)/\Inv m z5 z6 h nx) ?_ hm ⟨_,_,_,rfl,hi⟩;rintro m tm h nx R ⟨z5,z6,z8,rfl,hi⟩ hR;exact step m z5 z6 z8 h nx R hi fun m' w5 w6 w8 h' nx' hlt hi'=>hR m' _ h' nx' hlt ⟨_,_,_,rfl,hi'⟩
theorem zn.ze1:IR.run zn.t22 C N O K (zn.fr a c d f e i o p s u) h nx =
 sLen i fun v1=>yc .gtr .int v1 (I 0) fun v2=>K (zn.fr a c d f e i o p s v2) h nx:=by kernel_rfl
theorem zn.zck:IR.run zn.t23 C N O K (zn.fr a c d f e i o p s u) h nx =
 yX 1 1 [.zi] [(0,1,i)] h nx fun v1 h2 n3=>sW 1 24 d v1 h2 n3 fun v4 h5 n6=>K (zn.fr a c v4 f e i o p s u) h5 n6:=by kernel_rfl
theorem zn.v9:Arg.ev (.t (.of 9)) ⟨(zn.fr a c d f e i o p s u),[]⟩=u:=by kernel_rfl
theorem zn.zir:IR.run zn.t29 C N O K (zn.fr a c d f e i o p s u) h nx =
 yc .add .int e (I 1) fun v1=>K (zn.fr a c d f v1 i o p s u) h nx:=by kernel_rfl
theorem zn.zum (Inv:Nat->AV->AV->T Blk->Pa->Prop) {m:Nat} (hm:m<N) (hi:Inv m d e h nx)
  (step:∀ (m:Nat) (z2 z4 z5 z6 z7 z8 z9:AV) (h:T Blk) (nx:Pa) (R:Ks Prop),Inv m z2 z4 h nx->(∀ (m':Nat) (w2 w4 w5 w6 w7 w8 w9:AV) (h':T Blk) (nx':Pa),m'<m->Inv m' w2 w4 h' nx'->R (zn.fr a c w2 f w4 w5 w6 w7 w8 w9) h' nx'=.ok True)->IR.run zn.t31 C N O R (zn.fr a c z2 f z4 z5 z6 z7 z8 z9) h nx=.ok True) :
  IR.run zn.t32 C N O K (zn.fr a c d f e i o p s u) h nx=.ok True:=by
 rw [zn.t32];refine yM (fun m tm h nx=>∃ z2 z4 z5 z6 z7 z8 z9,tm=(zn.fr a c z2 f z4 z5 z6 z7 z8 z9)/\Inv m z2 z4 h nx) ?_ hm ⟨_,_,_,_,_,_,_,rfl,hi⟩;rintro m tm h nx R ⟨z2,z4,z5,z6,z7,z8,z9,rfl,hi⟩ hR;exact step m z2 z4 z5 z6 z7 z8 z9 h nx R hi fun m' w2 w4 w5 w6 w7 w8 w9 h' nx' hlt hi'=>hR m' _ h' nx' hlt ⟨_,_,_,_,_,_,_,rfl,hi'⟩
theorem zn.zun:IR.run zn.t35 C N O K (zn.fr a c d f e i o p s u) h nx =
 K (zn.fr a d d f e i o p s u) h nx:=by kernel_rfl
theorem zn.tab:T.get none (.of 142) tbl=some zn:=by kernel_rfl
theorem zn.bind (k:T AV->OP):zY zn.params [a0] zn.init k=k (zn.fr a0 .undef .undef .undef .undef .undef .undef .undef .undef .undef):=by kernel_rfl
theorem zn.yx:zn.body=zn.t40:=by kernel_rfl
theorem zn.go:zW tbl N C (.of 142) [a0] h nx K0=IR.run zn.t40 C N (fnO zn.res K0) (jm zn.res K0) (zn.fr a0 .undef .undef .undef .undef .undef .undef .undef .undef .undef) h nx:=by
 rw [zL zn.tab,zn.bind,zn.yx];kernel_rfl
theorem zn.ret:jm zn.res K0 (zn.fr a c d f e i o p s u) h nx=K0 c h nx:=by kernel_rfl
def wz.t0:IR:=.reg [.q (.of 2) (.mv (.c (I 0)))]
def wz.t1:IR:=.reg [.s (.mv (.t (.of 0))),.s (.mv (.t (.of 0))),.s (.bin .sub .int (.c (I 0)) (.s 0)),.s (.sF true (.s 2) [(.s 0)]),.s (.mv (.t (.of 1))),.s (.mv (.t (.of 1))),.s (.bin .sub .int (.c (I 0)) (.s 0)),.s (.sF true (.s 2) [(.s 0)]),.w .push none (.call (.c (.fn 199 (.of 199) [])) [(.s 4),(.s 0)]),.q (.of 2) (.mv (.s 0))]
def wz.t2:IR:=.seq wz.t1 .ret
def wz.t3:IR:=.seq wz.t0 wz.t2
theorem wz.qw:IR.run wz.t0 C N O K (wz.fr a c d) h nx =
 K (wz.fr a c (I 0)) h nx:=by kernel_rfl
theorem wz.qx:IR.run wz.t1 C N O K (wz.fr a c d) h nx =
 yc .sub .int (I 0) a fun v1=>sMin true a [v1] fun v2=>yc .sub .int (I 0) c fun v3=>sMin true c [v3] fun v4=>C.fn 199 (.of 199) [v2,v4] h nx fun v5 h6 n7=>K (wz.fr a c v5) h6 n7:=by kernel_rfl
theorem wz.tab:T.get none (.of 143) tbl=some wz:=by kernel_rfl
theorem wz.bind (k:T AV->OP):zY wz.params [a0,a1] wz.init k=k (wz.fr a0 a1 .undef):=by kernel_rfl
theorem wz.yx:wz.body=wz.t3:=by kernel_rfl
theorem wz.go:zW tbl N C (.of 143) [a0,a1] h nx K0=IR.run wz.t3 C N (fnO wz.res K0) (jm wz.res K0) (wz.fr a0 a1 .undef) h nx:=by
 rw [zL wz.tab,wz.bind,wz.yx];kernel_rfl
theorem wz.ret:jm wz.res K0 (wz.fr a c d) h nx=K0 d h nx:=by kernel_rfl
end
end Go.Ev
namespace Go.Ev
open Go Go.Proofs
set_option maxRecDepth 100000
section
variable {N:Nat} {C:Calls Prop} {K0:Kw Prop} {K:Ks Prop} {h:T Blk} {nx:Pa} {a c d f a0 a1:AV} {O:qg Prop} {tm:T AV} {Kt:KTm} {r:List RO} {s0 s1 s2 s3 s4 s5 s6 s7 s8 s9 s10 s11 s12 s13 s14 s15 s16 s17 s18 s19 s20 s21 s22 s23 s24 s25 s26 s27 s28 s29 s30 s31 s32 s33 s34 s35 s36 s37 s38 s39 s40 s41 s42 s43 s44 s45 s46 s47 s48 s49 s50 s51 s52 s53 s54 s55 s56 s57 s58 s59:AV}
def jd.t0:IR:=.reg [.q (.of 2) (.mv (.c (I 0)))]
def jd.t1:IR:=.reg [.s (.mv (.t (.of 1))),.q (.of 3) (.bin .gtr .int (.s 0) (.c (I 0)))]
def jd.t2:IR:=.cond (.t (.of 3)) .skip (.exit 0)
def jd.t3:IR:=.seq jd.t1 jd.t2
def jd.t4:IR:=.yw [] [(.s (.mv (.t (.of 1))),0,[]),(.s (.mv (.t (.of 0))),0,[]),(.s (.mv (.t (.of 1))),0,[]),(.s (.bin .rem .int (.s 1) (.s 0)),0,[]),(.q (.of 0) (.mv (.s 3)),0,[]),(.q (.of 1) (.mv (.s 0)),0,[])]
def jd.t5:IR:=.block 1 jd.t4
def jd.t6:IR:=.seq jd.t3 jd.t5
def jd.t7:IR:=.loop jd.t6
def jd.t8:IR:=.block 0 jd.t7
def jd.t9:IR:=.reg [.s (.mv (.t (.of 0))),.q (.of 2) (.mv (.s 0))]
def jd.t10:IR:=.seq jd.t9 .ret
def jd.t11:IR:=.seq jd.t8 jd.t10
def jd.t12:IR:=.seq jd.t0 jd.t11
theorem jd.qw:IR.run jd.t0 C N O K (jd.fr a c d f) h nx =
 K (jd.fr a c (I 0) f) h nx:=by kernel_rfl
theorem jd.qx:IR.run jd.t1 C N O K (jd.fr a c d f) h nx =
 yc .gtr .int c (I 0) fun v1=>K (jd.fr a c d v1) h nx:=by kernel_rfl
theorem jd.v3:Arg.ev (.t (.of 3)) ⟨(jd.fr a c d f),[]⟩=f:=by kernel_rfl
theorem jd.t4_s:IR.run jd.t4 C N O K (jd.fr a c d f) h nx =
 yc .rem .int a c fun v1=>K (jd.fr c v1 d f) h nx:=by kernel_rfl
theorem jd.t7_L (Inv:Nat->AV->AV->T Blk->Pa->Prop) {m:Nat} (hm:m<N) (hi:Inv m a c h nx)
  (step:∀ (m:Nat) (z0 z1 z3:AV) (h:T Blk) (nx:Pa) (R:Ks Prop),Inv m z0 z1 h nx->(∀ (m':Nat) (w0 w1 w3:AV) (h':T Blk) (nx':Pa),m'<m->Inv m' w0 w1 h' nx'->R (jd.fr w0 w1 d w3) h' nx'=.ok True)->IR.run jd.t6 C N O R (jd.fr z0 z1 d z3) h nx=.ok True) :
  IR.run jd.t7 C N O K (jd.fr a c d f) h nx=.ok True:=by
 rw [jd.t7];refine yM (fun m tm h nx=>∃ z0 z1 z3,tm=(jd.fr z0 z1 d z3)/\Inv m z0 z1 h nx) ?_ hm ⟨_,_,_,rfl,hi⟩;rintro m tm h nx R ⟨z0,z1,z3,rfl,hi⟩ hR;exact step m z0 z1 z3 h nx R hi fun m' w0 w1 w3 h' nx' hlt hi'=>hR m' _ h' nx' hlt ⟨_,_,_,rfl,hi'⟩
theorem jd.rE:IR.run jd.t9 C N O K (jd.fr a c d f) h nx =
 K (jd.fr a c a f) h nx:=by kernel_rfl
theorem jd.tab:T.get none (.of 199) tbl=some jd:=by kernel_rfl
theorem jd.bind (k:T AV->OP):zY jd.params [a0,a1] jd.init k=k (jd.fr a0 a1 .undef .undef):=by kernel_rfl
theorem jd.yx:jd.body=jd.t12:=by kernel_rfl
theorem jd.go:zW tbl N C (.of 199) [a0,a1] h nx K0=IR.run jd.t12 C N (fnO jd.res K0) (jm jd.res K0) (jd.fr a0 a1 .undef .undef) h nx:=by
 rw [zL jd.tab,jd.bind,jd.yx];kernel_rfl
theorem jd.ret:jm jd.res K0 (jd.fr a c d f) h nx=K0 d h nx:=by kernel_rfl
end
end Go.Ev
namespace Go.Ev
open Go Go.Proofs
set_option maxRecDepth 100000
section
variable {N:Nat} {C:Calls Prop} {K0:Kw Prop} {K:Ks Prop} {h:T Blk} {nx:Pa} {a c d f e i o p s u b g l q v w y z A B D E a0 a1 a2:AV} {O:qg Prop} {tm:T AV} {Kt:KTm} {r:List RO} {s0 s1 s2 s3 s4 s5 s6 s7 s8 s9 s10 s11 s12 s13 s14 s15 s16 s17 s18 s19 s20 s21 s22 s23 s24 s25 s26 s27 s28 s29 s30 s31 s32 s33 s34 s35 s36 s37 s38 s39 s40 s41 s42 s43 s44 s45 s46 s47 s48 s49 s50 s51 s52 s53 s54 s55 s56 s57 s58 s59:AV}
end
end Go.Ev
namespace Go.Ev
open Go Go.Proofs
set_option maxRecDepth 100000
section
variable {N:Nat} {C:Calls Prop} {K0:Kw Prop} {K:Ks Prop} {h:T Blk} {nx:Pa} {a c d f e i o p s u b g l q v w y z A B D E F a0 a1 a2:AV} {O:qg Prop} {tm:T AV} {Kt:KTm} {r:List RO} {s0 s1 s2 s3 s4 s5 s6 s7 s8 s9 s10 s11 s12 s13 s14 s15 s16 s17 s18 s19 s20 s21 s22 s23 s24 s25 s26 s27 s28 s29 s30 s31 s32 s33 s34 s35 s36 s37 s38 s39 s40 s41 s42 s43 s44 s45 s46 s47 s48 s49 s50 s51 s52 s53 s54 s55 s56 s57 s58 s59:AV}
def F52.t0:IR:=.reg [.w (.loc (.of 2)) none (.box (.t (.of 0))),.q (.of 3) (.mv (.c .zi)),.q (.of 4) (.mv (.c (I 0)))]
def F52.t1:IR:=.reg [.s (.mv (.t (.of 1))),.w .push none (.call (.c (.fn 134 (.of 134) [])) [(.s 0)]),.q (.of 5) (.mv (.s 0))]
def F52.t2:IR:=.reg [.s (.mv (.t (.of 5))),.q (.of 8) (.bin .neq .int (.s 0) (.c (I 0)))]
def F52.t3:IR:=.reg [.s (.mv (.t (.of 5))),.q (.of 3) (.mv (.c .zi)),.q (.of 4) (.mv (.s 0))]
def F52.t4:IR:=.seq F52.t3 .ret
def F52.t5:IR:=.cond (.t (.of 8)) F52.t4 .skip
def F52.t6:IR:=.seq F52.t2 F52.t5
def F52.t7:IR:=.seq F52.t1 F52.t6
def F52.t8:IR:=.reg [.s (.zh 2 (.t (.of 2))),.s (.mv (.t (.of 1))),.s (.len (.s 0)),.w .push none (.call (.c (.fn 56 (.of 56) [])) [(.s 2),(.s 0)]),.q (.of 6) (.mv (.s 0))]
def F52.t9:IR:=.reg [.s (.mv (.t (.of 6))),.q (.of 9) (.bin .neq .int (.s 0) (.c (I 0)))]
def F52.t10:IR:=.reg [.s (.mv (.t (.of 6))),.q (.of 3) (.mv (.c .zi)),.q (.of 4) (.mv (.s 0))]
def F52.t11:IR:=.seq F52.t10 .ret
def F52.t12:IR:=.cond (.t (.of 9)) F52.t11 .skip
def F52.t13:IR:=.seq F52.t9 F52.t12
def F52.t14:IR:=.seq F52.t8 F52.t13
def F52.t15:IR:=.reg [.s (.zh 2 (.t (.of 2))),.s (.mv (.t (.of 1))),.w .push none (.call (.c (.fn 135 (.of 135) [])) [(.s 1),(.s 0)]),.q (.of 7) (.mv (.s 0))]
def F52.t16:IR:=.reg [.s (.mv (.t (.of 7))),.w (.loc (.of 10)) none (.call (.c (.fn 136 (.of 136) [])) [(.s 0),(.c (.fn 137 (.of 137) []))])]
def F52.t17:IR:=.reg [.q (.of 3) (.mv (.c .zi)),.q (.of 4) (.mv (.c (I 3)))]
def F52.t18:IR:=.seq F52.t17 .ret
def F52.t19:IR:=.cond (.t (.of 10)) F52.t18 .skip
def F52.t20:IR:=.seq F52.t16 F52.t19
def F52.t21:IR:=.reg [.s (.mv (.t (.of 7))),.q (.of 3) (.mv (.s 0)),.q (.of 4) (.mv (.c (I 0)))]
def F52.t22:IR:=.seq F52.t21 .ret
def F52.t23:IR:=.seq F52.t20 F52.t22
def F52.t24:IR:=.seq F52.t15 F52.t23
def F52.t25:IR:=.seq F52.t14 F52.t24
def F52.t26:IR:=.seq F52.t7 F52.t25
def F52.t27:IR:=.seq F52.t0 F52.t26
theorem F52.qw:IR.run F52.t0 C N O K (F52.fr a c d f e i o p s u b) h nx =
 bW a h nx fun v1 h2 n3=>K (F52.fr a c v1 .zi (I 0) i o p s u b) h2 n3:=by kernel_rfl
theorem F52.qx:IR.run F52.t1 C N O K (F52.fr a c d f e i o p s u b) h nx =
 C.fn 134 (.of 134) [c] h nx fun v1 h2 n3=>K (F52.fr a c d f e v1 o p s u b) h2 n3:=by kernel_rfl
theorem F52.bC:IR.run F52.t2 C N O K (F52.fr a c d f e i o p s u b) h nx =
 yc .neq .int i (I 0) fun v1=>K (F52.fr a c d f e i o p v1 u b) h nx:=by kernel_rfl
theorem F52.fV:IR.run F52.t3 C N O K (F52.fr a c d f e i o p s u b) h nx =
 K (F52.fr a c d .zi i i o p s u b) h nx:=by kernel_rfl
theorem F52.v8:Arg.ev (.t (.of 8)) ⟨(F52.fr a c d f e i o p s u b),[]⟩=s:=by kernel_rfl
theorem F52.rV:IR.run F52.t8 C N O K (F52.fr a c d f e i o p s u b) h nx =
 zH 2 d h fun v1=>sLen c fun v2=>C.fn 56 (.of 56) [v1,v2] h nx fun v3 h4 n5=>K (F52.fr a c d f e i v3 p s u b) h4 n5:=by kernel_rfl
theorem F52.rE:IR.run F52.t9 C N O K (F52.fr a c d f e i o p s u b) h nx =
 yc .neq .int o (I 0) fun v1=>K (F52.fr a c d f e i o p s v1 b) h nx:=by kernel_rfl
theorem F52.rC:IR.run F52.t10 C N O K (F52.fr a c d f e i o p s u b) h nx =
 K (F52.fr a c d .zi o i o p s u b) h nx:=by kernel_rfl
theorem F52.v9:Arg.ev (.t (.of 9)) ⟨(F52.fr a c d f e i o p s u b),[]⟩=u:=by kernel_rfl
theorem F52.rW:IR.run F52.t15 C N O K (F52.fr a c d f e i o p s u b) h nx =
 zH 2 d h fun v1=>C.fn 135 (.of 135) [v1,c] h nx fun v2 h3 n4=>K (F52.fr a c d f e i o v2 s u b) h3 n4:=by kernel_rfl
theorem F52.fM:IR.run F52.t16 C N O K (F52.fr a c d f e i o p s u b) h nx =
 C.fn 136 (.of 136) [p,(.fn 137 (.of 137) [])] h nx fun v1 h2 n3=>K (F52.fr a c d f e i o p s u v1) h2 n3:=by kernel_rfl
theorem F52.rU:IR.run F52.t17 C N O K (F52.fr a c d f e i o p s u b) h nx =
 K (F52.fr a c d .zi (I 3) i o p s u b) h nx:=by kernel_rfl
theorem F52.v10:Arg.ev (.t (.of 10)) ⟨(F52.fr a c d f e i o p s u b),[]⟩=b:=by kernel_rfl
theorem F52.zac:IR.run F52.t21 C N O K (F52.fr a c d f e i o p s u b) h nx =
 K (F52.fr a c d p (I 0) i o p s u b) h nx:=by kernel_rfl
theorem F52.tab:T.get none (.of 52) tbl=some F52:=by kernel_rfl
theorem F52.bind (k:T AV->OP):zY F52.params [a0,a1] F52.init k=k (F52.fr a0 a1 .undef .undef .undef .undef .undef .undef .undef .undef .undef):=by kernel_rfl
theorem F52.yx:F52.body=F52.t27:=by kernel_rfl
theorem F52.go:zW tbl N C (.of 52) [a0,a1] h nx K0=IR.run F52.t27 C N (fnO F52.res K0) (jm F52.res K0) (F52.fr a0 a1 .undef .undef .undef .undef .undef .undef .undef .undef .undef) h nx:=by
 rw [zL F52.tab,F52.bind,F52.yx];kernel_rfl
theorem F52.ret:jm F52.res K0 (F52.fr a c d f e i o p s u b) h nx=K0 (.tup [f,e]) h nx:=by kernel_rfl
def F53.t0:IR:=.reg [.w (.loc (.of 2)) none (.box (.t (.of 0))),.w (.loc (.of 3)) none (.box (.t (.of 1))),.w (.loc (.of 4)) none (.alloc [.zi,(.bool false)]),.q (.of 5) (.mv (.c (I 0)))]
def F53.t1:IR:=.yw [] [(.s (.zh 2 (.t (.of 2))),0,[]),(.s (.zu 0 (.t (.of 2))),0,[]),(.s (.load (.s 0)),0,[]),(.s (.len (.s 0)),0,[]),(.s (.zh 2 (.t (.of 3))),1,[]),(.s (.zu 0 (.t (.of 2))),1,[]),(.s (.load (.s 0)),1,[]),(.s (.len (.s 0)),1,[]),(.w .push none (.call (.c (.fn 56 (.of 56) [])) [(.s 7),(.s 4)]),0,[]),(.w .push none (.call (.c (.fn 56 (.of 56) [])) [(.s 4),(.s 1)]),0,[]),(.w .push none (.yg 1 2 [(I 0)] [(0,1,(.s 1)),(1,1,(.s 0))]),0,[]),(.w .push none (.call (.c (.fn 94 (.of 94) [])) [(.s 0)]),0,[]),(.q (.of 6) (.mv (.s 0)),0,[])]
def F53.t2:IR:=.reg [.s (.mv (.t (.of 6))),.q (.of 7) (.bin .neq .int (.s 0) (.c (I 0)))]
def F53.t3:IR:=.reg [.s (.build [.zi,(.bool false)] []),.s (.mv (.t (.of 6))),.w .none none (.store 2 (.t (.of 4)) (.s 1)),.q (.of 5) (.mv (.s 0))]
def F53.t4:IR:=.seq F53.t3 .ret
def F53.t5:IR:=.cond (.t (.of 7)) F53.t4 .skip
def F53.t6:IR:=.seq F53.t2 F53.t5
def F53.t7:IR:=.seq F53.t1 F53.t6
def F53.t8:IR:=.reg [.s (.zh 2 (.t (.of 2))),.s (.zh 2 (.t (.of 3))),.w .push none (.call (.c (.fn 122 (.of 122) [])) [(.s 1),(.s 0)]),.w .none none (.store 2 (.t (.of 4)) (.s 0)),.q (.of 5) (.mv (.c (I 0)))]
def F53.t9:IR:=.seq F53.t8 .ret
def F53.t10:IR:=.seq F53.t7 F53.t9
def F53.t11:IR:=.seq F53.t0 F53.t10
theorem F53.qw:IR.run F53.t0 C N O K (F53.fr a c d f e i o p) h nx =
 bW a h nx fun v1 h2 n3=>bW c h2 n3 fun v4 h5 n6=>yK [.zi,(.bool false)] h5 n6 fun v7 h8 n9=>K (F53.fr a c v1 v4 v7 (I 0) o p) h8 n9:=by kernel_rfl
theorem F53.qx:IR.run F53.t1 C N O K (F53.fr a c d f e i o p) h nx =
 zH 2 d h fun v1=>zS 0 d fun v2=>zF v2 h fun v3=>sLen v3 fun v4=>zH 2 f h fun v5=>zS 0 d fun v6=>zF v6 h fun v7=>sLen v7 fun v8=>C.fn 56 (.of 56) [v1,v4] h nx fun v9 hV nV=>(sLen v7 fun vO=>zO vO v8 ((zF v6 hV fun vN=>zO vN v7 ((zS 0 d fun vM=>zO vM v6 ((zH 2 f hV fun vL=>zO vL v5 (C.fn 56 (.of 56) [v5,v8] hV nV fun vC h13 n14=>yX 1 2 [(I 0)] [(0,1,v9),(1,1,vC)] h13 n14 fun vF hB nB=>C.fn 94 (.of 94) [vF] hB nB fun vI hL nM=>K (F53.fr a c d f e i vI p) hL nM)))))))):=by kernel_rfl
theorem F53.bC:IR.run F53.t2 C N O K (F53.fr a c d f e i o p) h nx =
 yc .neq .int o (I 0) fun v1=>K (F53.fr a c d f e i o v1) h nx:=by kernel_rfl
theorem F53.fV:IR.run F53.t3 C N O K (F53.fr a c d f e i o p) h nx =
 uN [.zi,(.bool false)] [] fun v1=>zP 2 e v1 h nx fun v2 h3 n4=>K (F53.fr a c d f e o o p) h3 n4:=by kernel_rfl
theorem F53.v7:Arg.ev (.t (.of 7)) ⟨(F53.fr a c d f e i o p),[]⟩=p:=by kernel_rfl
theorem F53.rV:IR.run F53.t8 C N O K (F53.fr a c d f e i o p) h nx =
 zH 2 d h fun v1=>zH 2 f h fun v2=>C.fn 122 (.of 122) [v1,v2] h nx fun v3 h4 n5=>zP 2 e v3 h4 n5 fun v6 h7 n8=>K (F53.fr a c d f e (I 0) o p) h7 n8:=by kernel_rfl
theorem F53.tab:T.get none (.of 53) tbl=some F53:=by kernel_rfl
theorem F53.bind (k:T AV->OP):zY F53.params [a0,a1] F53.init k=k (F53.fr a0 a1 .undef .undef .undef .undef .undef .undef):=by kernel_rfl
theorem F53.yx:F53.body=F53.t11:=by kernel_rfl
theorem F53.go:zW tbl N C (.of 53) [a0,a1] h nx K0=IR.run F53.t11 C N (fnO F53.res K0) (jm F53.res K0) (F53.fr a0 a1 .undef .undef .undef .undef .undef .undef) h nx:=by
 rw [zL F53.tab,F53.bind,F53.yx];kernel_rfl
theorem F53.ret:jm F53.res K0 (F53.fr a c d f e i o p) h nx=zH 2 e h fun v1=>K0 (.tup [v1,i]) h nx:=by kernel_rfl
def F54.t0:IR:=.reg [.w (.loc (.of 1)) none (.box (.t (.of 0))),.w (.loc (.of 2)) none (.alloc [.zi,(.bool false)]),.q (.of 3) (.mv (.c (I 0)))]
def F54.t1:IR:=.reg [.s (.zh 2 (.t (.of 1))),.s (.zu 0 (.t (.of 1))),.s (.load (.s 0)),.s (.len (.s 0)),.w .push none (.call (.c (.fn 56 (.of 56) [])) [(.s 3),(.s 0)]),.q (.of 4) (.mv (.s 0))]
def F54.t2:IR:=.reg [.s (.mv (.t (.of 4))),.q (.of 5) (.bin .neq .int (.s 0) (.c (I 0)))]
def F54.t3:IR:=.reg [.s (.build [.zi,(.bool false)] []),.s (.mv (.t (.of 4))),.w .none none (.store 2 (.t (.of 2)) (.s 1)),.q (.of 3) (.mv (.s 0))]
def F54.t4:IR:=.seq F54.t3 .ret
def F54.t5:IR:=.cond (.t (.of 5)) F54.t4 .skip
def F54.t6:IR:=.seq F54.t2 F54.t5
def F54.t7:IR:=.seq F54.t1 F54.t6
def F54.t8:IR:=.reg [.s (.zh 2 (.t (.of 1))),.w .push none (.call (.c (.fn 124 (.of 124) [])) [(.s 0)]),.w .none none (.store 2 (.t (.of 2)) (.s 0)),.q (.of 3) (.mv (.c (I 0)))]
def F54.t9:IR:=.seq F54.t8 .ret
def F54.t10:IR:=.seq F54.t7 F54.t9
def F54.t11:IR:=.seq F54.t0 F54.t10
theorem F54.qw:IR.run F54.t0 C N O K (F54.fr a c d f e i) h nx =
 bW a h nx fun v1 h2 n3=>yK [.zi,(.bool false)] h2 n3 fun v4 h5 n6=>K (F54.fr a v1 v4 (I 0) e i) h5 n6:=by kernel_rfl
theorem F54.qx:IR.run F54.t1 C N O K (F54.fr a c d f e i) h nx =
 zH 2 c h fun v1=>zS 0 c fun v2=>zF v2 h fun v3=>sLen v3 fun v4=>C.fn 56 (.of 56) [v1,v4] h nx fun v5 h6 n7=>K (F54.fr a c d f v5 i) h6 n7:=by kernel_rfl
theorem F54.bC:IR.run F54.t2 C N O K (F54.fr a c d f e i) h nx =
 yc .neq .int e (I 0) fun v1=>K (F54.fr a c d f e v1) h nx:=by kernel_rfl
theorem F54.fV:IR.run F54.t3 C N O K (F54.fr a c d f e i) h nx =
 uN [.zi,(.bool false)] [] fun v1=>zP 2 d v1 h nx fun v2 h3 n4=>K (F54.fr a c d e e i) h3 n4:=by kernel_rfl
theorem F54.v5:Arg.ev (.t (.of 5)) ⟨(F54.fr a c d f e i),[]⟩=i:=by kernel_rfl
theorem F54.rV:IR.run F54.t8 C N O K (F54.fr a c d f e i) h nx =
 zH 2 c h fun v1=>C.fn 124 (.of 124) [v1] h nx fun v2 h3 n4=>zP 2 d v2 h3 n4 fun v5 h6 n7=>K (F54.fr a c d (I 0) e i) h6 n7:=by kernel_rfl
theorem F54.tab:T.get none (.of 54) tbl=some F54:=by kernel_rfl
theorem F54.bind (k:T AV->OP):zY F54.params [a0] F54.init k=k (F54.fr a0 .undef .undef .undef .undef .undef):=by kernel_rfl
theorem F54.yx:F54.body=F54.t11:=by kernel_rfl
theorem F54.go:zW tbl N C (.of 54) [a0] h nx K0=IR.run F54.t11 C N (fnO F54.res K0) (jm F54.res K0) (F54.fr a0 .undef .undef .undef .undef .undef) h nx:=by
 rw [zL F54.tab,F54.bind,F54.yx];kernel_rfl
theorem F54.ret:jm F54.res K0 (F54.fr a c d f e i) h nx=zH 2 d h fun v1=>K0 (.tup [v1,f]) h nx:=by kernel_rfl
def F61.t0:IR:=.reg [.w (.loc (.of 1)) none (.box (.t (.of 0))),.q (.of 2) (.mv (.c (I 0)))]
def F61.t1:IR:=.reg [.s (.zh 2 (.t (.of 1))),.s (.zu 0 (.t (.of 1))),.s (.load (.s 0)),.s (.len (.s 0)),.w .push none (.call (.c (.fn 26 (.of 26) [])) [(.s 3),(.s 0)]),.q (.of 2) (.mv (.s 0))]
def F61.t2:IR:=.seq F61.t1 .ret
def F61.t3:IR:=.seq F61.t0 F61.t2
theorem F61.qw:IR.run F61.t0 C N O K (F61.fr a c d) h nx =
 bW a h nx fun v1 h2 n3=>K (F61.fr a v1 (I 0)) h2 n3:=by kernel_rfl
theorem F61.qx:IR.run F61.t1 C N O K (F61.fr a c d) h nx =
 zH 2 c h fun v1=>zS 0 c fun v2=>zF v2 h fun v3=>sLen v3 fun v4=>C.fn 26 (.of 26) [v1,v4] h nx fun v5 h6 n7=>K (F61.fr a c v5) h6 n7:=by kernel_rfl
theorem F61.tab:T.get none (.of 61) tbl=some F61:=by kernel_rfl
theorem F61.bind (k:T AV->OP):zY F61.params [a0] F61.init k=k (F61.fr a0 .undef .undef):=by kernel_rfl
theorem F61.yx:F61.body=F61.t3:=by kernel_rfl
theorem F61.go:zW tbl N C (.of 61) [a0] h nx K0=IR.run F61.t3 C N (fnO F61.res K0) (jm F61.res K0) (F61.fr a0 .undef .undef) h nx:=by
 rw [zL F61.tab,F61.bind,F61.yx];kernel_rfl
theorem F61.ret:jm F61.res K0 (F61.fr a c d) h nx=K0 d h nx:=by kernel_rfl
def F9.t0:IR:=.reg [.w (.loc (.of 3)) none (.box (.t (.of 0))),.w (.loc (.of 4)) none (.box (.t (.of 1))),.q (.of 5) (.mv (.c (.bool false)))]
def F9.r1_4:List RO:=.q (.of 16) (.pick (.s 2) (.c (.bool true)) (.s 0))::[]
def F9.r1_3:List RO:=.s (.pick (.s 3) (.c (.bool true)) (.s 0))::.s (.mv (.s 0))::.p .push (some ((.s 0),false)) (.mv (.t (.of 2)))::.w .push (some ((.s 1),false)) (.call (.c (.fn 51 (.of 51) [])) [(.s 0)])::F9.r1_4
def F9.r1_2:List RO:=.s (.pick (.s 3) (.c (.bool true)) (.s 0))::.s (.mv (.s 0))::.p .push (some ((.s 0),false)) (.zu 0 (.t (.of 4)))::.p .push (some ((.s 1),false)) (.load (.s 0))::.w .push (some ((.s 2),false)) (.call (.c (.fn 51 (.of 51) [])) [(.s 0)])::F9.r1_3
def F9.r1_1:List RO:=.s (.not (.s 0))::.s (.mv (.s 0))::.p .push (some ((.s 0),false)) (.zu 0 (.t (.of 3)))::.p .push (some ((.s 1),false)) (.load (.s 0))::.w .push (some ((.s 2),false)) (.call (.c (.fn 51 (.of 51) [])) [(.s 0)])::F9.r1_2
def F9.r1_0:List RO:=.w .push none (.call (.c (.fn 18 (.of 18) [])) [])::F9.r1_1
def F9.t1:IR:=.reg F9.r1_0
def F9.t2:IR:=.reg [.w .push none (.call (.c (.fn 18 (.of 18) [])) []),.q (.of 5) (.mv (.s 0))]
def F9.t3:IR:=.seq F9.t2 .ret
def F9.t4:IR:=.cond (.t (.of 16)) F9.t3 .skip
def F9.t5:IR:=.seq F9.t1 F9.t4
def F9.t6:IR:=.reg [.s (.zh 2 (.t (.of 3))),.s (.mv (.t (.of 2))),.w .push none (.call (.c (.fn 52 (.of 52) [])) [(.s 1),(.s 0)]),.s (.mv (.s 0)),.s (.ext 0 (.s 0)),.s (.ext 1 (.s 1)),.q (.of 6) (.mv (.s 1)),.q (.of 7) (.mv (.s 0))]
def F9.t7:IR:=.reg [.s (.zh 2 (.t (.of 3))),.s (.zh 2 (.t (.of 4))),.w .push none (.call (.c (.fn 53 (.of 53) [])) [(.s 1),(.s 0)]),.s (.mv (.s 0)),.s (.ext 0 (.s 0)),.s (.ext 1 (.s 1)),.w (.loc (.of 8)) none (.alloc [.zi,(.bool false)]),.w .none none (.store 2 (.t (.of 8)) (.s 1)),.q (.of 9) (.mv (.s 0))]
def F9.t8:IR:=.reg [.s (.zh 2 (.t (.of 3))),.w .push none (.call (.c (.fn 54 (.of 54) [])) [(.s 0)]),.s (.mv (.s 0)),.s (.ext 0 (.s 0)),.s (.ext 1 (.s 1)),.w (.loc (.of 10)) none (.alloc [.zi,(.bool false)]),.w .none none (.store 2 (.t (.of 10)) (.s 1)),.q (.of 11) (.mv (.s 0))]
def F9.t9:IR:=.reg [.s (.zh 2 (.t (.of 3))),.w .push none (.call (.c (.fn 55 (.of 55) [])) [(.s 0)]),.s (.mv (.s 0)),.s (.ext 0 (.s 0)),.s (.ext 1 (.s 1)),.q (.of 12) (.mv (.s 1)),.q (.of 13) (.mv (.s 0))]
def F9.t10:IR:=.yw [] [(.s (.zh 2 (.t (.of 3))),0,[]),(.s (.mv (.t (.of 2))),0,[]),(.s (.len (.s 0)),0,[]),(.s (.zh 2 (.t (.of 3))),1,[]),(.s (.mv (.t (.of 2))),1,[]),(.s (.len (.s 0)),1,[]),(.w .push none (.call (.c (.fn 56 (.of 56) [])) [(.s 5),(.s 3)]),0,[]),(.w .push none (.call (.c (.fn 26 (.of 26) [])) [(.s 3),(.s 1)]),0,[]),(.q (.of 17) (.bin .neq .int (.s 1) (.s 0)),0,[])]
def F9.t11:IR:=.reg [.q (.of 5) (.mv (.c (.bool false)))]
def F9.t12:IR:=.seq F9.t11 .ret
def F9.t13:IR:=.cond (.t (.of 17)) F9.t12 .skip
def F9.t14:IR:=.seq F9.t10 F9.t13
def F9.t15:IR:=.yw [] [(.s (.mv (.t (.of 2))),0,[]),(.s (.zh 2 (.t (.of 3))),1,[]),(.s (.mv (.t (.of 2))),1,[]),(.s (.len (.s 0)),1,[]),(.w .push none (.call (.c (.fn 57 (.of 57) [])) [(.s 3)]),0,[]),(.w .push none (.call (.c (.fn 26 (.of 26) [])) [(.s 3),(.s 1)]),0,[]),(.w .push none (.yg 1 2 [(I 0)] [(0,1,(.s 1)),(1,1,(.s 0))]),0,[]),(.w .push none (.call (.c (.fn 41 (.of 41) [])) [(.s 0)]),0,[]),(.q (.of 14) (.mv (.s 0)),0,[])]
def F9.t16:IR:=.reg [.q (.of 15) (.mv (.c .zi))]
def F9.t17:IR:=.reg [.s (.mv (.t (.of 14))),.q (.of 18) (.bin .eql .int (.s 0) (.c (I 0)))]
def F9.t18:IR:=.reg [.s (.zh 2 (.t (.of 3))),.s (.mv (.t (.of 2))),.w .push none (.call (.c (.fn 58 (.of 58) [])) [(.s 1),(.s 0)]),.q (.of 15) (.mv (.s 0))]
def F9.t19:IR:=.reg [.s (.mv (.t (.of 15))),.w .push none (.call (.c (.fn 59 (.of 59) [])) [(.s 0)]),.q (.of 14) (.mv (.s 0))]
def F9.t20:IR:=.seq F9.t18 F9.t19
def F9.t21:IR:=.cond (.t (.of 18)) F9.t20 .skip
def F9.t22:IR:=.seq F9.t17 F9.t21
def F9.t23:IR:=.reg [.s (.mv (.t (.of 6))),.s (.mv (.t (.of 7))),.s (.mv (.t (.of 14))),.s (.mv (.t (.of 15))),.w .push none (.call (.c (.fn 60 (.of 60) [])) [(.s 3),(.s 2),(.s 1),(.s 0)]),.q (.of 19) (.not (.s 0))]
def F9.t24:IR:=.reg [.q (.of 5) (.mv (.c (.bool false)))]
def F9.t25:IR:=.seq F9.t24 .ret
def F9.t26:IR:=.cond (.t (.of 19)) F9.t25 .skip
def F9.t27:IR:=.seq F9.t23 F9.t26
def F9.t28:IR:=.reg [.s (.zh 2 (.t (.of 3))),.w .push none (.call (.c (.fn 61 (.of 61) [])) [(.s 0)]),.q (.of 14) (.mv (.s 0))]
def F9.t29:IR:=.reg [.s (.mv (.t (.of 14))),.q (.of 20) (.bin .neq .int (.s 0) (.c (I 0)))]
def F9.zrh:List RO:=.p .push (some ((.s 2),true)) (.bin .eql .int (.s 1) (.s 0))::.s (.pick (.s 3) (.s 0) (.c (.bool false)))::.q (.of 5) (.mv (.s 0))::[]
def F9.zri:List RO:=.s (.pick (.s 5) (.s 0) (.c (.bool false)))::.s (.mv (.s 0))::.p .push (some ((.s 0),true)) (.mv (.t (.of 12)))::.p .push (some ((.s 1),true)) (.bin .eql .int (.s 0) (.c (I 0)))::.s (.pick (.s 2) (.s 0) (.c (.bool false)))::.s (.mv (.s 0))::.p .push (some ((.s 0),true)) (.mv (.t (.of 13)))::.p .push (some ((.s 1),true)) (.mv (.t (.of 14)))::F9.zrh
def F9.zrj:List RO:=.s (.mv (.s 0))::.p .push (some ((.s 0),true)) (.zh 2 (.t (.of 10)))::.p .push (some ((.s 1),true)) (.mv (.t (.of 11)))::.p .push (some ((.s 2),true)) (.mv (.t (.of 14)))::.p .push (some ((.s 3),true)) (.zh 2 (.t (.of 10)))::.w .push (some ((.s 4),true)) (.call (.c (.fn 62 (.of 62) [])) [(.s 3),(.s 2),(.s 1),(.s 0)])::F9.zri
def F9.zlw:List RO:=.s (.zh 2 (.t (.of 8)))::.s (.mv (.t (.of 9)))::.s (.mv (.t (.of 14)))::.s (.zh 2 (.t (.of 8)))::.w .push none (.call (.c (.fn 62 (.of 62) [])) [(.s 3),(.s 2),(.s 1),(.s 0)])::F9.zrj
def F9.t30:IR:=.reg F9.zlw
def F9.t31:IR:=.seq F9.t30 .ret
def F9.t32:IR:=.cond (.t (.of 20)) F9.t31 .skip
def F9.t33:IR:=.seq F9.t29 F9.t32
def F9.t34:IR:=.yw [] [(.s (.zh 2 (.t (.of 10))),1,[]),(.s (.mv (.t (.of 11))),1,[]),(.s (.zh 2 (.t (.of 3))),0,[]),(.w .push none (.call (.c (.fn 63 (.of 63) [])) [(.s 0)]),0,[]),(.w .push none (.call (.c (.fn 62 (.of 62) [])) [(.s 3),(.s 2),(.c (I 0)),(.s 0)]),0,[]),(.s (.not (.s 0)),0,[]),(.s (.mv (.s 0)),0,[]),(.p .push (some ((.s 0),false)) (.mv (.t (.of 13))),0,[]),(.p .push (some ((.s 1),false)) (.bin .neq .int (.s 0) (.c (I 0))),0,[]),(.s (.pick (.s 2) (.c (.bool true)) (.s 0)),0,[]),(.s (.mv (.s 0)),0,[]),(.p .push (some ((.s 0),false)) (.mv (.t (.of 12))),1,[]),(.p .push (some ((.s 1),false)) (.zh 2 (.t (.of 3))),0,[]),(.w .push (some ((.s 2),false)) (.call (.c (.fn 64 (.of 64) [])) [(.s 0)]),0,[]),(.p .push (some ((.s 3),false)) (.bin .neq .int (.s 2) (.s 0)),0,[]),(.q (.of 21) (.pick (.s 4) (.c (.bool true)) (.s 0)),0,[])]
def F9.t35:IR:=.reg [.q (.of 5) (.mv (.c (.bool false)))]
def F9.t36:IR:=.seq F9.t35 .ret
def F9.t37:IR:=.cond (.t (.of 21)) F9.t36 .skip
def F9.t38:IR:=.seq F9.t34 F9.t37
def F9.t39:IR:=.reg [.s (.zh 2 (.t (.of 4))),.s (.zu 0 (.t (.of 3))),.s (.load (.s 0)),.s (.len (.s 0)),.w .push none (.call (.c (.fn 26 (.of 26) [])) [(.s 3),(.s 0)]),.q (.of 14) (.mv (.s 0))]
def F9.t40:IR:=.reg [.s (.mv (.t (.of 14))),.q (.of 22) (.bin .neq .int (.s 0) (.c (I 0)))]
def F9.t41:IR:=.reg [.s (.zh 2 (.t (.of 8))),.s (.mv (.t (.of 9))),.s (.mv (.t (.of 14))),.s (.zh 2 (.t (.of 8))),.w .push none (.call (.c (.fn 62 (.of 62) [])) [(.s 3),(.s 2),(.s 1),(.s 0)]),.q (.of 5) (.mv (.s 0))]
def F9.t42:IR:=.seq F9.t41 .ret
def F9.t43:IR:=.cond (.t (.of 22)) F9.t42 .skip
def F9.t44:IR:=.seq F9.t40 F9.t43
def F9.t45:IR:=.seq F9.t39 F9.t44
def F9.t46:IR:=.yw [] [(.s (.zh 2 (.t (.of 8))),1,[]),(.s (.mv (.t (.of 9))),1,[]),(.s (.zh 2 (.t (.of 3))),0,[]),(.s (.zh 2 (.t (.of 4))),0,[]),(.w .push none (.call (.c (.fn 65 (.of 65) [])) [(.s 1),(.s 0)]),0,[]),(.w .push none (.call (.c (.fn 62 (.of 62) [])) [(.s 4),(.s 3),(.c (I 0)),(.s 0)]),0,[]),(.q (.of 5) (.mv (.s 0)),0,[])]
def F9.t47:IR:=.seq F9.t46 .ret
def F9.t48:IR:=.seq F9.t45 F9.t47
def F9.t49:IR:=.seq F9.t38 F9.t48
def F9.t50:IR:=.seq F9.t33 F9.t49
def F9.t51:IR:=.seq F9.t28 F9.t50
def F9.t52:IR:=.seq F9.t27 F9.t51
def F9.t53:IR:=.seq F9.t22 F9.t52
def F9.t54:IR:=.seq F9.t16 F9.t53
def F9.t55:IR:=.seq F9.t15 F9.t54
def F9.t56:IR:=.seq F9.t14 F9.t55
def F9.t57:IR:=.seq F9.t9 F9.t56
def F9.t58:IR:=.seq F9.t8 F9.t57
def F9.t59:IR:=.seq F9.t7 F9.t58
def F9.t60:IR:=.seq F9.t6 F9.t59
def F9.t61:IR:=.seq F9.t5 F9.t60
def F9.t62:IR:=.seq F9.t0 F9.t61
theorem F9.qw:IR.run F9.t0 C N O K (F9.fr a c d f e i o p s u b g l q v w y z A B D E F) h nx =
 bW a h nx fun v1 h2 n3=>bW c h2 n3 fun v4 h5 n6=>K (F9.fr a c d v1 v4 (.bool false) o p s u b g l q v w y z A B D E F) h5 n6:=by kernel_rfl
theorem F9.qx:IR.run F9.t1 C N O K tm h nx=jF F9.r1_0 C ⟨tm,[]⟩ h nx (fun tm h nx=>K tm.v h nx):=xF ..
theorem F9.zgy:jF (.w .push none (.call (.c (.fn 18 (.of 18) [])) [])::r) C ⟨(F9.fr a c d f e i o p s u b g l q v w y z A B D E F),[]⟩ h nx Kt =
 C.fn 18 (.of 18) [] h nx fun v1 h2 n3=>jF r C ⟨(F9.fr a c d f e i o p s u b g l q v w y z A B D E F),v1::[]⟩ h2 n3 Kt:=by kernel_rfl
theorem F9.zdo:jF (.s (.not (.s 0))::.s (.mv (.s 0))::.p .push (some ((.s 0),false)) (.zu 0 (.t (.of 3)))::.p .push (some ((.s 1),false)) (.load (.s 0))::.w .push (some ((.s 2),false)) (.call (.c (.fn 51 (.of 51) [])) [(.s 0)])::r) C ⟨(F9.fr a c d f e i o p s u b g l q v w y z A B D E F),s0::[]⟩ h nx Kt =
 aV s0 fun v1=>sG v1 false (fun k=>zS 0 f k) fun v2=>sG v1 false (fun k=>zF v2 h k) fun v3=>sGW v1 false (fun k=>C.fn 51 (.of 51) [v3] h nx k) h nx fun v4 h5 n6=>jF r C ⟨(F9.fr a c d f e i o p s u b g l q v w y z A B D E F),v4::v3::v2::v1::v1::s0::[]⟩ h5 n6 Kt:=by kernel_rfl
theorem F9.zse:jF (.s (.pick (.s 3) (.c (.bool true)) (.s 0))::.s (.mv (.s 0))::.p .push (some ((.s 0),false)) (.zu 0 (.t (.of 4)))::.p .push (some ((.s 1),false)) (.load (.s 0))::.w .push (some ((.s 2),false)) (.call (.c (.fn 51 (.of 51) [])) [(.s 0)])::r) C ⟨(F9.fr a c d f e i o p s u b g l q v w y z A B D E F),s0::s1::s2::s3::s4::s5::[]⟩ h nx Kt =
 jM s3 (.bool true) s0 fun v1=>sG v1 false (fun k=>zS 0 e k) fun v2=>sG v1 false (fun k=>zF v2 h k) fun v3=>sGW v1 false (fun k=>C.fn 51 (.of 51) [v3] h nx k) h nx fun v4 h5 n6=>jF r C ⟨(F9.fr a c d f e i o p s u b g l q v w y z A B D E F),v4::v3::v2::v1::v1::s0::s1::s2::s3::s4::s5::[]⟩ h5 n6 Kt:=by kernel_rfl
theorem F9.zlx:jF (.s (.pick (.s 3) (.c (.bool true)) (.s 0))::.s (.mv (.s 0))::.p .push (some ((.s 0),false)) (.mv (.t (.of 2)))::.w .push (some ((.s 1),false)) (.call (.c (.fn 51 (.of 51) [])) [(.s 0)])::r) C ⟨(F9.fr a c d f e i o p s u b g l q v w y z A B D E F),s0::s1::s2::s3::s4::s5::s6::s7::s8::s9::s10::[]⟩ h nx Kt =
 jM s3 (.bool true) s0 fun v1=>sG v1 false (fun k=>k d) fun v2=>sGW v1 false (fun k=>C.fn 51 (.of 51) [v2] h nx k) h nx fun v3 h4 n5=>jF r C ⟨(F9.fr a c d f e i o p s u b g l q v w y z A B D E F),v3::v2::v1::v1::s0::s1::s2::s3::s4::s5::s6::s7::s8::s9::s10::[]⟩ h4 n5 Kt:=by kernel_rfl
theorem F9.zgz:jF (.q (.of 16) (.pick (.s 2) (.c (.bool true)) (.s 0))::[]) C ⟨(F9.fr a c d f e i o p s u b g l q v w y z A B D E F),s0::s1::s2::s3::s4::s5::s6::s7::s8::s9::s10::s11::s12::s13::s14::[]⟩ h nx Kt =
 jM s2 (.bool true) s0 fun v1=>Kt ⟨(F9.fr a c d f e i o p s u b g l q v w v1 z A B D E F),s0::s1::s2::s3::s4::s5::s6::s7::s8::s9::s10::s11::s12::s13::s14::[]⟩ h nx:=by kernel_rfl
theorem F9.bC:IR.run F9.t2 C N O K (F9.fr a c d f e i o p s u b g l q v w y z A B D E F) h nx =
 C.fn 18 (.of 18) [] h nx fun v1 h2 n3=>K (F9.fr a c d f e v1 o p s u b g l q v w y z A B D E F) h2 n3:=by kernel_rfl
theorem F9.v16:Arg.ev (.t (.of 16)) ⟨(F9.fr a c d f e i o p s u b g l q v w y z A B D E F),[]⟩=y:=by kernel_rfl
theorem F9.sO:IR.run F9.t6 C N O K (F9.fr a c d f e i o p s u b g l q v w y z A B D E F) h nx =
 zH 2 f h fun v1=>C.fn 52 (.of 52) [v1,d] h nx fun v2 h3 n4=>bg 0 v2 fun v5=>bg 1 v2 fun v6=>K (F9.fr a c d f e i v5 v6 s u b g l q v w y z A B D E F) h3 n4:=by kernel_rfl
theorem F9.t7_s:IR.run F9.t7 C N O K (F9.fr a c d f e i o p s u b g l q v w y z A B D E F) h nx =
 zH 2 f h fun v1=>zH 2 e h fun v2=>C.fn 53 (.of 53) [v1,v2] h nx fun v3 h4 n5=>bg 0 v3 fun v6=>bg 1 v3 fun v7=>yK [.zi,(.bool false)] h4 n5 fun v8 h9 nH=>zP 2 v8 v6 h9 nH fun vB hH nI=>K (F9.fr a c d f e i o p v8 v7 b g l q v w y z A B D E F) hH nI:=by kernel_rfl
theorem F9.rV:IR.run F9.t8 C N O K (F9.fr a c d f e i o p s u b g l q v w y z A B D E F) h nx =
 zH 2 f h fun v1=>C.fn 54 (.of 54) [v1] h nx fun v2 h3 n4=>bg 0 v2 fun v5=>bg 1 v2 fun v6=>yK [.zi,(.bool false)] h3 n4 fun v7 h8 n9=>zP 2 v7 v5 h8 n9 fun vA hG nG=>K (F9.fr a c d f e i o p s u v7 v6 l q v w y z A B D E F) hG nG:=by kernel_rfl
theorem F9.rE:IR.run F9.t9 C N O K (F9.fr a c d f e i o p s u b g l q v w y z A B D E F) h nx =
 zH 2 f h fun v1=>C.fn 55 (.of 55) [v1] h nx fun v2 h3 n4=>bg 0 v2 fun v5=>bg 1 v2 fun v6=>K (F9.fr a c d f e i o p s u b g v5 v6 v w y z A B D E F) h3 n4:=by kernel_rfl
theorem F9.rC:IR.run F9.t10 C N O K (F9.fr a c d f e i o p s u b g l q v w y z A B D E F) h nx =
 zH 2 f h fun v1=>sLen d fun v2=>zH 2 f h fun v3=>sLen d fun v4=>C.fn 56 (.of 56) [v1,v2] h nx fun v5 h6 n7=>(sLen d fun vD=>zO vD v4 (zO d d ((zH 2 f h6 fun vC=>zO vC v3 (C.fn 26 (.of 26) [v3,v4] h6 n7 fun v8 h9 nH=>yc .neq .int v5 v8 fun vB=>K (F9.fr a c d f e i o p s u b g l q v w y vB A B D E F) h9 nH))))):=by kernel_rfl
theorem F9.v17:Arg.ev (.t (.of 17)) ⟨(F9.fr a c d f e i o p s u b g l q v w y z A B D E F),[]⟩=z:=by kernel_rfl
theorem F9.rW:IR.run F9.t15 C N O K (F9.fr a c d f e i o p s u b g l q v w y z A B D E F) h nx =
 zH 2 f h fun v1=>sLen d fun v2=>C.fn 57 (.of 57) [d] h nx fun v3 h4 n5=>(sLen d fun vG=>zO vG v2 (zO d d ((zH 2 f h4 fun vF=>zO vF v1 (C.fn 26 (.of 26) [v1,v2] h4 n5 fun v6 h7 n8=>yX 1 2 [(I 0)] [(0,1,v3),(1,1,v6)] h7 n8 fun v9 hV nV=>C.fn 41 (.of 41) [v9] hV nV fun vC h13 n14=>K (F9.fr a c d f e i o p s u b g l q vC w y z A B D E F) h13 n14))))):=by kernel_rfl
theorem F9.fM:IR.run F9.t16 C N O K (F9.fr a c d f e i o p s u b g l q v w y z A B D E F) h nx =
 K (F9.fr a c d f e i o p s u b g l q v .zi y z A B D E F) h nx:=by kernel_rfl
theorem F9.rU:IR.run F9.t17 C N O K (F9.fr a c d f e i o p s u b g l q v w y z A B D E F) h nx =
 yc .eql .int v (I 0) fun v1=>K (F9.fr a c d f e i o p s u b g l q v w y z v1 B D E F) h nx:=by kernel_rfl
theorem F9.zae:IR.run F9.t18 C N O K (F9.fr a c d f e i o p s u b g l q v w y z A B D E F) h nx =
 zH 2 f h fun v1=>C.fn 58 (.of 58) [v1,d] h nx fun v2 h3 n4=>K (F9.fr a c d f e i o p s u b g l q v v2 y z A B D E F) h3 n4:=by kernel_rfl
theorem F9.zaf:IR.run F9.t19 C N O K (F9.fr a c d f e i o p s u b g l q v w y z A B D E F) h nx =
 C.fn 59 (.of 59) [w] h nx fun v1 h2 n3=>K (F9.fr a c d f e i o p s u b g l q v1 w y z A B D E F) h2 n3:=by kernel_rfl
theorem F9.v18:Arg.ev (.t (.of 18)) ⟨(F9.fr a c d f e i o p s u b g l q v w y z A B D E F),[]⟩=A:=by kernel_rfl
theorem F9.zck:IR.run F9.t23 C N O K (F9.fr a c d f e i o p s u b g l q v w y z A B D E F) h nx =
 C.fn 60 (.of 60) [o,p,v,w] h nx fun v1 h2 n3=>aV v1 fun v4=>K (F9.fr a c d f e i o p s u b g l q v w y z A v4 D E F) h2 n3:=by kernel_rfl
theorem F9.v19:Arg.ev (.t (.of 19)) ⟨(F9.fr a c d f e i o p s u b g l q v w y z A B D E F),[]⟩=B:=by kernel_rfl
theorem F9.zlu:IR.run F9.t28 C N O K (F9.fr a c d f e i o p s u b g l q v w y z A B D E F) h nx =
 zH 2 f h fun v1=>C.fn 61 (.of 61) [v1] h nx fun v2 h3 n4=>K (F9.fr a c d f e i o p s u b g l q v2 w y z A B D E F) h3 n4:=by kernel_rfl
theorem F9.zir:IR.run F9.t29 C N O K (F9.fr a c d f e i o p s u b g l q v w y z A B D E F) h nx =
 yc .neq .int v (I 0) fun v1=>K (F9.fr a c d f e i o p s u b g l q v w y z A B v1 E F) h nx:=by kernel_rfl
theorem F9.zcj:IR.run F9.t30 C N O K tm h nx=jF F9.zlw C ⟨tm,[]⟩ h nx (fun tm h nx=>K tm.v h nx):=xF ..
theorem F9.zo5:jF (.s (.zh 2 (.t (.of 8)))::.s (.mv (.t (.of 9)))::.s (.mv (.t (.of 14)))::.s (.zh 2 (.t (.of 8)))::.w .push none (.call (.c (.fn 62 (.of 62) [])) [(.s 3),(.s 2),(.s 1),(.s 0)])::r) C ⟨(F9.fr a c d f e i o p s u b g l q v w y z A B D E F),[]⟩ h nx Kt =
 zH 2 s h fun v1=>zH 2 s h fun v2=>C.fn 62 (.of 62) [v1,u,v,v2] h nx fun v3 h4 n5=>jF r C ⟨(F9.fr a c d f e i o p s u b g l q v w y z A B D E F),v3::v2::v::u::v1::[]⟩ h4 n5 Kt:=by kernel_rfl
theorem F9.zo6:jF (.s (.mv (.s 0))::.p .push (some ((.s 0),true)) (.zh 2 (.t (.of 10)))::.p .push (some ((.s 1),true)) (.mv (.t (.of 11)))::.p .push (some ((.s 2),true)) (.mv (.t (.of 14)))::.p .push (some ((.s 3),true)) (.zh 2 (.t (.of 10)))::.w .push (some ((.s 4),true)) (.call (.c (.fn 62 (.of 62) [])) [(.s 3),(.s 2),(.s 1),(.s 0)])::r) C ⟨(F9.fr a c d f e i o p s u b g l q v w y z A B D E F),s0::s1::s2::s3::s4::[]⟩ h nx Kt =
 sG s0 true (fun k=>zH 2 b h k) fun v1=>sG s0 true (fun k=>k g) fun v2=>sG s0 true (fun k=>k v) fun v3=>sG s0 true (fun k=>zH 2 b h k) fun v4=>sGW s0 true (fun k=>C.fn 62 (.of 62) [v1,v2,v3,v4] h nx k) h nx fun v5 h6 n7=>jF r C ⟨(F9.fr a c d f e i o p s u b g l q v w y z A B D E F),v5::v4::v3::v2::v1::s0::s0::s1::s2::s3::s4::[]⟩ h6 n7 Kt:=by kernel_rfl
theorem F9.zo7:jF (.s (.pick (.s 5) (.s 0) (.c (.bool false)))::.s (.mv (.s 0))::.p .push (some ((.s 0),true)) (.mv (.t (.of 12)))::.p .push (some ((.s 1),true)) (.bin .eql .int (.s 0) (.c (I 0)))::.s (.pick (.s 2) (.s 0) (.c (.bool false)))::.s (.mv (.s 0))::.p .push (some ((.s 0),true)) (.mv (.t (.of 13)))::.p .push (some ((.s 1),true)) (.mv (.t (.of 14)))::r) C ⟨(F9.fr a c d f e i o p s u b g l q v w y z A B D E F),s0::s1::s2::s3::s4::s5::s6::s7::s8::s9::s10::[]⟩ h nx Kt =
 jM s5 s0 (.bool false) fun v1=>sG v1 true (fun k=>k l) fun v2=>sG v1 true (fun k=>yc .eql .int v2 (I 0) k) fun v3=>jM v1 v3 (.bool false) fun v4=>sG v4 true (fun k=>k q) fun v5=>sG v4 true (fun k=>k v) fun v6=>jF r C ⟨(F9.fr a c d f e i o p s u b g l q v w y z A B D E F),v6::v5::v4::v4::v3::v2::v1::v1::s0::s1::s2::s3::s4::s5::s6::s7::s8::s9::s10::[]⟩ h nx Kt:=by kernel_rfl
theorem F9.zo8:jF (.p .push (some ((.s 2),true)) (.bin .eql .int (.s 1) (.s 0))::.s (.pick (.s 3) (.s 0) (.c (.bool false)))::.q (.of 5) (.mv (.s 0))::[]) C ⟨(F9.fr a c d f e i o p s u b g l q v w y z A B D E F),s0::s1::s2::s3::s4::s5::s6::s7::s8::s9::s10::s11::s12::s13::s14::s15::s16::s17::s18::[]⟩ h nx Kt =
 sG s2 true (fun k=>yc .eql .int s1 s0 k) fun v1=>jM s2 v1 (.bool false) fun v2=>Kt ⟨(F9.fr a c d f e v2 o p s u b g l q v w y z A B D E F),v2::v1::s0::s1::s2::s3::s4::s5::s6::s7::s8::s9::s10::s11::s12::s13::s14::s15::s16::s17::s18::[]⟩ h nx:=by kernel_rfl
theorem F9.v20:Arg.ev (.t (.of 20)) ⟨(F9.fr a c d f e i o p s u b g l q v w y z A B D E F),[]⟩=D:=by kernel_rfl
theorem F9.zuo:IR.run F9.t34 C N O K (F9.fr a c d f e i o p s u b g l q v w y z A B D E F) h nx =
 zH 2 b h fun v1=>zH 2 f h fun v2=>C.fn 63 (.of 63) [v2] h nx fun v3 h4 n5=>zO g g ((zH 2 b h4 fun vS=>zO vS v1 (C.fn 62 (.of 62) [v1,g,(I 0),v3] h4 n5 fun v6 h7 n8=>aV v6 fun v9=>sG v9 false (fun k=>k q) fun vA=>sG v9 false (fun k=>yc .neq .int vA (I 0) k) fun vB=>jM v9 (.bool true) vB fun vC=>bif gOk vC false then (sG vC false (fun k=>zH 2 f h7 k) fun vE=>sGW vC false (fun k=>C.fn 64 (.of 64) [vE] h7 n8 fun vI hL nM=>zO l l (k vI hL nM)) h7 n8 fun vF hB nB=>sG vC false (fun k=>yc .neq .int l vF k) fun vL=>jM vC (.bool true) vL fun vM=>K (F9.fr a c d f e i o p s u b g l q v w y z A B D vM F) hB nB) else (sG vC false (fun k=>zH 2 f h7 k) fun vN=>sGW vC false (fun k=>C.fn 64 (.of 64) [vN] h7 n8 k) h7 n8 fun vO hC nC=>sG vC false (fun k=>yc .neq .int .undef vO k) fun vP=>jM vC (.bool true) vP fun vT=>K (F9.fr a c d f e i o p s u b g l q v w y z A B D vT F) hC nC)))):=by kernel_rfl
theorem F9.v21:Arg.ev (.t (.of 21)) ⟨(F9.fr a c d f e i o p s u b g l q v w y z A B D E F),[]⟩=E:=by kernel_rfl
theorem F9.zup:IR.run F9.t39 C N O K (F9.fr a c d f e i o p s u b g l q v w y z A B D E F) h nx =
 zH 2 e h fun v1=>zS 0 f fun v2=>zF v2 h fun v3=>sLen v3 fun v4=>C.fn 26 (.of 26) [v1,v4] h nx fun v5 h6 n7=>K (F9.fr a c d f e i o p s u b g l q v5 w y z A B D E F) h6 n7:=by kernel_rfl
theorem F9.zuq:IR.run F9.t40 C N O K (F9.fr a c d f e i o p s u b g l q v w y z A B D E F) h nx =
 yc .neq .int v (I 0) fun v1=>K (F9.fr a c d f e i o p s u b g l q v w y z A B D E v1) h nx:=by kernel_rfl
theorem F9.zur:IR.run F9.t41 C N O K (F9.fr a c d f e i o p s u b g l q v w y z A B D E F) h nx =
 zH 2 s h fun v1=>zH 2 s h fun v2=>C.fn 62 (.of 62) [v1,u,v,v2] h nx fun v3 h4 n5=>K (F9.fr a c d f e v3 o p s u b g l q v w y z A B D E F) h4 n5:=by kernel_rfl
theorem F9.v22:Arg.ev (.t (.of 22)) ⟨(F9.fr a c d f e i o p s u b g l q v w y z A B D E F),[]⟩=F:=by kernel_rfl
theorem F9.zus:IR.run F9.t46 C N O K (F9.fr a c d f e i o p s u b g l q v w y z A B D E F) h nx =
 zH 2 s h fun v1=>zH 2 f h fun v2=>zH 2 e h fun v3=>C.fn 65 (.of 65) [v2,v3] h nx fun v4 h5 n6=>zO u u ((zH 2 s h5 fun vA=>zO vA v1 (C.fn 62 (.of 62) [v1,u,(I 0),v4] h5 n6 fun v7 h8 n9=>K (F9.fr a c d f e v7 o p s u b g l q v w y z A B D E F) h8 n9))):=by kernel_rfl
theorem F9.tab:T.get none (.of 9) tbl=some F9:=by kernel_rfl
theorem F9.bind (k:T AV->OP):zY F9.params [a0,a1,a2] F9.init k=k (F9.fr a0 a1 a2 .undef .undef .undef .undef .undef .undef .undef .undef .undef .undef .undef .undef .undef .undef .undef .undef .undef .undef .undef .undef):=by kernel_rfl
theorem F9.yx:F9.body=F9.t62:=by kernel_rfl
theorem F9.go:zW tbl N C (.of 9) [a0,a1,a2] h nx K0=IR.run F9.t62 C N (fnO F9.res K0) (jm F9.res K0) (F9.fr a0 a1 a2 .undef .undef .undef .undef .undef .undef .undef .undef .undef .undef .undef .undef .undef .undef .undef .undef .undef .undef .undef .undef) h nx:=by
 rw [zL F9.tab,F9.bind,F9.yx];kernel_rfl
theorem F9.ret:jm F9.res K0 (F9.fr a c d f e i o p s u b g l q v w y z A B D E F) h nx=K0 i h nx:=by kernel_rfl
end
end Go.Ev
namespace Go.Ev
open Go Go.Proofs
set_option maxRecDepth 100000
section
variable {N:Nat} {C:Calls Prop} {K0:Kw Prop} {K:Ks Prop} {h:T Blk} {nx:Pa} {a c d f e i o p s u b g l q v w y z A a0 a1:AV} {O:qg Prop} {tm:T AV} {Kt:KTm} {r:List RO} {s0 s1 s2 s3 s4 s5 s6 s7 s8 s9 s10 s11 s12 s13 s14 s15 s16 s17 s18 s19 s20 s21 s22 s23 s24 s25 s26 s27 s28 s29 s30 s31 s32 s33 s34 s35 s36 s37 s38 s39 s40 s41 s42 s43 s44 s45 s46 s47 s48 s49 s50 s51 s52 s53 s54 s55 s56 s57 s58 s59:AV}
end
end Go.Ev
