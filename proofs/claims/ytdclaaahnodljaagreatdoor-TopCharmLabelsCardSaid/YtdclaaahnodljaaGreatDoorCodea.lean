import Derived.Test.YtdclaaahnodljaaGreatDoorIrT
import Derived.KernelRfl
import Derived.Test.YtdclaaahnodljaaGreatDoorEvD
set_option linter.unusedSimpArgs false
set_option linter.unusedVariables false
noncomputable section
namespace Go.Ev
open Go Go.Proofs
set_option maxRecDepth 100000
variable {N:Nat} {C:Calls Prop} {K0:Kw Prop} {K R:Ks Prop} {h:T Blk} {nx:Pa} {d c f g e p v a0 a1 z H a2 L a b l i q s u w y A D B E F G P M x27 x28 Q U a3 a4 a5 a6 a7:AV}
theorem F48.tab:T.get none (.of 48) tbl=some F48:=by kernel_rfl
theorem F48.go:zM tbl N C (.of 48) [a0] h nx K0 =
 zf .eql (.nil .sl) a0 .zh fun v1=>zQ v1 (K0 .zh h nx) (yE 1 0 [(I 0)] [] h nx fun v2 h3 n4=>ny 1 8 v2 a0 h3 n4 fun v5 h6 n7=>K0 v5 h6 n7):=by
 rw [zG F48.tab];kernel_rfl
theorem tY.tab:T.get none (.of 105) tbl=some tY:=by kernel_rfl
theorem tY.go:zM tbl N C (.of 105) [a0,a1] h nx K0 =
 zQ a0 (K0 a1 h nx) (K0 (I 0) h nx):=by
 rw [zG tY.tab];kernel_rfl
theorem eF.tab:T.get none (.of 197) tbl=some eF:=by kernel_rfl
theorem eF.go:zM tbl N C (.of 197) [a0,a1] h nx K0 =
 zB a1 h fun v1=>C.fn 190 (.of 190) [a0,v1] h nx fun v2 h3 n4=>K0 v2 h3 n4:=by
 rw [zG eF.tab];kernel_rfl
theorem eG.tab:T.get none (.of 196) tbl=some eG:=by kernel_rfl
theorem eG.go:zM tbl N C (.of 196) [a0,a1] h nx K0 =
 C.fn 238 (.of 238) [a0,a1] h nx fun v1 h2 n3=>zf .geq .int v1 (I 0) fun v4=>K0 v4 h2 n3:=by
 rw [zG eG.tab];kernel_rfl
theorem gy.uf (X2:IR) (O:gu Prop) (t:T AV):IR.run (gy.g1 X2) C N O K t h nx=IR.run X2 C N (O.blk 0 K) K t h nx:=by kernel_rfl
theorem gy.tab:T.get none (.of 238) tbl=some gy:=by kernel_rfl
theorem gy.go:zM tbl N C (.of 238) [a0,a1] h nx K0 =
 sLen a0 fun v1=>IR.run gy.b1 C N (fnO gy.res K0) (IR.run gy.b8 C N (fnO gy.res K0) (xu gy.res K0)) (gy.fr a0 a1 (I 0) .undef v1 (I 0) .undef .undef) h nx:=by
 rw [zG gy.tab];kernel_rfl
theorem gy.L1 (Inv:Nat->AV->T Blk->Pa->Prop) {m:Nat} (hm:m<N) (hi:Inv m p h nx)
  (step:∀ (m:Nat) (z2 z3 z5 z6 z7:AV) (h:T Blk) (nx:Pa) (R:Ks Prop),Inv m z5 h nx->(∀ (m':Nat) (w2 w3 w5 w6 w7:AV) (h':T Blk) (nx':Pa),m'<m->Inv m' w5 h' nx'->R (gy.fr d c w2 w3 e w5 w6 w7) h' nx'=.ok True) ->
   (zf .lss .int z5 e fun v1=>zQ v1 (zO 1 d z5 fun v2=>zB v2 h fun v3=>vB C c [v3] h nx fun v4 h5 n6=>zQ v4 (K0 z5 h5 n6) (zf .add .int z5 (I 1) fun v7=>R (gy.fr d c z2 z5 e v7 v1 v4) h5 n6)) (K (gy.fr d c z2 z3 e z5 v1 z7) h nx))=.ok True) :
  IR.run gy.b1 C N (fnO gy.res K0) K (gy.fr d c f g e p v z) h nx=.ok True:=by
 rw [gy.b1,gy.uf,gy.b2];refine yB (fun m tm h nx=>∃ z2 z3 z5 z6 z7,tm=(gy.fr d c z2 z3 e z5 z6 z7)/\Inv m z5 h nx) ?_ hm ⟨_,_,_,_,_,rfl,hi⟩;rintro m tm h nx R ⟨z2,z3,z5,z6,z7,rfl,hi⟩ hR;refine Eq.trans ?_ (step m z2 z3 z5 z6 z7 h nx R hi fun m' w2 w3 w5 w6 w7 h' nx' hlt hi'=>hR m' _ h' nx' hlt ⟨_,_,_,_,_,rfl,hi'⟩)
 kernel_rfl
theorem gy.k8:IR.run gy.b8 C N (fnO gy.res K0) K (gy.fr d c f g e p v z) h nx =
 K0 (I (-1)) h nx:=by kernel_rfl
theorem jv.sS (X3:IR) (O:gu Prop) (t:T AV):IR.run (jv.g2 X3) C N O K t h nx=IR.run X3 C N (O.blk 0 K) K t h nx:=by kernel_rfl
theorem jv.tab:T.get none (.of 190) tbl=some jv:=by kernel_rfl
theorem jv.go:zM tbl N C (.of 190) [a0,a1] h nx K0 =
 sLen a0 fun v1=>sLen a1 fun v2=>zf .neq .int v1 v2 fun v3=>zQ v3 (K0 (.bool false) h nx) (sLen a0 fun v4=>IR.run jv.b2 C N (fnO jv.res K0) (IR.run jv.b9 C N (fnO jv.res K0) (xu jv.res K0)) (jv.fr a0 a1 (.bool false) .undef v3 v4 (I 0) .undef .undef) h nx):=by
 rw [zG jv.tab];kernel_rfl
theorem jv.L2 (Inv:Nat->AV->T Blk->Pa->Prop) {m:Nat} (hm:m<N) (hi:Inv m v h nx)
  (step:∀ (m:Nat) (z2 z3 z6 z7 z8:AV) (h:T Blk) (nx:Pa) (R:Ks Prop),Inv m z6 h nx->(∀ (m':Nat) (w2 w3 w6 w7 w8:AV) (h':T Blk) (nx':Pa),m'<m->Inv m' w6 h' nx'->R (jv.fr d c w2 w3 e p w6 w7 w8) h' nx'=.ok True) ->
   (zf .lss .int z6 p fun v1=>zQ v1 (zO 1 d z6 fun v2=>zB v2 h fun v3=>zO 1 c z6 fun v4=>zB v4 h fun v5=>zf .neq .int v3 v5 fun v6=>zQ v6 (K0 (.bool false) h nx) (zf .add .int z6 (I 1) fun v7=>R (jv.fr d c z2 z6 e p v7 v1 v6) h nx)) (K (jv.fr d c z2 z3 e p z6 v1 z8) h nx))=.ok True) :
  IR.run jv.b2 C N (fnO jv.res K0) K (jv.fr d c f g e p v z H) h nx=.ok True:=by
 rw [jv.b2,jv.sS,jv.b3];refine yB (fun m tm h nx=>∃ z2 z3 z6 z7 z8,tm=(jv.fr d c z2 z3 e p z6 z7 z8)/\Inv m z6 h nx) ?_ hm ⟨_,_,_,_,_,rfl,hi⟩;rintro m tm h nx R ⟨z2,z3,z6,z7,z8,rfl,hi⟩ hR;refine Eq.trans ?_ (step m z2 z3 z6 z7 z8 h nx R hi fun m' w2 w3 w6 w7 w8 h' nx' hlt hi'=>hR m' _ h' nx' hlt ⟨_,_,_,_,_,rfl,hi'⟩)
 kernel_rfl
theorem jv.k9:IR.run jv.b9 C N (fnO jv.res K0) K (jv.fr d c f g e p v z H) h nx =
 K0 (.bool true) h nx:=by kernel_rfl
theorem F42.uf (X2:IR) (O:gu Prop) (t:T AV):IR.run (F42.g1 X2) C N O K t h nx=IR.run X2 C N (O.blk 0 K) K t h nx:=by kernel_rfl
theorem F42.tab:T.get none (.of 42) tbl=some F42:=by kernel_rfl
theorem F42.go:zM tbl N C (.of 42) [a0] h nx K0 =
 sLen a0 fun v1=>IR.run F42.b1 C N (fnO F42.res K0) (IR.run F42.b8 C N (fnO F42.res K0) (xu F42.res K0)) (F42.fr a0 (I 0) .undef a0 v1 (I 0) .undef .undef) h nx:=by
 rw [zG F42.tab];kernel_rfl
theorem F42.L1 (Inv:Nat->AV->T Blk->Pa->Prop) {m:Nat} (hm:m<N) (hi:Inv m p h nx)
  (step:∀ (m:Nat) (z1 z2 z5 z6 z7:AV) (h:T Blk) (nx:Pa) (R:Ks Prop),Inv m z5 h nx->(∀ (m':Nat) (w1 w2 w5 w6 w7:AV) (h':T Blk) (nx':Pa),m'<m->Inv m' w5 h' nx'->R (F42.fr d w1 w2 g e w5 w6 w7) h' nx'=.ok True) ->
   (zf .lss .int z5 e fun v1=>zQ v1 (zO 1 g z5 fun v2=>zB v2 h fun v3=>zf .neq .int v3 (I 0) fun v4=>zQ v4 (K0 v3 h nx) (zf .add .int z5 (I 1) fun v5=>R (F42.fr d z1 v3 g e v5 v1 v4) h nx)) (K (F42.fr d z1 z2 g e z5 v1 z7) h nx))=.ok True) :
  IR.run F42.b1 C N (fnO F42.res K0) K (F42.fr d c f g e p v z) h nx=.ok True:=by
 rw [F42.b1,F42.uf,F42.b2];refine yB (fun m tm h nx=>∃ z1 z2 z5 z6 z7,tm=(F42.fr d z1 z2 g e z5 z6 z7)/\Inv m z5 h nx) ?_ hm ⟨_,_,_,_,_,rfl,hi⟩;rintro m tm h nx R ⟨z1,z2,z5,z6,z7,rfl,hi⟩ hR;refine Eq.trans ?_ (step m z1 z2 z5 z6 z7 h nx R hi fun m' w1 w2 w5 w6 w7 h' nx' hlt hi'=>hR m' _ h' nx' hlt ⟨_,_,_,_,_,rfl,hi'⟩)
 kernel_rfl
theorem F42.k8:IR.run F42.b8 C N (fnO F42.res K0) K (F42.fr d c f g e p v z) h nx =
 K0 (I 0) h nx:=by kernel_rfl
theorem F44.tab:T.get none (.of 44) tbl=some F44:=by kernel_rfl
theorem F44.go:zM tbl N C (.of 44) [a0,a1] h nx K0 =
 zQ a0 (K0 a1 h nx) (K0 (I 0) h nx):=by
 rw [zG F44.tab];kernel_rfl
theorem F70.tab:T.get none (.of 70) tbl=some F70:=by kernel_rfl
theorem F70.go:zM tbl N C (.of 70) [a0,a1,a2] h nx K0 =
 fC a0 h nx fun v1 h2 n3=>fC a1 h2 n3 fun v4 h5 n6=>C.fn 66 (.of 66) [a2,(.fn 131 (.of 131) [v1,v4])] h5 n6 fun v7 h8 n9=>C.fn 44 (.of 44) [v7,(I 3)] h8 n9 fun vA hA nA=>K0 vA hA nA:=by
 rw [zG F70.tab];kernel_rfl
theorem eH.tab:T.get none (.of 131) tbl=some eH:=by kernel_rfl
theorem eH.go:zM tbl N C (.of 131) [a0,a1,a2] h nx K0 =
 zB a1 h fun v1=>zf .lss .int a0 v1 fun v2=>sG v2 false (fun k=>k a0) fun v3=>sG v2 false (fun k=>zB a2 h k) fun v4=>sG v2 false (fun k=>zf .gtr .int v3 v4 k) fun v5=>jN v2 (.bool true) v5 fun v6=>K0 v6 h nx:=by
 rw [zG eH.tab];kernel_rfl
theorem F66.tab:T.get none (.of 66) tbl=some F66:=by kernel_rfl
theorem F66.go:zM tbl N C (.of 66) [a0,a1] h nx K0 =
 C.fn 127 (.of 127) [a0,a1] h nx fun v1 h2 n3=>zf .geq .int v1 (I 0) fun v4=>K0 v4 h2 n3:=by
 rw [zG F66.tab];kernel_rfl
theorem ug.uf (X2:IR) (O:gu Prop) (t:T AV):IR.run (ug.g1 X2) C N O K t h nx=IR.run X2 C N (O.blk 0 K) K t h nx:=by kernel_rfl
theorem ug.tab:T.get none (.of 127) tbl=some ug:=by kernel_rfl
theorem ug.go:zM tbl N C (.of 127) [a0,a1] h nx K0 =
 sLen a0 fun v1=>IR.run ug.b1 C N (fnO ug.res K0) (IR.run ug.b8 C N (fnO ug.res K0) (xu ug.res K0)) (ug.fr a0 a1 (I 0) .undef v1 (I 0) .undef .undef) h nx:=by
 rw [zG ug.tab];kernel_rfl
theorem ug.L1 (Inv:Nat->AV->T Blk->Pa->Prop) {m:Nat} (hm:m<N) (hi:Inv m p h nx)
  (step:∀ (m:Nat) (z2 z3 z5 z6 z7:AV) (h:T Blk) (nx:Pa) (R:Ks Prop),Inv m z5 h nx->(∀ (m':Nat) (w2 w3 w5 w6 w7:AV) (h':T Blk) (nx':Pa),m'<m->Inv m' w5 h' nx'->R (ug.fr d c w2 w3 e w5 w6 w7) h' nx'=.ok True) ->
   (zf .lss .int z5 e fun v1=>zQ v1 (zO 1 d z5 fun v2=>zB v2 h fun v3=>vB C c [v3] h nx fun v4 h5 n6=>zQ v4 (K0 z5 h5 n6) (zf .add .int z5 (I 1) fun v7=>R (ug.fr d c z2 z5 e v7 v1 v4) h5 n6)) (K (ug.fr d c z2 z3 e z5 v1 z7) h nx))=.ok True) :
  IR.run ug.b1 C N (fnO ug.res K0) K (ug.fr d c f g e p v z) h nx=.ok True:=by
 rw [ug.b1,ug.uf,ug.b2];refine yB (fun m tm h nx=>∃ z2 z3 z5 z6 z7,tm=(ug.fr d c z2 z3 e z5 z6 z7)/\Inv m z5 h nx) ?_ hm ⟨_,_,_,_,_,rfl,hi⟩;rintro m tm h nx R ⟨z2,z3,z5,z6,z7,rfl,hi⟩ hR;refine Eq.trans ?_ (step m z2 z3 z5 z6 z7 h nx R hi fun m' w2 w3 w5 w6 w7 h' nx' hlt hi'=>hR m' _ h' nx' hlt ⟨_,_,_,_,_,rfl,hi'⟩)
 kernel_rfl
theorem ug.k8:IR.run ug.b8 C N (fnO ug.res K0) K (ug.fr d c f g e p v z) h nx =
 K0 (I (-1)) h nx:=by kernel_rfl
theorem uh.uf (X2:IR) (O:gu Prop) (t:T AV):IR.run (uh.g1 X2) C N O K t h nx=IR.run X2 C N (O.blk 0 K) K t h nx:=by kernel_rfl
theorem uh.tab:T.get none (.of 104) tbl=some uh:=by kernel_rfl
theorem uh.go:zM tbl N C (.of 104) [a0] h nx K0 =
 sLen a0 fun v1=>IR.run uh.b1 C N (fnO uh.res K0) (IR.run uh.b8 C N (fnO uh.res K0) (xu uh.res K0)) (uh.fr a0 (I 0) .undef a0 v1 (I 0) .undef .undef) h nx:=by
 rw [zG uh.tab];kernel_rfl
theorem uh.L1 (Inv:Nat->AV->T Blk->Pa->Prop) {m:Nat} (hm:m<N) (hi:Inv m p h nx)
  (step:∀ (m:Nat) (z1 z2 z5 z6 z7:AV) (h:T Blk) (nx:Pa) (R:Ks Prop),Inv m z5 h nx->(∀ (m':Nat) (w1 w2 w5 w6 w7:AV) (h':T Blk) (nx':Pa),m'<m->Inv m' w5 h' nx'->R (uh.fr d w1 w2 g e w5 w6 w7) h' nx'=.ok True) ->
   (zf .lss .int z5 e fun v1=>zQ v1 (zO 1 g z5 fun v2=>zB v2 h fun v3=>zf .neq .int v3 (I 0) fun v4=>zQ v4 (K0 v3 h nx) (zf .add .int z5 (I 1) fun v5=>R (uh.fr d z1 v3 g e v5 v1 v4) h nx)) (K (uh.fr d z1 z2 g e z5 v1 z7) h nx))=.ok True) :
  IR.run uh.b1 C N (fnO uh.res K0) K (uh.fr d c f g e p v z) h nx=.ok True:=by
 rw [uh.b1,uh.uf,uh.b2];refine yB (fun m tm h nx=>∃ z1 z2 z5 z6 z7,tm=(uh.fr d z1 z2 g e z5 z6 z7)/\Inv m z5 h nx) ?_ hm ⟨_,_,_,_,_,rfl,hi⟩;rintro m tm h nx R ⟨z1,z2,z5,z6,z7,rfl,hi⟩ hR;refine Eq.trans ?_ (step m z1 z2 z5 z6 z7 h nx R hi fun m' w1 w2 w5 w6 w7 h' nx' hlt hi'=>hR m' _ h' nx' hlt ⟨_,_,_,_,_,rfl,hi'⟩)
 kernel_rfl
theorem uh.k8:IR.run uh.b8 C N (fnO uh.res K0) K (uh.fr d c f g e p v z) h nx =
 K0 (I 0) h nx:=by kernel_rfl
theorem F73.sS (X3:IR) (O:gu Prop) (t:T AV):IR.run (F73.g2 X3) C N O K t h nx=IR.run X3 C N (O.blk 0 K) K t h nx:=by kernel_rfl
theorem F73.tab:T.get none (.of 73) tbl=some F73:=by kernel_rfl
theorem F73.go:zM tbl N C (.of 73) [a0] h nx K0 =
 fC a0 h nx fun v1 h2 n3=>zJ 0 v1 fun v4=>zB v4 h2 fun v5=>zJ 1 v1 fun v6=>zB v6 h2 fun v7=>sLen v7 fun v8=>zf .gtr .int v8 (I 128) fun v9=>yE 1 1 [(I 0)] [(0,1,v5)] h2 n3 fun vA hA nA=>(zf .gtr .int v8 (I 128) fun vC=>zS vC v9 ((sLen v7 fun vD=>zS vD v8 ((zB v6 hA fun vE=>zS vE v7 ((zJ 1 v1 fun vF=>zS vF v6 (C.fn 70 (.of 70) [(I 1),(I 256),vA] hA nA fun vG hB nB=>(zf .gtr .int v8 (I 128) fun vH=>zS vH v9 ((sLen v7 fun vI=>zS vI v8 ((zB v6 hB fun vJ=>zS vJ v7 ((zJ 1 v1 fun vK=>zS vK v6 (C.fn 44 (.of 44) [v9,(I 5)] hB nB fun vL hC nC=>yE 1 2 [(I 0)] [(0,1,vG),(1,1,vL)] hC nC fun vM hD nD=>C.fn 42 (.of 42) [vM] hD nD fun vN hE nE=>zf .neq .int vN (I 0) fun vO=>zQ vO (K0 vN hE nE) (zJ 1 v1 fun vP=>zB vP hE fun vQ=>sLen vQ fun vR=>IR.run F73.b2 C N (fnO F73.res K0) (IR.run F73.b9 C N (fnO F73.res K0) (xu F73.res K0)) (F73.fr a0 v1 (I 0) vN .undef .undef vO vR (I 0) .undef .undef) hE nE))))))))))))))))):=by
 rw [zG F73.tab];kernel_rfl
theorem F73.L2 (Inv:Nat->AV->T Blk->Pa->Prop) {m:Nat} (hm:m<N) (hi:Inv m H h nx)
  (step:∀ (m:Nat) (z2 z4 z5 z8 z9 zA:AV) (h:T Blk) (nx:Pa) (R:Ks Prop),Inv m z8 h nx->(∀ (m':Nat) (w2 w4 w5 w8 w9 wA:AV) (h':T Blk) (nx':Pa),m'<m->Inv m' w8 h' nx'->R (F73.fr d c w2 g w4 w5 v z w8 w9 wA) h' nx'=.ok True) ->
   (zf .lss .int z8 z fun v1=>zQ v1 (zK 2 c h fun v2=>C.fn 136 (.of 136) [v2,z8] h nx fun v3 h4 n5=>zf .neq .int v3 (I 0) fun v6=>zQ v6 (K0 v3 h4 n5) (zf .add .int z8 (I 1) fun v7=>R (F73.fr d c z2 g z8 v3 v z v7 v1 v6) h4 n5)) (K (F73.fr d c z2 g z4 z5 v z z8 v1 zA) h nx))=.ok True) :
  IR.run F73.b2 C N (fnO F73.res K0) K (F73.fr d c f g e p v z H L a) h nx=.ok True:=by
 rw [F73.b2,F73.sS,F73.b3];refine yB (fun m tm h nx=>∃ z2 z4 z5 z8 z9 zA,tm=(F73.fr d c z2 g z4 z5 v z z8 z9 zA)/\Inv m z8 h nx) ?_ hm ⟨_,_,_,_,_,_,rfl,hi⟩;rintro m tm h nx R ⟨z2,z4,z5,z8,z9,zA,rfl,hi⟩ hR;refine Eq.trans ?_ (step m z2 z4 z5 z8 z9 zA h nx R hi fun m' w2 w4 w5 w8 w9 wA h' nx' hlt hi'=>hR m' _ h' nx' hlt ⟨_,_,_,_,_,_,rfl,hi'⟩)
 kernel_rfl
theorem F73.k9:IR.run F73.b9 C N (fnO F73.res K0) K (F73.fr d c f g e p v z H L a) h nx =
 K0 (I 0) h nx:=by kernel_rfl
theorem jq.sS (X3:IR) (O:gu Prop) (t:T AV):IR.run (jq.g2 X3) C N O K t h nx=IR.run X3 C N (O.blk 0 K) K t h nx:=by kernel_rfl
theorem jq.tab:T.get none (.of 136) tbl=some jq:=by kernel_rfl
theorem jq.go:zM tbl N C (.of 136) [a0,a1] h nx K0 =
 fC a0 h nx fun v1 h2 n3=>zJ 1 v1 fun v4=>zB v4 h2 fun v5=>zO 1 v5 a1 fun v6=>zB v6 h2 fun v7=>yG [.zh] h2 n3 fun v8 h9 nF=>zN 1 v8 v7 h9 nF fun vS hF nG=>zB v8 hF fun vT=>sLen vT fun vU=>zf .eql .int vU (I 0) fun vL=>zQ vL (K0 (I 12) hF nG) (zB v8 hF fun vV=>sLen vV fun vW=>IR.run jq.b2 C N (fnO jq.res K0) (IR.run jq.b9 C N (fnO jq.res K0) (xu jq.res K0)) (jq.fr a0 a1 v1 (I 0) v8 .undef .undef .undef vL vV vW (I 0) .undef .undef) hF nG):=by
 rw [zG jq.tab];kernel_rfl
theorem jq.L2 (Inv:Nat->AV->T Blk->Pa->Prop) {m:Nat} (hm:m<N) (hi:Inv m b h nx)
  (step:∀ (m:Nat) (z3 z5 z6 z7 zC zD zE:AV) (h:T Blk) (nx:Pa) (R:Ks Prop),Inv m zC h nx->(∀ (m':Nat) (w3 w5 w6 w7 wB wC wD:AV) (h':T Blk) (nx':Pa),m'<m->Inv m' wB h' nx'->R (jq.fr d c f w3 e w5 w6 w7 H L a wB wC wD) h' nx'=.ok True) ->
   (zf .lss .int zC a fun v1=>zQ v1 (zO 1 L zC fun v2=>zB v2 h fun v3=>zf .lss .int v3 (I 0) fun v4=>sG v4 false (fun k=>k v3) fun v5=>sG v4 false (fun k=>zJ 0 f k) fun v6=>sG v4 false (fun k=>zB v6 h k) fun v7=>sG v4 false (fun k=>zf .geq .int v5 v7 k) fun v8=>jN v4 (.bool true) v8 fun v9=>C.fn 44 (.of 44) [v9,(I 10)] h nx fun vA hA nA=>zf .gtr .int zC (I 0) fun vG=>sG vG true (fun k=>zB e hA k) fun vT=>sG vG true (fun k=>k zC) fun vU=>sG vG true (fun k=>zf .sub .int vU (I 1) k) fun vL=>sG vG true (fun k=>zO 1 vT vL k) fun vV=>sG vG true (fun k=>zB vV hA k) fun vW=>sG vG true (fun k=>k v3) fun vM=>sG vG true (fun k=>zf .geq .int vW vM k) fun vX=>jN vG vX (.bool false) fun vY=>C.fn 44 (.of 44) [vY,(I 11)] hA nA fun vN hE nE=>yE 1 2 [(I 0)] [(0,1,vA),(1,1,vN)] hE nE fun vO hG nH=>C.fn 42 (.of 42) [vO] hG nH fun vR hH nI=>zf .neq .int vR (I 0) fun vI=>zQ vI (K0 vR hH nI) (zf .add .int zC (I 1) fun vH=>R (jq.fr d c f z3 e zC v3 vR H L a vH v1 vI) hH nI)) (K (jq.fr d c f z3 e z5 z6 z7 H L a zC v1 zE) h nx))=.ok True) :
  IR.run jq.b2 C N (fnO jq.res K0) K (jq.fr d c f g e p v z H L a b l i) h nx=.ok True:=by
 rw [jq.b2,jq.sS,jq.b3];refine yB (fun m tm h nx=>∃ z3 z5 z6 z7 zC zD zE,tm=(jq.fr d c f z3 e z5 z6 z7 H L a zC zD zE)/\Inv m zC h nx) ?_ hm ⟨_,_,_,_,_,_,_,rfl,hi⟩;rintro m tm h nx R ⟨z3,z5,z6,z7,zC,zD,zE,rfl,hi⟩ hR;refine Eq.trans ?_ (step m z3 z5 z6 z7 zC zD zE h nx R hi fun m' w3 w5 w6 w7 wB wC wD h' nx' hlt hi'=>hR m' _ h' nx' hlt ⟨_,_,_,_,_,_,_,rfl,hi'⟩)
 kernel_rfl
theorem jq.k9:IR.run jq.b9 C N (fnO jq.res K0) K (jq.fr d c f g e p v z H L a b l i) h nx =
 zJ 1 f fun v1=>zB v1 h fun v2=>kZ 1 v2 none (some c) none fun v3=>C.fn 196 (.of 196) [v3,(.fn 197 (.of 197) [e])] h nx fun v4 h5 n6=>C.fn 44 (.of 44) [v4,(I 9)] h5 n6 fun v7 h8 n9=>K0 v7 h8 n9:=by kernel_rfl
theorem uj.uf (X2:IR) (O:gu Prop) (t:T AV):IR.run (uj.g1 X2) C N O K t h nx=IR.run X2 C N (O.blk 0 K) K t h nx:=by kernel_rfl
theorem uj.tab:T.get none (.of 220) tbl=some uj:=by kernel_rfl
theorem uj.go:zM tbl N C (.of 220) [a0] h nx K0 =
 fC a0 h nx fun v1 h2 n3=>zK 2 v1 h2 fun v4=>C.fn 262 (.of 262) [v4] h2 n3 fun v5 h6 n7=>C.fn 102 (.of 102) [v5] h6 n7 fun v8 h9 nF=>C.fn 101 (.of 101) [v8] h9 nF fun vS hF nG=>sLen vS fun vT=>IR.run uj.b1 C N (fnO uj.res K0) (IR.run uj.b8 C N (fnO uj.res K0) (xu uj.res K0)) (uj.fr a0 v1 (I 0) (I 0) vS (I 0) (I 0) .undef .undef .undef vS vT (I 0) .undef) hF nG:=by
 rw [zG uj.tab];kernel_rfl
theorem uj.L1 (Inv:Nat->AV->AV->AV->T Blk->Pa->Prop) {m:Nat} (hm:m<N) (hi:Inv m p v l h nx)
  (step:∀ (m:Nat) (z5 z6 z7 z8 zD zE:AV) (h:T Blk) (nx:Pa) (R:Ks Prop),Inv m z5 z6 zD h nx->(∀ (m':Nat) (w5 w6 w7 w8 wC wD:AV) (h':T Blk) (nx':Pa),m'<m->Inv m' w5 w6 wC h' nx'->R (uj.fr d c f g e w5 w6 w7 w8 L a b wC wD) h' nx'=.ok True) ->
   (zf .lss .int zD b fun v1=>zQ v1 (zO 1 a zD fun v2=>zB v2 h fun v3=>zf .add .int zD (I 1) fun v4=>zf .mul .int v3 v4 fun v5=>zf .add .int z6 v5 fun v6=>sLen e fun v7=>zf .sub .int v7 zD fun v8=>zf .mul .int v3 v8 fun v9=>zf .add .int z5 v9 fun vA=>zf .add .int zD (I 1) fun vS=>R (uj.fr d c f g e vA v6 zD v3 L a b vS v1) h nx) (K (uj.fr d c f g e z5 z6 z7 z8 L a b zD v1) h nx))=.ok True) :
  IR.run uj.b1 C N (fnO uj.res K0) K (uj.fr d c f g e p v z H L a b l i) h nx=.ok True:=by
 rw [uj.b1,uj.uf,uj.b2];refine yB (fun m tm h nx=>∃ z5 z6 z7 z8 zD zE,tm=(uj.fr d c f g e z5 z6 z7 z8 L a b zD zE)/\Inv m z5 z6 zD h nx) ?_ hm ⟨_,_,_,_,_,_,rfl,hi⟩;rintro m tm h nx R ⟨z5,z6,z7,z8,zD,zE,rfl,hi⟩ hR;refine Eq.trans ?_ (step m z5 z6 z7 z8 zD zE h nx R hi fun m' w5 w6 w7 w8 wC wD h' nx' hlt hi'=>hR m' _ h' nx' hlt ⟨_,_,_,_,_,_,rfl,hi'⟩)
 kernel_rfl
theorem uj.k8:IR.run uj.b8 C N (fnO uj.res K0) K (uj.fr d c f g e p v z H L a b l i) h nx =
 zJ 1 c fun v1=>zB v1 h fun v2=>sLen v2 fun v3=>zf .add .int p v3 fun v4=>zf .sub .int v4 (I 1) fun v5=>zf .quo .int v5 v3 fun v6=>zf .quo .int v v3 fun v7=>K0 (.tup [v6,v7]) h nx:=by kernel_rfl
theorem yw.zew (X8:IR) (O:gu Prop) (t:T AV):IR.run (yw.g7 X8) C N O K t h nx=IR.run X8 C N (O.blk 2 K) K t h nx:=by kernel_rfl
theorem yw.uf (X2:IR) (O:gu Prop) (t:T AV):IR.run (yw.g1 X2) C N O K t h nx=IR.run X2 C N (O.blk 0 K) K t h nx:=by kernel_rfl
theorem yw.tab:T.get none (.of 262) tbl=some yw:=by kernel_rfl
theorem yw.go:zM tbl N C (.of 262) [a0] h nx K0 =
 fC a0 h nx fun v1 h2 n3=>zJ 0 v1 fun v4=>zB v4 h2 fun v5=>gU 1 8 [(I 0)] v5 v5 h2 n3 fun v6 h7 n8=>zJ 1 v1 fun v9=>zB v9 h7 fun vA=>sLen vA fun vS=>IR.run yw.b1 C N (fnO yw.res K0) (IR.run yw.b15 C N (fnO yw.res K0) (xu yw.res K0)) (yw.fr a0 v1 .zh v6 .undef .undef vA vS (I 0) .undef .undef .undef .undef .undef) h7 n8:=by
 rw [zG yw.tab];kernel_rfl
theorem yw.L1 (Inv:Nat->AV->T Blk->Pa->Prop) {m:Nat} (hm:m<N) (hi:Inv m H h nx)
  (step:∀ (m:Nat) (z4 z5 z8 z9 zA zC zD zE:AV) (h:T Blk) (nx:Pa) (R:Ks Prop),Inv m z8 h nx->(∀ (m':Nat) (w4 w5 w8 w9 wA wB wC wD:AV) (h':T Blk) (nx':Pa),m'<m->Inv m' w8 h' nx'->R (yw.fr d c f g w4 w5 v z w8 w9 wA wB wC wD) h' nx'=.ok True) ->
   (zf .lss .int z8 z fun v1=>zQ v1 (zO 1 v z8 fun v2=>zB v2 h fun v3=>sLen v3 fun v4=>IR.run yw.b7 C N (((fnO yw.res K0).blk 0 K).blk 1 (IR.run yw.b14 C N ((fnO yw.res K0).blk 0 K) R)) (IR.run yw.b14 C N ((fnO yw.res K0).blk 0 K) R) (yw.fr d c f g v3 z5 v z z8 v1 v3 v4 (I 0) zE) h nx) (K (yw.fr d c f g z4 z5 v z z8 v1 zA zC zD zE) h nx))=.ok True) :
  IR.run yw.b1 C N (fnO yw.res K0) K (yw.fr d c f g e p v z H L a b l i) h nx=.ok True:=by
 rw [yw.b1,yw.uf,yw.b2];refine yB (fun m tm h nx=>∃ z4 z5 z8 z9 zA zC zD zE,tm=(yw.fr d c f g z4 z5 v z z8 z9 zA zC zD zE)/\Inv m z8 h nx) ?_ hm ⟨_,_,_,_,_,_,_,_,rfl,hi⟩;rintro m tm h nx R ⟨z4,z5,z8,z9,zA,zC,zD,zE,rfl,hi⟩ hR;refine Eq.trans ?_ (step m z4 z5 z8 z9 zA zC zD zE h nx R hi fun m' w4 w5 w8 w9 wA wB wC wD h' nx' hlt hi'=>hR m' _ h' nx' hlt ⟨_,_,_,_,_,_,_,_,rfl,hi'⟩)
 kernel_rfl
theorem yw.k15:IR.run yw.b15 C N (fnO yw.res K0) K (yw.fr d c f g e p v z H L a b l i) h nx =
 K0 g h nx:=by kernel_rfl
theorem yw.k14 {E0:Ks Prop}:IR.run yw.b14 C N ((fnO yw.res K0).blk 0 E0) K (yw.fr d c f g e p v z H L a b l i) h nx =
 zf .add .int H (I 1) fun v1=>K (yw.fr d c f g e p v z v1 L a b l i) h nx:=by kernel_rfl
theorem yw.L7 {E0 E1:Ks Prop} (Inv:Nat->AV->T Blk->Pa->Prop) {m:Nat} (hm:m<N) (hi:Inv m l h nx)
  (step:∀ (m:Nat) (z5 zD zE:AV) (h:T Blk) (nx:Pa) (R:Ks Prop),Inv m zD h nx->(∀ (m':Nat) (w5 wC wD:AV) (h':T Blk) (nx':Pa),m'<m->Inv m' wC h' nx'->R (yw.fr d c f g e w5 v z H L a b wC wD) h' nx'=.ok True) ->
   (zf .lss .int zD b fun v1=>zQ v1 (zO 1 a zD fun v2=>zB v2 h fun v3=>zO 1 g v3 fun v4=>zB v4 h fun v5=>zf .add .int v5 (I 1) fun v6=>zO 1 g v3 fun v7=>zN 1 v7 v6 h nx fun v8 h9 nF=>zf .add .int zD (I 1) fun vS=>R (yw.fr d c f g e v3 v z H L a b vS v1) h9 nF) (K (yw.fr d c f g e z5 v z H L a b zD v1) h nx))=.ok True) :
  IR.run yw.b7 C N (((fnO yw.res K0).blk 0 E0).blk 1 E1) K (yw.fr d c f g e p v z H L a b l i) h nx=.ok True:=by
 rw [yw.b7,yw.zew,yw.b8];refine yB (fun m tm h nx=>∃ z5 zD zE,tm=(yw.fr d c f g e z5 v z H L a b zD zE)/\Inv m zD h nx) ?_ hm ⟨_,_,_,rfl,hi⟩;rintro m tm h nx R ⟨z5,zD,zE,rfl,hi⟩ hR;refine Eq.trans ?_ (step m z5 zD zE h nx R hi fun m' w5 wC wD h' nx' hlt hi'=>hR m' _ h' nx' hlt ⟨_,_,_,rfl,hi'⟩)
 kernel_rfl
theorem eP.tab:T.get none (.of 102) tbl=some eP:=by kernel_rfl
theorem eP.go:zM tbl N C (.of 102) [a0] h nx K0 =
 fC a0 h nx fun v1 h2 n3=>K0 (.fn 169 (.of 169) [v1]) h2 n3:=by
 rw [zG eP.tab];kernel_rfl
theorem eU.tab:T.get none (.of 101) tbl=some eU:=by kernel_rfl
theorem eU.go:zM tbl N C (.of 101) [a0] h nx K0 =
 C.fn 168 (.of 168) [a0] h nx fun v1 h2 n3=>C.fn 138 (.of 138) [v1] h2 n3 fun v4 h5 n6=>K0 v1 h5 n6:=by
 rw [zG eU.tab];kernel_rfl
theorem eX.tab:T.get none (.of 168) tbl=some eX:=by kernel_rfl
theorem eX.go:zM tbl N C (.of 168) [a0] h nx K0 =
 C.fn 221 (.of 221) [.zh,a0] h nx fun v1 h2 n3=>K0 v1 h2 n3:=by
 rw [zG eX.tab];kernel_rfl
theorem wu.uf (X2:IR) (O:gu Prop) (t:T AV):IR.run (wu.g1 X2) C N O K t h nx=IR.run X2 C N (O.blk 0 K) K t h nx:=by kernel_rfl
theorem wu.tab:T.get none (.of 169) tbl=some wu:=by kernel_rfl
theorem wu.go:zM tbl N C (.of 169) [a0,a1] h nx K0 =
 zB a1 h fun v1=>sLen v1 fun v2=>IR.run wu.b1 C N (fnO wu.res K0) (xu wu.res K0) (wu.fr a0 a1 .undef v1 v2 (I 0) .undef .undef) h nx:=by
 rw [zG wu.tab];kernel_rfl
theorem wu.L1 (Inv:Nat->AV->T Blk->Pa->Prop) {m:Nat} (hm:m<N) (hi:Inv m p h nx)
  (step:∀ (m:Nat) (z2 z5 z6 z7:AV) (h:T Blk) (nx:Pa) (R:Ks Prop),Inv m z5 h nx->(∀ (m':Nat) (w2 w5 w6 w7:AV) (h':T Blk) (nx':Pa),m'<m->Inv m' w5 h' nx'->R (wu.fr d c w2 g e w5 w6 w7) h' nx'=.ok True) ->
   (zf .lss .int z5 e fun v1=>zQ v1 (zO 1 g z5 fun v2=>zB v2 h fun v3=>vB C d [v3] h nx fun v4 h5 n6=>sNot v4 fun v7=>zQ v7 (K0 (.tup []) h5 n6) (zf .add .int z5 (I 1) fun v8=>R (wu.fr d c v3 g e v8 v1 v7) h5 n6)) (K (wu.fr d c z2 g e z5 v1 z7) h nx))=.ok True) :
  IR.run wu.b1 C N (fnO wu.res K0) K (wu.fr d c f g e p v z) h nx=.ok True:=by
 rw [wu.b1,wu.uf,wu.b2];refine yB (fun m tm h nx=>∃ z2 z5 z6 z7,tm=(wu.fr d c z2 g e z5 z6 z7)/\Inv m z5 h nx) ?_ hm ⟨_,_,_,_,rfl,hi⟩;rintro m tm h nx R ⟨z2,z5,z6,z7,rfl,hi⟩ hR;refine Eq.trans ?_ (step m z2 z5 z6 z7 h nx R hi fun m' w2 w5 w6 w7 h' nx' hlt hi'=>hR m' _ h' nx' hlt ⟨_,_,_,_,rfl,hi'⟩)
 kernel_rfl
theorem qj.tab:T.get none (.of 221) tbl=some qj:=by kernel_rfl
theorem qj.go:zM tbl N C (.of 221) [a0,a1] h nx K0 =
 fC a0 h nx fun v1 h2 n3=>IR.run (.rf (.t (.of 5)) [(.of 6)] qj.b3 qj.b4) C N ((fnO qj.res K0).blk 0 (IR.run qj.b6 C N (fnO qj.res K0) (xu qj.res K0))) (IR.run qj.b6 C N (fnO qj.res K0) (xu qj.res K0)) (qj.fr a0 a1 v1 .zh .undef a1 .undef) h2 n3:=by
 rw [zG qj.tab];kernel_rfl
theorem qj.k6:IR.run qj.b6 C N (fnO qj.res K0) K (qj.fr d c f g e p v) h nx =
 zB f h fun v1=>K0 v1 h nx:=by kernel_rfl
theorem qj.y4 {N:Nat} {C:Calls Prop} {K0:Kw Prop} {id nx:Pa} {j:Jump} {h h1:T Blk} {d c f g e p v z0:AV} (hl:T.get .no id h=.loop .ready j (qj.fr d c f g e p v) [.of 6] qj.b3 qj.b4) (he:h1=T.set .no (.loop .busy j (qj.fr d c f g e p v) [.of 6] qj.b3 qj.b4) id h) :
 uQ N C id [z0] h nx K0 =
 zB f h1 fun v1=>yE 1 1 [(I 0)] [(0,1,z0)] h1 nx fun v2 h3 n4=>ny 1 8 v1 v2 h3 n4 fun v5 h6 n7=>zN 1 f v5 h6 n7 fun v8 h9 nF=>yT id K0 .none true .e h9 nF:=by
 subst he;rw [zhn hl (tm1:=(qj.fr d c f g e p z0)) (tm2:=(qj.fr d c f g z0 p z0)) (by intro k;kernel_rfl) (by intro O K h nx;kernel_rfl)];kernel_rfl
theorem jo.uf (X2:IR) (O:gu Prop) (t:T AV):IR.run (jo.g1 X2) C N O K t h nx=IR.run X2 C N (O.blk 0 K) K t h nx:=by kernel_rfl
theorem jo.tab:T.get none (.of 161) tbl=some jo:=by kernel_rfl
theorem jo.go:zM tbl N C (.of 161) [a0,a1] h nx K0 =
 sLen a0 fun v1=>IR.run jo.b1 C N (fnO jo.res K0) (IR.run jo.b9 C N (fnO jo.res K0) (xu jo.res K0)) (jo.fr a0 a1 (I 0) .undef .undef .undef .undef a0 v1 (I 0) .undef .undef .undef .undef) h nx:=by
 rw [zG jo.tab];kernel_rfl
theorem jo.L1 (Inv:Nat->AV->T Blk->Pa->Prop) {m:Nat} (hm:m<N) (hi:Inv m L h nx)
  (step:∀ (m:Nat) (z2 z3 z4 z5 z6 z9 zA zC zD:AV) (h:T Blk) (nx:Pa) (R:Ks Prop),Inv m z9 h nx->(∀ (m':Nat) (w2 w3 w4 w5 w6 w9 wA wB wC:AV) (h':T Blk) (nx':Pa),m'<m->Inv m' w9 h' nx'->R (jo.fr d c w2 w3 w4 w5 w6 z H w9 wA wB wC i) h' nx'=.ok True) ->
   (zf .lss .int z9 H fun v1=>zQ v1 (zO 1 z z9 fun v2=>zB v2 h fun v3=>sLen c fun v4=>zf .geq .int z9 v4 fun v5=>zQ v5 (K0 (I 1) h nx) (zO 1 c z9 fun v6=>zB v6 h fun v7=>C.fn 217 (.of 217) [v3,v7] h nx fun v8 h9 nF=>zf .neq .int v8 (I 0) fun vS=>zQ vS (K0 v8 h9 nF) (zf .add .int z9 (I 1) fun vZ=>R (jo.fr d c z2 z9 v3 v7 v8 z H vZ v1 v5 vS i) h9 nF))) (K (jo.fr d c z2 z3 z4 z5 z6 z H z9 v1 zC zD i) h nx))=.ok True) :
  IR.run jo.b1 C N (fnO jo.res K0) K (jo.fr d c f g e p v z H L a b l i) h nx=.ok True:=by
 rw [jo.b1,jo.uf,jo.b2];refine yB (fun m tm h nx=>∃ z2 z3 z4 z5 z6 z9 zA zC zD,tm=(jo.fr d c z2 z3 z4 z5 z6 z H z9 zA zC zD i)/\Inv m z9 h nx) ?_ hm ⟨_,_,_,_,_,_,_,_,_,rfl,hi⟩;rintro m tm h nx R ⟨z2,z3,z4,z5,z6,z9,zA,zC,zD,rfl,hi⟩ hR;refine Eq.trans ?_ (step m z2 z3 z4 z5 z6 z9 zA zC zD h nx R hi fun m' w2 w3 w4 w5 w6 w9 wA wB wC h' nx' hlt hi'=>hR m' _ h' nx' hlt ⟨_,_,_,_,_,_,_,_,_,rfl,hi'⟩)
 kernel_rfl
theorem jo.k9:IR.run jo.b9 C N (fnO jo.res K0) K (jo.fr d c f g e p v z H L a b l i) h nx =
 sLen d fun v1=>sLen c fun v2=>zf .lss .int v1 v2 fun v3=>zQ v3 (K0 (I (-1)) h nx) (K0 (I 0) h nx):=by kernel_rfl
theorem rE.tab:T.get none (.of 217) tbl=some rE:=by kernel_rfl
theorem rE.go:zM tbl N C (.of 217) [a0,a1] h nx K0 =
 C.fn 261 (.of 261) [a0] h nx fun v1 h2 n3=>C.fn 261 (.of 261) [a1] h2 n3 fun v4 h5 n6=>zQ v1 (zQ v4 (K0 (I 0) h5 n6) (K0 (I (-1)) h5 n6)) (zQ v4 (K0 (I 1) h5 n6) (zf .lss .int a0 a1 fun v7=>zQ v7 (K0 (I (-1)) h5 n6) (zf .gtr .int a0 a1 fun v8=>zQ v8 (K0 (I 1) h5 n6) (K0 (I 0) h5 n6)))):=by
 rw [zG rE.tab];kernel_rfl
theorem eY.tab:T.get none (.of 261) tbl=some eY:=by kernel_rfl
theorem eY.go:zM tbl N C (.of 261) [a0] h nx K0 =
 zf .neq .int a0 a0 fun v1=>K0 v1 h nx:=by
 rw [zG eY.tab];kernel_rfl
theorem F84.tab:T.get none (.of 84) tbl=some F84:=by kernel_rfl
theorem F84.go:zM tbl N C (.of 84) [a0,a1] h nx K0 =
 C.fn 143 (.of 143) [a0,a1] h nx fun v1 h2 n3=>fA 0 v1 fun v4=>fA 1 v1 fun v5=>fA 2 v1 fun v6=>K0 v6 h2 n3:=by
 rw [zG F84.tab];kernel_rfl
theorem F11.sS (X3:IR) (O:gu Prop) (t:T AV):IR.run (F11.g2 X3) C N O K t h nx=IR.run X3 C N (O.blk 0 K) K t h nx:=by kernel_rfl
theorem F11.tab:T.get none (.of 11) tbl=some F11:=by kernel_rfl
theorem F11.go:zM tbl N C (.of 11) [a0] h nx K0 =
 fC a0 h nx fun v1 h2 n3=>yG [(I 0),.zh] h2 n3 fun v4 h5 n6=>zK 2 v1 h5 fun v7=>zJ 1 v1 fun v8=>zB v8 h5 fun v9=>sLen v9 fun vA=>zf .eql .int vA (I 0) fun vS=>C.fn 43 (.of 43) [v7] h5 n6 fun vZ hI nJ=>(zf .eql .int vA (I 0) fun vC=>zS vC vS ((sLen v9 fun vD=>zS vD vA ((zB v8 hI fun vE=>zS vE v9 ((zJ 1 v1 fun vF=>zS vF v8 (C.fn 44 (.of 44) [vS,(I 12)] hI nJ fun vU hJ nK=>yE 1 2 [(I 0)] [(0,1,vZ),(1,1,vU)] hJ nK fun vW hK nL=>C.fn 42 (.of 42) [vW] hK nL fun vY hL nM=>zf .neq .int vY (I 0) fun v24=>zQ v24 (kK [(I 0),.zh] [] fun vO=>zN 2 v4 vO hL nM fun vP hM nN=>zK 2 v4 hM fun vK=>K0 (.tup [vK,vY]) hM nN) (zJ 1 v1 fun vJ=>zB vJ hL fun vI=>sLen vI fun vH=>IR.run F11.b2 C N (fnO F11.res K0) (IR.run F11.b9 C N (fnO F11.res K0) (xu F11.res K0)) (F11.fr a0 v1 v4 (I 0) vY .zh .undef .undef v24 vI vH (I 0) .undef) hL nM))))))))):=by
 rw [zG F11.tab];kernel_rfl
theorem F11.L2 (Inv:Nat->AV->AV->T Blk->Pa->Prop) {m:Nat} (hm:m<N) (hi:Inv m p b h nx)
  (step:∀ (m:Nat) (z5 z6 z7 zC zD:AV) (h:T Blk) (nx:Pa) (R:Ks Prop),Inv m z5 zC h nx->(∀ (m':Nat) (w5 w6 w7 wB wC:AV) (h':T Blk) (nx':Pa),m'<m->Inv m' w5 wB h' nx'->R (F11.fr d c f g e w5 w6 w7 H L a wB wC) h' nx'=.ok True) ->
   (zf .lss .int zC a fun v1=>zQ v1 (zO 2 L zC fun v2=>zK 2 v2 h fun v3=>yG [(I 0),(I 0)] h nx fun v4 h5 n6=>zN 2 v4 v3 h5 n6 fun v7 h8 n9=>yR 1 2 v4 (I 0) fun vA=>zB vA h8 fun vS=>yR 1 2 v4 (I 1) fun vZ=>zB vZ h8 fun vG=>zJ 0 c fun vT=>zB vT h8 fun vU=>zf .add .int vU zC fun vL=>yE 1 3 [(I 0)] [(0,1,vS),(1,1,vG),(2,1,vL)] h8 n9 fun vV hN nO=>yE 1 1 [.zh] [(0,1,vV)] hN nO fun vX hO nP=>ny 1 24 z5 vX hO nP fun v23 hP nQ=>zf .add .int zC (I 1) fun vP=>R (F11.fr d c f g e v23 zC v4 H L a vP v1) hP nQ) (K (F11.fr d c f g e z5 z6 z7 H L a zC v1) h nx))=.ok True) :
  IR.run F11.b2 C N (fnO F11.res K0) K (F11.fr d c f g e p v z H L a b l) h nx=.ok True:=by
 rw [F11.b2,F11.sS,F11.b3];refine yB (fun m tm h nx=>∃ z5 z6 z7 zC zD,tm=(F11.fr d c f g e z5 z6 z7 H L a zC zD)/\Inv m z5 zC h nx) ?_ hm ⟨_,_,_,_,_,rfl,hi⟩;rintro m tm h nx R ⟨z5,z6,z7,zC,zD,rfl,hi⟩ hR;refine Eq.trans ?_ (step m z5 z6 z7 zC zD h nx R hi fun m' w5 w6 w7 wB wC h' nx' hlt hi'=>hR m' _ h' nx' hlt ⟨_,_,_,_,_,rfl,hi'⟩)
 kernel_rfl
theorem F11.k9:IR.run F11.b9 C N (fnO F11.res K0) K (F11.fr d c f g e p v z H L a b l) h nx =
 zJ 0 c fun v1=>zB v1 h fun v2=>zJ 1 c fun v3=>zB v3 h fun v4=>sLen v4 fun v5=>zf .add .int v2 v5 fun v6=>C.fn 45 (.of 45) [v6,p] h nx fun v7 h8 n9=>zN 2 f v7 h8 n9 fun vA hA nA=>zK 2 f hA fun vG=>K0 (.tup [vG,(I 0)]) hA nA:=by kernel_rfl
theorem F12.zwv (X9:IR) (O:gu Prop) (t:T AV):IR.run (F12.g8 X9) C N O K t h nx=IR.run X9 C N (O.blk 2 K) K t h nx:=by kernel_rfl
theorem F12.sS (X3:IR) (O:gu Prop) (t:T AV):IR.run (F12.g2 X3) C N O K t h nx=IR.run X3 C N (O.blk 0 K) K t h nx:=by kernel_rfl
theorem F12.tab:T.get none (.of 12) tbl=some F12:=by kernel_rfl
theorem F12.go:zM tbl N C (.of 12) [a0] h nx K0 =
 fC a0 h nx fun v1 h2 n3=>yG [(I 0),.zh] h2 n3 fun v4 h5 n6=>zK 2 v1 h5 fun v7=>C.fn 43 (.of 43) [v7] h5 n6 fun v8 h9 nF=>zf .neq .int v8 (I 0) fun vS=>zQ vS (kK [(I 0),.zh] [] fun vZ=>zN 2 v4 vZ h9 nF fun vG hB nB=>zK 2 v4 hB fun vL=>K0 (.tup [vL,v8]) hB nB) (zJ 0 v1 fun vV=>zB vV h9 fun vW=>IR.run F12.b2 C N (fnO F12.res K0) (IR.run F12.b17 C N (fnO F12.res K0) (xu F12.res K0)) (F12.fr a0 v1 v4 (I 0) v8 .zh .undef .undef .undef .undef vS vW (I 0) .undef .undef .undef .undef .undef .undef) h9 nF):=by
 rw [zG F12.tab];kernel_rfl
theorem F12.L2 (Inv:Nat->AV->AV->T Blk->Pa->Prop) {m:Nat} (hm:m<N) (hi:Inv m p l h nx)
  (step:∀ (m:Nat) (z5 z6 z7 z8 z9 zD zE zF zH zI zL zP:AV) (h:T Blk) (nx:Pa) (R:Ks Prop),Inv m z5 zD h nx->(∀ (m':Nat) (w5 w6 w7 w8 w9 wC wD wE wF wG wH wI:AV) (h':T Blk) (nx':Pa),m'<m->Inv m' w5 wC h' nx'->R (F12.fr d c f g e w5 w6 w7 w8 w9 a b wC wD wE wF wG wH wI) h' nx'=.ok True) ->
   (zf .lss .int zD b fun v1=>zQ v1 (yE 1 1 [(I 0)] [(0,1,zD)] h nx fun v2 h3 n4=>zJ 1 c fun v5=>zB v5 h3 fun v6=>sLen v6 fun v7=>IR.run F12.b8 C N (((fnO F12.res K0).blk 0 K).blk 1 (IR.run F12.b16 C N ((fnO F12.res K0).blk 0 K) R)) (IR.run F12.b15 C N (((fnO F12.res K0).blk 0 K).blk 1 (IR.run F12.b16 C N ((fnO F12.res K0).blk 0 K) R)) (IR.run F12.b16 C N ((fnO F12.res K0).blk 0 K) R)) (F12.fr d c f g e z5 zD v2 z8 z9 a b zD v1 v6 v7 (I 0) zL zP) h3 n4) (K (F12.fr d c f g e z5 z6 z7 z8 z9 a b zD v1 zF zH zI zL zP) h nx))=.ok True) :
  IR.run F12.b2 C N (fnO F12.res K0) K (F12.fr d c f g e p v z H L a b l i q s u w y) h nx=.ok True:=by
 rw [F12.b2,F12.sS,F12.b3];refine yB (fun m tm h nx=>∃ z5 z6 z7 z8 z9 zD zE zF zH zI zL zP,tm=(F12.fr d c f g e z5 z6 z7 z8 z9 a b zD zE zF zH zI zL zP)/\Inv m z5 zD h nx) ?_ hm ⟨_,_,_,_,_,_,_,_,_,_,_,_,rfl,hi⟩;rintro m tm h nx R ⟨z5,z6,z7,z8,z9,zD,zE,zF,zH,zI,zL,zP,rfl,hi⟩ hR;refine Eq.trans ?_ (step m z5 z6 z7 z8 z9 zD zE zF zH zI zL zP h nx R hi fun m' w5 w6 w7 w8 w9 wC wD wE wF wG wH wI h' nx' hlt hi'=>hR m' _ h' nx' hlt ⟨_,_,_,_,_,_,_,_,_,_,_,_,rfl,hi'⟩)
 kernel_rfl
theorem F12.k17:IR.run F12.b17 C N (fnO F12.res K0) K (F12.fr d c f g e p v z H L a b l i q s u w y) h nx =
 zJ 0 c fun v1=>zB v1 h fun v2=>zJ 1 c fun v3=>zB v3 h fun v4=>sLen v4 fun v5=>zf .add .int v2 v5 fun v6=>C.fn 45 (.of 45) [v6,p] h nx fun v7 h8 n9=>zN 2 f v7 h8 n9 fun vA hA nA=>zK 2 f hA fun vG=>K0 (.tup [vG,(I 0)]) hA nA:=by kernel_rfl
theorem F12.k16 {E0:Ks Prop}:IR.run F12.b16 C N ((fnO F12.res K0).blk 0 E0) K (F12.fr d c f g e p v z H L a b l i q s u w y) h nx =
 zf .add .int l (I 1) fun v1=>K (F12.fr d c f g e p v z H L a b v1 i q s u w y) h nx:=by kernel_rfl
theorem F12.L8 {E0 E1:Ks Prop} (Inv:Nat->AV->AV->T Blk->Pa->Prop) {m:Nat} (hm:m<N) (hi:Inv m z u h nx)
  (step:∀ (m:Nat) (z7 z8 z9 zI zL zP:AV) (h:T Blk) (nx:Pa) (R:Ks Prop),Inv m z7 zI h nx->(∀ (m':Nat) (w7 w8 w9 wG wH wI:AV) (h':T Blk) (nx':Pa),m'<m->Inv m' w7 wG h' nx'->R (F12.fr d c f g e p v w7 w8 w9 a b l i q s wG wH wI) h' nx'=.ok True) ->
   (zf .lss .int zI s fun v1=>zQ v1 (zO 2 q zI fun v2=>zK 2 v2 h fun v3=>yG [(I 0),(I 0)] h nx fun v4 h5 n6=>zN 2 v4 v3 h5 n6 fun v7 h8 n9=>yR 1 2 v4 (I 0) fun vA=>zB vA h8 fun vS=>zf .eql .int vS v fun vZ=>sG vZ false (fun k=>yR 1 2 v4 (I 1) k) fun vG=>sG vZ false (fun k=>zB vG h8 k) fun vT=>sG vZ false (fun k=>k v) fun vU=>sG vZ false (fun k=>zf .eql .int vT vU k) fun vL=>jN vZ (.bool true) vL fun vV=>zQ vV (zJ 0 c fun vW=>zB vW h8 fun vM=>zf .add .int vM zI fun vX=>yE 1 1 [(I 0)] [(0,1,vX)] h8 n9 fun vY hL nM=>ny 1 8 z7 vY hL nM fun v24 hQ nR=>zf .add .int zI (I 1) fun vQ=>R (F12.fr d c f g e p v v24 zI v4 a b l i q s vQ v1 vV) hQ nR) (zf .add .int zI (I 1) fun vR=>R (F12.fr d c f g e p v z7 zI v4 a b l i q s vR v1 vV) h8 n9)) (K (F12.fr d c f g e p v z7 z8 z9 a b l i q s zI v1 zP) h nx))=.ok True) :
  IR.run F12.b8 C N (((fnO F12.res K0).blk 0 E0).blk 1 E1) K (F12.fr d c f g e p v z H L a b l i q s u w y) h nx=.ok True:=by
 rw [F12.b8,F12.zwv,F12.b9];refine yB (fun m tm h nx=>∃ z7 z8 z9 zI zL zP,tm=(F12.fr d c f g e p v z7 z8 z9 a b l i q s zI zL zP)/\Inv m z7 zI h nx) ?_ hm ⟨_,_,_,_,_,_,rfl,hi⟩;rintro m tm h nx R ⟨z7,z8,z9,zI,zL,zP,rfl,hi⟩ hR;refine Eq.trans ?_ (step m z7 z8 z9 zI zL zP h nx R hi fun m' w7 w8 w9 wG wH wI h' nx' hlt hi'=>hR m' _ h' nx' hlt ⟨_,_,_,_,_,_,rfl,hi'⟩)
 kernel_rfl
theorem F12.k15 {E0 E1:Ks Prop}:IR.run F12.b15 C N (((fnO F12.res K0).blk 0 E0).blk 1 E1) K (F12.fr d c f g e p v z H L a b l i q s u w y) h nx =
 yE 1 1 [.zh] [(0,1,z)] h nx fun v1 h2 n3=>ny 1 24 p v1 h2 n3 fun v4 h5 n6=>K (F12.fr d c f g e v4 v z H L a b l i q s u w y) h5 n6:=by kernel_rfl
theorem F45.uf (X2:IR) (O:gu Prop) (t:T AV):IR.run (F45.g1 X2) C N O K t h nx=IR.run X2 C N (O.blk 0 K) K t h nx:=by kernel_rfl
theorem F45.tab:T.get none (.of 45) tbl=some F45:=by kernel_rfl
theorem F45.go:zM tbl N C (.of 45) [a0,a1] h nx K0 =
 yG [(I 0),.zh] h nx fun v1 h2 n3=>zal h2 n3 fun v4 h5 n6=>kK [(I 0),.zh] [(0,1,a0)] fun v7=>yG [(I 0),.zh] h5 n6 fun v8 h9 nF=>zN 2 v8 v7 h9 nF fun vS hF nG=>sLen a1 fun vT=>IR.run F45.b1 C N (fnO F45.res K0) (IR.run F45.b8 C N (fnO F45.res K0) (xu F45.res K0)) (F45.fr a0 a1 v1 v4 v8 .undef .undef a1 vT (I 0) .undef .undef) hF nG:=by
 rw [zG F45.tab];kernel_rfl
theorem F45.L1 (Inv:Nat->AV->T Blk->Pa->Prop) {m:Nat} (hm:m<N) (hi:Inv m L h nx)
  (step:∀ (m:Nat) (z5 z6 z9 zA zC:AV) (h:T Blk) (nx:Pa) (R:Ks Prop),Inv m z9 h nx->(∀ (m':Nat) (w5 w6 w9 wA wB:AV) (h':T Blk) (nx':Pa),m'<m->Inv m' w9 h' nx'->R (F45.fr d c f g e w5 w6 z H w9 wA wB) h' nx'=.ok True) ->
   (zf .lss .int z9 H fun v1=>zQ v1 (zO 1 z z9 fun v2=>zB v2 h fun v3=>C.fn 102 (.of 102) [v3] h nx fun v4 h5 n6=>C.fn 101 (.of 101) [v4] h5 n6 fun v7 h8 n9=>C.fn 103 (.of 103) [v7] h8 n9 fun vA hA nA=>zex .str (.bool false) false g vA hA fun vG=>sNot vG fun vT=>zQ vT (pJ .str g vA (.bool true) hA nA fun vU hJ nK=>zJ 1 e fun vW=>zB vW hJ fun vM=>yE 1 1 [.zh] [(0,1,v7)] hJ nK fun vX hO nP=>ny 1 24 vM vX hO nP fun v23 hP nQ=>zJ 1 e fun vP=>zN 1 vP v23 hP nQ fun vQ hS nS=>zf .add .int z9 (I 1) fun vJ=>R (F45.fr d c f g e v7 vA z H vJ v1 vT) hS nS) (zf .add .int z9 (I 1) fun vI=>R (F45.fr d c f g e v7 vA z H vI v1 vT) hA nA)) (K (F45.fr d c f g e z5 z6 z H z9 v1 zC) h nx))=.ok True) :
  IR.run F45.b1 C N (fnO F45.res K0) K (F45.fr d c f g e p v z H L a b) h nx=.ok True:=by
 rw [F45.b1,F45.uf,F45.b2];refine yB (fun m tm h nx=>∃ z5 z6 z9 zA zC,tm=(F45.fr d c f g e z5 z6 z H z9 zA zC)/\Inv m z9 h nx) ?_ hm ⟨_,_,_,_,_,rfl,hi⟩;rintro m tm h nx R ⟨z5,z6,z9,zA,zC,rfl,hi⟩ hR;refine Eq.trans ?_ (step m z5 z6 z9 zA zC h nx R hi fun m' w5 w6 w9 wA wB h' nx' hlt hi'=>hR m' _ h' nx' hlt ⟨_,_,_,_,_,rfl,hi'⟩)
 kernel_rfl
theorem F45.k8:IR.run F45.b8 C N (fnO F45.res K0) K (F45.fr d c f g e p v z H L a b) h nx =
 zK 2 e h fun v1=>zN 2 f v1 h nx fun v2 h3 n4=>zK 2 f h3 fun v5=>K0 v5 h3 n4:=by kernel_rfl
theorem uo.uf (X2:IR) (O:gu Prop) (t:T AV):IR.run (uo.g1 X2) C N O K t h nx=IR.run X2 C N (O.blk 0 K) K t h nx:=by kernel_rfl
theorem uo.tab:T.get none (.of 103) tbl=some uo:=by kernel_rfl
theorem uo.go:zM tbl N C (.of 103) [a0] h nx K0 =
 sLen a0 fun v1=>IR.run uo.b1 C N (fnO uo.res K0) (IR.run uo.b8 C N (fnO uo.res K0) (xu uo.res K0)) (uo.fr a0 (.str []) .zh .undef a0 v1 (I 0) .undef) h nx:=by
 rw [zG uo.tab];kernel_rfl
theorem uo.L1 (Inv:Nat->AV->AV->T Blk->Pa->Prop) {m:Nat} (hm:m<N) (hi:Inv m f v h nx)
  (step:∀ (m:Nat) (z2 z3 z6 z7:AV) (h:T Blk) (nx:Pa) (R:Ks Prop),Inv m z2 z6 h nx->(∀ (m':Nat) (w2 w3 w6 w7:AV) (h':T Blk) (nx':Pa),m'<m->Inv m' w2 w6 h' nx'->R (uo.fr d c w2 w3 e p w6 w7) h' nx'=.ok True) ->
   (zf .lss .int z6 p fun v1=>zQ v1 (zO 1 e z6 fun v2=>zB v2 h fun v3=>C.fn 170 (.of 170) [v3] h nx fun v4 h5 n6=>yE 1 1 [(.str [])] [(0,1,v4)] h5 n6 fun v7 h8 n9=>ny 1 16 z2 v7 h8 n9 fun vA hA nA=>zf .add .int z6 (I 1) fun vG=>R (uo.fr d c vA v3 e p vG v1) hA nA) (K (uo.fr d c z2 z3 e p z6 v1) h nx))=.ok True) :
  IR.run uo.b1 C N (fnO uo.res K0) K (uo.fr d c f g e p v z) h nx=.ok True:=by
 rw [uo.b1,uo.uf,uo.b2];refine yB (fun m tm h nx=>∃ z2 z3 z6 z7,tm=(uo.fr d c z2 z3 e p z6 z7)/\Inv m z2 z6 h nx) ?_ hm ⟨_,_,_,_,rfl,hi⟩;rintro m tm h nx R ⟨z2,z3,z6,z7,rfl,hi⟩ hR;refine Eq.trans ?_ (step m z2 z3 z6 z7 h nx R hi fun m' w2 w3 w6 w7 h' nx' hlt hi'=>hR m' _ h' nx' hlt ⟨_,_,_,_,rfl,hi'⟩)
 kernel_rfl
theorem uo.k8:IR.run uo.b8 C N (fnO uo.res K0) K (uo.fr d c f g e p v z) h nx =
 C.fn 171 (.of 171) [f,(.str [32])] h nx fun v1 h2 n3=>K0 v1 h2 n3:=by kernel_rfl
theorem og.tab:T.get none (.of 170) tbl=some og:=by kernel_rfl
theorem og.go:zM tbl N C (.of 170) [a0] h nx K0 =
 C.fn 222 (.of 222) [a0] h nx fun v1 h2 n3=>K0 v1 h2 n3:=by
 rw [zG og.tab];kernel_rfl
theorem oh.tab:T.get none (.of 222) tbl=some oh:=by kernel_rfl
theorem oh.go:zM tbl N C (.of 222) [a0] h nx K0 =
 C.fn 263 (.of 263) [a0,(I 10)] h nx fun v1 h2 n3=>K0 v1 h2 n3:=by
 rw [zG oh.tab];kernel_rfl
theorem fF.tab:T.get none (.of 263) tbl=some fF:=by kernel_rfl
theorem fF.go:zM tbl N C (.of 263) [a0,a1] h nx K0 =
 zf .eql .int a1 (I 10) fun v1=>zQ v1 (zf .leq .int (I 0) a0 fun v2=>sG v2 true (fun k=>k a0) fun v3=>sG v2 true (fun k=>zf .lss .int v3 (I 100) k) fun v4=>jN v2 v4 (.bool false) fun v5=>zQ v5 (C.fn 282 (.of 282) [a0] h nx fun v6 h7 n8=>K0 v6 h7 n8) (yG [(.int .u8 0),(.int .u8 0),(.int .u8 0),(.int .u8 0),(.int .u8 0),(.int .u8 0),(.int .u8 0),(.int .u8 0),(.int .u8 0),(.int .u8 0),(.int .u8 0),(.int .u8 0),(.int .u8 0),(.int .u8 0),(.int .u8 0),(.int .u8 0),(.int .u8 0),(.int .u8 0),(.int .u8 0),(.int .u8 0),(.int .u8 0),(.int .u8 0),(.int .u8 0),(.int .u8 0)] h nx fun v9 hT nT=>cH .u64 a0 fun vZ=>zf .lss .int a0 (I 0) fun vG=>zQ vG (sNeg vZ fun vT=>(IR.run fF.b2 C N (fnO fF.res K0) (IR.run fF.b4 C N (fnO fF.res K0) (xu fF.res K0))) (fF.fr a0 a1 (.str []) v9 vT .undef .undef v1 v5 vG .undef) hT nT) ((IR.run fF.b2 C N (fnO fF.res K0) (IR.run fF.b4 C N (fnO fF.res K0) (xu fF.res K0))) (fF.fr a0 a1 (.str []) v9 vZ .undef .undef v1 v5 vG .undef) hT nT))) (cH .u64 a0 fun vU=>zf .lss .int a0 (I 0) fun vL=>C.fn 285 (.of 285) [.zh,vU,a1,vL,(.bool false)] h nx fun vV hN nO=>fA 0 vV fun vX=>fA 1 vV fun vY=>K0 vY hN nO):=by
 rw [zG fF.tab];kernel_rfl
theorem tZ.tab:T.get none (.of 282) tbl=some tZ:=by kernel_rfl
theorem tZ.go:zM tbl N C (.of 282) [a0] h nx K0 =
 zf .lss .int a0 (I 10) fun v1=>zQ v1 (zf .add .int a0 (I 1) fun v2=>cS (.str [48,49,50,51,52,53,54,55,56,57,97,98,99,100,101,102,103,104,105,106,107,108,109,110,111,112,113,114,115,116,117,118,119,120,121,122]) (some a0) (some v2) fun v3=>K0 v3 h nx) (zf .mul .int a0 (I 2) fun v4=>zf .mul .int a0 (I 2) fun v5=>zf .add .int v5 (I 2) fun v6=>cS (.str [48,48,48,49,48,50,48,51,48,52,48,53,48,54,48,55,48,56,48,57,49,48,49,49,49,50,49,51,49,52,49,53,49,54,49,55,49,56,49,57,50,48,50,49,50,50,50,51,50,52,50,53,50,54,50,55,50,56,50,57,51,48,51,49,51,50,51,51,51,52,51,53,51,54,51,55,51,56,51,57,52,48,52,49,52,50,52,51,52,52,52,53,52,54,52,55,52,56,52,57,53,48,53,49,53,50,53,51,53,52,53,53,53,54,53,55,53,56,53,57,54,48,54,49,54,50,54,51,54,52,54,53,54,54,54,55,54,56,54,57,55,48,55,49,55,50,55,51,55,52,55,53,55,54,55,55,55,56,55,57,56,48,56,49,56,50,56,51,56,52,56,53,56,54,56,55,56,56,56,57,57,48,57,49,57,50,57,51,57,52,57,53,57,54,57,55,57,56,57,57]) (some v4) (some v6) fun v7=>K0 v7 h nx):=by
 rw [zG tZ.tab];kernel_rfl
theorem uq.uf (X2:IR) (O:gu Prop) (t:T AV):IR.run (uq.g1 X2) C N O K t h nx=IR.run X2 C N (O.blk 0 K) K t h nx:=by kernel_rfl
theorem uq.tab:T.get none (.of 199) tbl=some uq:=by kernel_rfl
theorem uq.go:zM tbl N C (.of 199) [a0,a1] h nx K0 =
 sLen a0 fun v1=>IR.run uq.b1 C N (fnO uq.res K0) (IR.run uq.b8 C N (fnO uq.res K0) (xu uq.res K0)) (uq.fr a0 a1 (I 0) .undef .undef a0 v1 (I 0) .undef .undef) h nx:=by
 rw [zG uq.tab];kernel_rfl
theorem uq.L1 (Inv:Nat->AV->T Blk->Pa->Prop) {m:Nat} (hm:m<N) (hi:Inv m z h nx)
  (step:∀ (m:Nat) (z2 z3 z4 z7 z8 z9:AV) (h:T Blk) (nx:Pa) (R:Ks Prop),Inv m z7 h nx->(∀ (m':Nat) (w2 w3 w4 w7 w8 w9:AV) (h':T Blk) (nx':Pa),m'<m->Inv m' w7 h' nx'->R (uq.fr d c w2 w3 w4 p v w7 w8 w9) h' nx'=.ok True) ->
   (zf .lss .int z7 v fun v1=>zQ v1 (zO 2 p z7 fun v2=>zK 2 v2 h fun v3=>yG [.zh,(.bool false)] h nx fun v4 h5 n6=>zN 2 v4 v3 h5 n6 fun v7 h8 n9=>zK 2 v4 h8 fun vA=>C.fn 64 (.of 64) [vA,c] h8 n9 fun vS hF nG=>zf .neq .int vS (I 0) fun vT=>zQ vT (K0 vS hF nG) (zf .add .int z7 (I 1) fun vU=>R (uq.fr d c z2 v4 vS p v vU v1 vT) hF nG)) (K (uq.fr d c z2 z3 z4 p v z7 v1 z9) h nx))=.ok True) :
  IR.run uq.b1 C N (fnO uq.res K0) K (uq.fr d c f g e p v z H L) h nx=.ok True:=by
 rw [uq.b1,uq.uf,uq.b2];refine yB (fun m tm h nx=>∃ z2 z3 z4 z7 z8 z9,tm=(uq.fr d c z2 z3 z4 p v z7 z8 z9)/\Inv m z7 h nx) ?_ hm ⟨_,_,_,_,_,_,rfl,hi⟩;rintro m tm h nx R ⟨z2,z3,z4,z7,z8,z9,rfl,hi⟩ hR;refine Eq.trans ?_ (step m z2 z3 z4 z7 z8 z9 h nx R hi fun m' w2 w3 w4 w7 w8 w9 h' nx' hlt hi'=>hR m' _ h' nx' hlt ⟨_,_,_,_,_,_,rfl,hi'⟩)
 kernel_rfl
theorem uq.k8:IR.run uq.b8 C N (fnO uq.res K0) K (uq.fr d c f g e p v z H L) h nx =
 K0 (I 0) h nx:=by kernel_rfl
theorem F86.tab:T.get none (.of 86) tbl=some F86:=by kernel_rfl
theorem F86.go:zM tbl N C (.of 86) [a0] h nx K0 =
 fC a0 h nx fun v1 h2 n3=>K0 (.fn 144 (.of 144) [v1]) h2 n3:=by
 rw [zG F86.tab];kernel_rfl
theorem rF.tab:T.get none (.of 114) tbl=some rF:=by kernel_rfl
theorem rF.go:zM tbl N C (.of 114) [a0,a1] h nx K0 =
 fC a0 h nx fun v1 h2 n3=>fC a1 h2 n3 fun v4 h5 n6=>zJ 0 v1 fun v7=>zB v7 h5 fun v8=>zJ 0 v4 fun v9=>zB v9 h5 fun vA=>C.fn 161 (.of 161) [v8,vA] h5 n6 fun vS hF nG=>zf .neq .int vS (I 0) fun vT=>sG vT false (fun k=>zJ 1 v1 k) fun vU=>sG vT false (fun k=>zB vU hF k) fun vL=>sG vT false (fun k=>zJ 1 v4 k) fun vV=>sG vT false (fun k=>zB vV hF k) fun vW=>sG vT false (fun k=>zf .eql .bool vL vW k) fun vM=>jN vT (.bool true) vM fun vX=>zQ vX (K0 vS hF nG) ((IR.run rF.b1 C N (fnO rF.res K0) (xu rF.res K0)) (rF.fr a0 a1 v1 v4 (I 0) vS vX .undef) hF nG):=by
 rw [zG rF.tab];kernel_rfl
theorem rF.k1:IR.run rF.b1 C N (fnO rF.res K0) K (rF.fr d c f g e p v z) h nx =
 zJ 1 f fun v1=>zB v1 h fun v2=>zQ v2 (K0 (I 1) h nx) (K0 (I (-1)) h nx):=by kernel_rfl
theorem F64.tab:T.get none (.of 64) tbl=some F64:=by kernel_rfl
theorem F64.go:zM tbl N C (.of 64) [a0,a1] h nx K0 =
 fC a0 h nx fun v1 h2 n3=>zJ 0 v1 fun v4=>zB v4 h2 fun v5=>sLen v5 fun v6=>zf .neq .int v6 a1 fun v7=>zJ 0 v1 fun v8=>zB v8 h2 fun v9=>C.fn 125 (.of 125) [a1] h2 n3 fun vA hA nA=>(zB v8 hA fun vC=>zS vC v9 ((zJ 0 v1 fun vD=>zS vD v8 ((zf .neq .int v6 a1 fun vE=>zS vE v7 (zS a1 a1 ((sLen v5 fun vF=>zS vF v6 ((zB v4 hA fun vH=>zS vH v5 ((zJ 0 v1 fun vI=>zS vI v4 (C.fn 76 (.of 76) [v7,(I 2)] hA nA fun vG hB nB=>(zB v8 hB fun vJ=>zS vJ v9 ((zJ 0 v1 fun vK=>zS vK v8 (C.fn 126 (.of 126) [v9] hB nB fun vL hC nC=>sNot vL fun vM=>C.fn 76 (.of 76) [vM,(I 14)] hC nC fun vX hO nP=>yE 1 3 [(I 0)] [(0,1,vA),(1,1,vG),(2,1,vX)] hO nP fun v23 hP nQ=>C.fn 72 (.of 72) [v23] hP nQ fun vP hM nN=>K0 vP hM nN))))))))))))))))):=by
 rw [zG F64.tab];kernel_rfl
theorem wz.uf (X2:IR) (O:gu Prop) (t:T AV):IR.run (wz.g1 X2) C N O K t h nx=IR.run X2 C N (O.blk 0 K) K t h nx:=by kernel_rfl
theorem wz.tab:T.get none (.of 144) tbl=some wz:=by kernel_rfl
theorem wz.go:zM tbl N C (.of 144) [a0,a1] h nx K0 =
 zB a1 h fun v1=>sLen v1 fun v2=>IR.run wz.b1 C N (fnO wz.res K0) (xu wz.res K0) (wz.fr a0 a1 .undef .undef v1 v2 (I 0) .undef .undef) h nx:=by
 rw [zG wz.tab];kernel_rfl
theorem wz.L1 (Inv:Nat->AV->T Blk->Pa->Prop) {m:Nat} (hm:m<N) (hi:Inv m v h nx)
  (step:∀ (m:Nat) (z2 z3 z6 z7 z8:AV) (h:T Blk) (nx:Pa) (R:Ks Prop),Inv m z6 h nx->(∀ (m':Nat) (w2 w3 w6 w7 w8:AV) (h':T Blk) (nx':Pa),m'<m->Inv m' w6 h' nx'->R (wz.fr d c w2 w3 e p w6 w7 w8) h' nx'=.ok True) ->
   (zf .lss .int z6 p fun v1=>zQ v1 (zO 2 e z6 fun v2=>zK 2 v2 h fun v3=>yG [.zh,(.bool false)] h nx fun v4 h5 n6=>zN 2 v4 v3 h5 n6 fun v7 h8 n9=>zK 2 v4 h8 fun vA=>vB C d [z6,vA] h8 n9 fun vS hF nG=>sNot vS fun vT=>zQ vT (K0 (.tup []) hF nG) (zf .add .int z6 (I 1) fun vU=>R (wz.fr d c z6 v4 e p vU v1 vT) hF nG)) (K (wz.fr d c z2 z3 e p z6 v1 z8) h nx))=.ok True) :
  IR.run wz.b1 C N (fnO wz.res K0) K (wz.fr d c f g e p v z H) h nx=.ok True:=by
 rw [wz.b1,wz.uf,wz.b2];refine yB (fun m tm h nx=>∃ z2 z3 z6 z7 z8,tm=(wz.fr d c z2 z3 e p z6 z7 z8)/\Inv m z6 h nx) ?_ hm ⟨_,_,_,_,_,rfl,hi⟩;rintro m tm h nx R ⟨z2,z3,z6,z7,z8,rfl,hi⟩ hR;refine Eq.trans ?_ (step m z2 z3 z6 z7 z8 h nx R hi fun m' w2 w3 w6 w7 w8 h' nx' hlt hi'=>hR m' _ h' nx' hlt ⟨_,_,_,_,_,rfl,hi'⟩)
 kernel_rfl
theorem uw.uf (X2:IR) (O:gu Prop) (t:T AV):IR.run (uw.g1 X2) C N O K t h nx=IR.run X2 C N (O.blk 0 K) K t h nx:=by kernel_rfl
theorem uw.tab:T.get none (.of 248) tbl=some uw:=by kernel_rfl
theorem uw.go:zM tbl N C (.of 248) [a0] h nx K0 =
 yG [.zh,(.bool false)] h nx fun v1 h2 n3=>gU 1 8 [(I 0)] a0 a0 h2 n3 fun v4 h5 n6=>kK [.zh,(.bool false)] [(0,1,v4)] fun v7=>yG [.zh,(.bool false)] h5 n6 fun v8 h9 nF=>zN 2 v8 v7 h9 nF fun vS hF nG=>zJ 0 v8 fun vT=>zB vT hF fun vU=>sLen vU fun vL=>IR.run uw.b1 C N (fnO uw.res K0) (IR.run uw.b8 C N (fnO uw.res K0) (xu uw.res K0)) (uw.fr a0 v1 v8 .undef vL (I 0) .undef) hF nG:=by
 rw [zG uw.tab];kernel_rfl
theorem uw.L1 (Inv:Nat->AV->T Blk->Pa->Prop) {m:Nat} (hm:m<N) (hi:Inv m p h nx)
  (step:∀ (m:Nat) (z3 z5 z6:AV) (h:T Blk) (nx:Pa) (R:Ks Prop),Inv m z5 h nx->(∀ (m':Nat) (w3 w5 w6:AV) (h':T Blk) (nx':Pa),m'<m->Inv m' w5 h' nx'->R (uw.fr d c f w3 e w5 w6) h' nx'=.ok True) ->
   (zf .lss .int z5 e fun v1=>zQ v1 (zJ 0 f fun v2=>zB v2 h fun v3=>zO 1 v3 z5 fun v4=>zN 1 v4 z5 h nx fun v5 h6 n7=>zf .add .int z5 (I 1) fun v8=>R (uw.fr d c f z5 e v8 v1) h6 n7) (K (uw.fr d c f z3 e z5 v1) h nx))=.ok True) :
  IR.run uw.b1 C N (fnO uw.res K0) K (uw.fr d c f g e p v) h nx=.ok True:=by
 rw [uw.b1,uw.uf,uw.b2];refine yB (fun m tm h nx=>∃ z3 z5 z6,tm=(uw.fr d c f z3 e z5 z6)/\Inv m z5 h nx) ?_ hm ⟨_,_,_,rfl,hi⟩;rintro m tm h nx R ⟨z3,z5,z6,rfl,hi⟩ hR;refine Eq.trans ?_ (step m z3 z5 z6 h nx R hi fun m' w3 w5 w6 h' nx' hlt hi'=>hR m' _ h' nx' hlt ⟨_,_,_,rfl,hi'⟩)
 kernel_rfl
theorem uw.k8:IR.run uw.b8 C N (fnO uw.res K0) K (uw.fr d c f g e p v) h nx =
 zK 2 f h fun v1=>zN 2 c v1 h nx fun v2 h3 n4=>zK 2 c h3 fun v5=>K0 v5 h3 n4:=by kernel_rfl
theorem jy.uf (X2:IR) (O:gu Prop) (t:T AV):IR.run (jy.g1 X2) C N O K t h nx=IR.run X2 C N (O.blk 0 K) K t h nx:=by kernel_rfl
theorem jy.tab:T.get none (.of 112) tbl=some jy:=by kernel_rfl
theorem jy.go:zM tbl N C (.of 112) [a0] h nx K0 =
 fC a0 h nx fun v1 h2 n3=>zJ 0 v1 fun v4=>zB v4 h2 fun v5=>sLen v5 fun v6=>zf .add .int v6 (I 1) fun v7=>gU 1 1 [(.int .u8 0)] (I 0) v7 h2 n3 fun v8 h9 nF=>zJ 0 v1 fun vS=>zB vS h9 fun vZ=>sLen vZ fun vG=>IR.run jy.b1 C N (fnO jy.res K0) (IR.run jy.b8 C N (fnO jy.res K0) (xu jy.res K0)) (jy.fr a0 v1 (.str []) v8 .undef vZ vG (I 0) .undef .undef) h9 nF:=by
 rw [zG jy.tab];kernel_rfl
theorem jy.L1 (Inv:Nat->AV->AV->T Blk->Pa->Prop) {m:Nat} (hm:m<N) (hi:Inv m g z h nx)
  (step:∀ (m:Nat) (z3 z4 z7 z8:AV) (h:T Blk) (nx:Pa) (R:Ks Prop),Inv m z3 z7 h nx->(∀ (m':Nat) (w3 w4 w7 w8:AV) (h':T Blk) (nx':Pa),m'<m->Inv m' w3 w7 h' nx'->R (jy.fr d c f w3 w4 p v w7 w8 L) h' nx'=.ok True) ->
   (zf .lss .int z7 v fun v1=>zQ v1 (zO 1 p z7 fun v2=>zB v2 h fun v3=>cH .u8 v3 fun v4=>yE 1 1 [(.int .u8 0)] [(0,1,v4)] h nx fun v5 h6 n7=>ny 1 1 z3 v5 h6 n7 fun v8 h9 nF=>zf .add .int z7 (I 1) fun vS=>R (jy.fr d c f v8 v3 p v vS v1 L) h9 nF) (K (jy.fr d c f z3 z4 p v z7 v1 L) h nx))=.ok True) :
  IR.run jy.b1 C N (fnO jy.res K0) K (jy.fr d c f g e p v z H L) h nx=.ok True:=by
 rw [jy.b1,jy.uf,jy.b2];refine yB (fun m tm h nx=>∃ z3 z4 z7 z8,tm=(jy.fr d c f z3 z4 p v z7 z8 L)/\Inv m z3 z7 h nx) ?_ hm ⟨_,_,_,_,rfl,hi⟩;rintro m tm h nx R ⟨z3,z4,z7,z8,rfl,hi⟩ hR;refine Eq.trans ?_ (step m z3 z4 z7 z8 h nx R hi fun m' w3 w4 w7 w8 h' nx' hlt hi'=>hR m' _ h' nx' hlt ⟨_,_,_,_,rfl,hi'⟩)
 kernel_rfl
theorem jy.k8:IR.run jy.b8 C N (fnO jy.res K0) K (jy.fr d c f g e p v z H L) h nx =
 zJ 1 c fun v1=>zB v1 h fun v2=>zQ v2 (yE 1 1 [(.int .u8 0)] [(0,1,(.int .u8 1))] h nx fun v3 h4 n5=>ny 1 1 g v3 h4 n5 fun v6 h7 n8=>sB2s v6 h7 fun v9=>K0 v9 h7 n8) (sB2s g h fun vA=>K0 vA h nx):=by kernel_rfl
theorem oz.tab:T.get none (.of 249) tbl=some oz:=by kernel_rfl
theorem oz.go:zM tbl N C (.of 249) [a0,a1] h nx K0 =
 fC a1 h nx fun v1 h2 n3=>zK 2 v1 h2 fun v4=>C.fn 112 (.of 112) [v4] h2 n3 fun v5 h6 n7=>zex .str (.agg [.zh,(.bool false)]) true a0 v5 h6 fun v8=>fA 0 v8 fun v9=>fA 1 v8 fun vA=>yG [.zh,(.bool false)] h6 n7 fun vS hF nG=>zN 2 vS v9 hF nG fun vT hU nU=>K0 vA hU nU:=by
 rw [zG oz.tab];kernel_rfl
theorem uy.uf (X2:IR) (O:gu Prop) (t:T AV):IR.run (uy.g1 X2) C N O K t h nx=IR.run X2 C N (O.blk 0 K) K t h nx:=by kernel_rfl
theorem uy.tab:T.get none (.of 250) tbl=some uy:=by kernel_rfl
theorem uy.go:zM tbl N C (.of 250) [a0,a1] h nx K0 =
 fC a0 h nx fun v1 h2 n3=>fC a1 h2 n3 fun v4 h5 n6=>yG [.zh,(.bool false)] h5 n6 fun v7 h8 n9=>sChk (true&&true) (zJ 0 v4 fun vA=>zB vA h8 fun vS=>sLen vS fun vZ=>sChk (mkSl 8 vZ vZ&&true) (zJ 1 v1 fun vG=>zB vG h8 fun vT=>zJ 1 v4 fun vU=>zB vU h8 fun vL=>zf .neq .bool vT vL fun vV=>gU 1 8 [(I 0)] vZ vZ h8 n9 fun vW hK nL=>(zf .neq .bool vT vL fun v47=>zS v47 vV ((zB vU hK fun v46=>zS v46 vL ((zJ 1 v4 fun v45=>zS v45 vU ((zB vG hK fun v44=>zS v44 vT ((zJ 1 v1 fun v43=>zS v43 vG ((sLen vS fun v42=>zS v42 vZ ((zB vA hK fun v41=>zS v41 vS ((zJ 0 v4 fun v40=>zS v40 vA (kK [.zh,(.bool false)] [(0,1,vW),(1,1,vV)] fun vY=>yG [.zh,(.bool false)] hK nL fun vN hE nE=>(kK [.zh,(.bool false)] [(0,1,vW),(1,1,vV)] fun v39=>zS v39 vY ((zf .neq .bool vT vL fun v38=>zS v38 vV ((zB vU hE fun v37=>zS v37 vL ((zJ 1 v4 fun vC=>zS vC vU ((zB vG hE fun vD=>zS vD vT ((zJ 1 v1 fun vE=>zS vE vG ((sLen vS fun vF=>zS vF vZ ((zB vA hE fun vH=>zS vH vS ((zJ 0 v4 fun vI=>zS vI vA (zN 2 vN vY hE nE fun vO hG nH=>zJ 0 v4 fun vR=>zB vR hG fun vK=>sLen vK fun vJ=>IR.run uy.b1 C N (fnO uy.res K0) (IR.run uy.b8 C N (fnO uy.res K0) (xu uy.res K0)) (uy.fr a0 a1 v1 v4 v7 vN .undef .undef vK vJ (I 0) .undef) hG nH)))))))))))))))))))))))))))))))))))):=by
 rw [zG uy.tab];kernel_rfl
theorem uy.L1 (Inv:Nat->AV->T Blk->Pa->Prop) {m:Nat} (hm:m<N) (hi:Inv m a h nx)
  (step:∀ (m:Nat) (z6 z7 zA zC:AV) (h:T Blk) (nx:Pa) (R:Ks Prop),Inv m zA h nx->(∀ (m':Nat) (w6 w7 wA wB:AV) (h':T Blk) (nx':Pa),m'<m->Inv m' wA h' nx'->R (uy.fr d c f g e p w6 w7 H L wA wB) h' nx'=.ok True) ->
   (zf .lss .int zA L fun v1=>zQ v1 (zO 1 H zA fun v2=>zB v2 h fun v3=>zJ 0 p fun v4=>zB v4 h fun v5=>zJ 0 f fun v6=>zB v6 h fun v7=>zO 1 v7 v3 fun v8=>zB v8 h fun v9=>zO 1 v5 zA fun vA=>zN 1 vA v9 h nx fun vS hF nG=>zf .add .int zA (I 1) fun vT=>R (uy.fr d c f g e p zA v3 H L vT v1) hF nG) (K (uy.fr d c f g e p z6 z7 H L zA v1) h nx))=.ok True) :
  IR.run uy.b1 C N (fnO uy.res K0) K (uy.fr d c f g e p v z H L a b) h nx=.ok True:=by
 rw [uy.b1,uy.uf,uy.b2];refine yB (fun m tm h nx=>∃ z6 z7 zA zC,tm=(uy.fr d c f g e p z6 z7 H L zA zC)/\Inv m zA h nx) ?_ hm ⟨_,_,_,_,rfl,hi⟩;rintro m tm h nx R ⟨z6,z7,zA,zC,rfl,hi⟩ hR;refine Eq.trans ?_ (step m z6 z7 zA zC h nx R hi fun m' w6 w7 wA wB h' nx' hlt hi'=>hR m' _ h' nx' hlt ⟨_,_,_,_,rfl,hi'⟩)
 kernel_rfl
theorem uy.k8:IR.run uy.b8 C N (fnO uy.res K0) K (uy.fr d c f g e p v z H L a b) h nx =
 zK 2 p h fun v1=>zN 2 e v1 h nx fun v2 h3 n4=>zK 2 e h3 fun v5=>K0 v5 h3 n4:=by kernel_rfl
theorem oC.tab:T.get none (.of 126) tbl=some oC:=by kernel_rfl
theorem oC.go:zM tbl N C (.of 126) [a0] h nx K0 =
 C.fn 187 (.of 187) [a0] h nx fun v1 h2 n3=>zf .eql .int v1 (I 0) fun v4=>K0 v4 h2 n3:=by
 rw [zG oC.tab];kernel_rfl
theorem jh.sS (X3:IR) (O:gu Prop) (t:T AV):IR.run (jh.g2 X3) C N O K t h nx=IR.run X3 C N (O.blk 0 K) K t h nx:=by kernel_rfl
theorem jh.tab:T.get none (.of 187) tbl=some jh:=by kernel_rfl
theorem jh.go:zM tbl N C (.of 187) [a0] h nx K0 =
 sLen a0 fun v1=>zf .gtr .int v1 (I 256) fun v2=>zQ v2 (K0 (I 5) h nx) (sLen a0 fun v3=>gU 1 1 [(.bool false)] v3 v3 h nx fun v4 h5 n6=>sLen a0 fun v7=>IR.run jh.b2 C N (fnO jh.res K0) (IR.run jh.b10 C N (fnO jh.res K0) (xu jh.res K0)) (jh.fr a0 (I 0) v4 .undef v2 a0 v7 (I 0) .undef .undef) h5 n6):=by
 rw [zG jh.tab];kernel_rfl
theorem jh.L2 (Inv:Nat->AV->T Blk->Pa->Prop) {m:Nat} (hm:m<N) (hi:Inv m z h nx)
  (step:∀ (m:Nat) (z1 z3 z7 z8 z9:AV) (h:T Blk) (nx:Pa) (R:Ks Prop),Inv m z7 h nx->(∀ (m':Nat) (w1 w3 w7 w8 w9:AV) (h':T Blk) (nx':Pa),m'<m->Inv m' w7 h' nx'->R (jh.fr d w1 f w3 e p v w7 w8 w9) h' nx'=.ok True) ->
   (zf .lss .int z7 v fun v1=>zQ v1 (zO 1 p z7 fun v2=>zB v2 h fun v3=>zf .lss .int v3 (I 0) fun v4=>sG v4 false (fun k=>k v3) fun v5=>sG v4 false (fun k=>k d) fun v6=>sG v4 false (fun k=>sLen v6 k) fun v7=>sG v4 false (fun k=>zf .geq .int v5 v7 k) fun v8=>jN v4 (.bool true) v8 fun v9=>sG v9 false (fun k=>k f) fun vA=>sG v9 false (fun k=>k v3) fun vS=>sG v9 false (fun k=>zO 1 vA vS k) fun vZ=>sG v9 false (fun k=>zB vZ h k) fun vG=>jN v9 (.bool true) vG fun vT=>zQ vT (K0 (I 14) h nx) ((IR.run jh.b8 C N (((fnO jh.res K0).blk 0 K).blk 1 (IR.run jh.b9 C N ((fnO jh.res K0).blk 0 K) R)) (IR.run jh.b9 C N ((fnO jh.res K0).blk 0 K) R)) (jh.fr d z1 f v3 e p v z7 v1 vT) h nx)) (K (jh.fr d z1 f z3 e p v z7 v1 z9) h nx))=.ok True) :
  IR.run jh.b2 C N (fnO jh.res K0) K (jh.fr d c f g e p v z H L) h nx=.ok True:=by
 rw [jh.b2,jh.sS,jh.b3];refine yB (fun m tm h nx=>∃ z1 z3 z7 z8 z9,tm=(jh.fr d z1 f z3 e p v z7 z8 z9)/\Inv m z7 h nx) ?_ hm ⟨_,_,_,_,_,rfl,hi⟩;rintro m tm h nx R ⟨z1,z3,z7,z8,z9,rfl,hi⟩ hR;refine Eq.trans ?_ (step m z1 z3 z7 z8 z9 h nx R hi fun m' w1 w3 w7 w8 w9 h' nx' hlt hi'=>hR m' _ h' nx' hlt ⟨_,_,_,_,_,rfl,hi'⟩)
 kernel_rfl
theorem jh.k10:IR.run jh.b10 C N (fnO jh.res K0) K (jh.fr d c f g e p v z H L) h nx =
 K0 (I 0) h nx:=by kernel_rfl
theorem jh.k9 {E0:Ks Prop}:IR.run jh.b9 C N ((fnO jh.res K0).blk 0 E0) K (jh.fr d c f g e p v z H L) h nx =
 zf .add .int z (I 1) fun v1=>K (jh.fr d c f g e p v v1 H L) h nx:=by kernel_rfl
theorem jh.k8 {E0 E1:Ks Prop}:IR.run jh.b8 C N (((fnO jh.res K0).blk 0 E0).blk 1 E1) K (jh.fr d c f g e p v z H L) h nx =
 zO 1 f g fun v1=>zN 1 v1 (.bool true) h nx fun v2 h3 n4=>K (jh.fr d c f g e p v z H L) h3 n4:=by kernel_rfl
theorem F72.uf (X2:IR) (O:gu Prop) (t:T AV):IR.run (F72.g1 X2) C N O K t h nx=IR.run X2 C N (O.blk 0 K) K t h nx:=by kernel_rfl
theorem F72.tab:T.get none (.of 72) tbl=some F72:=by kernel_rfl
theorem F72.go:zM tbl N C (.of 72) [a0] h nx K0 =
 sLen a0 fun v1=>IR.run F72.b1 C N (fnO F72.res K0) (IR.run F72.b8 C N (fnO F72.res K0) (xu F72.res K0)) (F72.fr a0 (I 0) .undef a0 v1 (I 0) .undef .undef) h nx:=by
 rw [zG F72.tab];kernel_rfl
theorem F72.L1 (Inv:Nat->AV->T Blk->Pa->Prop) {m:Nat} (hm:m<N) (hi:Inv m p h nx)
  (step:∀ (m:Nat) (z1 z2 z5 z6 z7:AV) (h:T Blk) (nx:Pa) (R:Ks Prop),Inv m z5 h nx->(∀ (m':Nat) (w1 w2 w5 w6 w7:AV) (h':T Blk) (nx':Pa),m'<m->Inv m' w5 h' nx'->R (F72.fr d w1 w2 g e w5 w6 w7) h' nx'=.ok True) ->
   (zf .lss .int z5 e fun v1=>zQ v1 (zO 1 g z5 fun v2=>zB v2 h fun v3=>zf .neq .int v3 (I 0) fun v4=>zQ v4 (K0 v3 h nx) (zf .add .int z5 (I 1) fun v5=>R (F72.fr d z1 v3 g e v5 v1 v4) h nx)) (K (F72.fr d z1 z2 g e z5 v1 z7) h nx))=.ok True) :
  IR.run F72.b1 C N (fnO F72.res K0) K (F72.fr d c f g e p v z) h nx=.ok True:=by
 rw [F72.b1,F72.uf,F72.b2];refine yB (fun m tm h nx=>∃ z1 z2 z5 z6 z7,tm=(F72.fr d z1 z2 g e z5 z6 z7)/\Inv m z5 h nx) ?_ hm ⟨_,_,_,_,_,rfl,hi⟩;rintro m tm h nx R ⟨z1,z2,z5,z6,z7,rfl,hi⟩ hR;refine Eq.trans ?_ (step m z1 z2 z5 z6 z7 h nx R hi fun m' w1 w2 w5 w6 w7 h' nx' hlt hi'=>hR m' _ h' nx' hlt ⟨_,_,_,_,_,rfl,hi'⟩)
 kernel_rfl
theorem F72.k8:IR.run F72.b8 C N (fnO F72.res K0) K (F72.fr d c f g e p v z) h nx =
 K0 (I 0) h nx:=by kernel_rfl
theorem oD.tab:T.get none (.of 125) tbl=some oD:=by kernel_rfl
theorem oD.go:zM tbl N C (.of 125) [a0] h nx K0 =
 zf .lss .int a0 (I 0) fun v1=>sG v1 false (fun k=>k a0) fun v2=>sG v1 false (fun k=>zf .gtr .int v2 (I 256) k) fun v3=>jN v1 (.bool true) v3 fun v4=>C.fn 76 (.of 76) [v4,(I 3)] h nx fun v5 h6 n7=>K0 v5 h6 n7:=by
 rw [zG oD.tab];kernel_rfl
theorem F76.tab:T.get none (.of 76) tbl=some F76:=by kernel_rfl
theorem F76.go:zM tbl N C (.of 76) [a0,a1] h nx K0 =
 zQ a0 (K0 a1 h nx) (K0 (I 0) h nx):=by
 rw [zG F76.tab];kernel_rfl
theorem zo.zun (X14:IR) (O:gu Prop) (t:T AV):IR.run (zo.g13 X14) C N O K t h nx=IR.run X14 C N (O.blk 4 K) K t h nx:=by kernel_rfl
theorem zo.zew (X8:IR) (O:gu Prop) (t:T AV):IR.run (zo.g7 X8) C N O K t h nx=IR.run X8 C N (O.blk 2 K) K t h nx:=by kernel_rfl
theorem zo.tab:T.get none (.of 200) tbl=some zo:=by kernel_rfl
theorem zo.go:zM tbl N C (.of 200) [a0,a1,a2] h nx K0 =
 fC a2 h nx fun v1 h2 n3=>yG [.xk] h2 n3 fun v4 h5 n6=>yG [.zh] h5 n6 fun v7 h8 n9=>yG [(.bool false)] h8 n9 fun vA hA nA=>C.fn 248 (.of 248) [a1] hA nA fun vG hB nB=>yG [.zh,(.bool false)] hB nB fun vL hC nC=>zN 2 vL vG hC nC fun vM hD nD=>sChk (true&&(true&&true)) (zK 2 vL hD fun vN=>zK 2 vL hD fun v23=>C.fn 112 (.of 112) [vN] hD nD fun v24 hQ nR=>(zK 2 vL hQ fun v52=>zS v52 v23 ((zK 2 vL hQ fun v51=>zS v51 vN (zal hQ nR fun vQ hS nS=>(zK 2 vL hS fun v50=>zS v50 v23 ((zK 2 vL hS fun v49=>zS v49 vN (pJ .str vQ v24 v23 hS nS fun vJ hV nV=>(zK 2 vL hV fun v48=>zS v48 v23 ((zK 2 vL hV fun v47=>zS v47 vN (yG [.xk] hV nV fun vF hW nW=>zS vQ vQ ((zK 2 vL hW fun v46=>zS v46 v23 ((zK 2 vL hW fun v45=>zS v45 vN (zN 1 vF vQ hW nW fun vC hX nX=>yG [.zh] hX nX fun v39 hY nY=>C.fn 86 (.of 86) [a0] hY nY fun v42 hZ nZ=>IR.run (.rf (.t (.of 14)) [(.of 15),(.of 16)] zo.b3 zo.b4) C N ((fnO zo.res K0).blk 0 (IR.run zo.b23 C N (fnO zo.res K0) (xu zo.res K0))) (IR.run zo.b23 C N (fnO zo.res K0) (xu zo.res K0)) (zo.fr a0 a1 a2 v1 v4 v7 vA vL vF v39 .undef .undef .undef .undef v42 .undef .undef .undef .undef .undef .undef .undef .undef .undef .undef) hZ nZ)))))))))))))))))):=by
 rw [zG zo.tab];kernel_rfl
theorem zo.k23:IR.run zo.b23 C N (fnO zo.res K0) K (zo.fr d c f g e p v z H L a b l i q s u w y A D B E F G) h nx =
 zB H h fun v1=>zB L h fun v2=>zN 1 e v1 h nx fun v3 h4 n5=>(zB L h4 fun vU=>zS vU v2 (zN 1 p v2 h4 n5 fun v6 h7 n8=>zN 1 v (.bool true) h7 n8 fun v9 hT nT=>zB e hT fun vZ=>zB p hT fun vG=>zB v hT fun vT=>K0 (.tup [vZ,vG,vT]) hT nT)):=by kernel_rfl
theorem zo.p4 {N:Nat} {C:Calls Prop} {K0:Kw Prop} {id nx:Pa} {j:Jump} {h:T Blk} {d c f g e p v z H L a b l i q s u w y A D B E F G z0 z1:AV} (hl:T.get .no id h=.loop .ready j (zo.fr d c f g e p v z H L a b l i q s u w y A D B E F G) [.of 15,.of 16] zo.b3 zo.b4) :
 uQ N C id [z0,z1] h nx K0 =
 yG [.zh,(.bool false)] h nx fun v1 h2 n3=>zN 2 v1 z1 h2 n3 fun v4 h5 n6=>rMid N C id K0 zo.b4 (zo.fr d c f g e p v z H L v1 b l i q z0 z1 w y A D B E F G) h5 n6:=by
 rw [zjl hl (tm1:=(zo.fr d c f g e p v z H L a b l i q z0 z1 w y A D B E F G)) (by intro k;kernel_rfl)];kernel_rfl
theorem zo.y4 {N:Nat} {C:Calls Prop} {K0:Kw Prop} {id nx:Pa} {h:T Blk} {d c f g e p v z H L a b l i q s u w y A D B E F G:AV} :
 IR.run zo.b4 C N (rO id K0) (yT id K0 .none true) (zo.fr d c f g e p v z H L a b l i q s u w y A D B E F G) h nx =
 zB H h fun v1=>zK 2 a h fun v2=>C.fn 249 (.of 249) [v1,v2] h nx fun v3 h4 n5=>zQ v3 (yT id K0 .none true .e h4 n5) (zB L h4 fun v6=>zK 2 a h4 fun v7=>yE 2 1 [.zh,(.bool false)] [(0,2,v7)] h4 n5 fun v8 h9 nF=>p8 C 2 32 v6 v8 h9 nF fun vS hF nG=>zN 1 L vS hF nG fun vT hU nU=>sChk (true&&true) (zK 2 z hU fun vV=>zK 2 z hU fun vW=>C.fn 112 (.of 112) [vV] hU nU fun vM hD nD=>(zK 2 z hD fun v38=>zS v38 vW ((zK 2 z hD fun v37=>zS v37 vV (zal hD nD fun vN hE nE=>(zK 2 z hE fun vC=>zS vC vW ((zK 2 z hE fun vD=>zS vD vV (pJ .str vN vM vW hE nE fun vO hG nH=>zN 1 H vN hG nH fun vR hH nI=>zK 2 z hH fun vI=>yE 2 1 [.zh,(.bool false)] [(0,2,vI)] hH nI fun vH h33 n34=>IR.run zo.b7 C N ((rO id K0).blk 1 (yT id K0 .none true)) (yT id K0 .none true) (zo.fr d c f g e p v z H L a vH l i q s u v3 y A D B E F G) h33 n34)))))))))):=by kernel_rfl
theorem zo.L7 {id:Pa} {E1:Ks Prop} (Inv:Nat->AV->T Blk->Pa->Prop) {m:Nat} (hm:m<N) (hi:Inv m b h nx)
  (step:∀ (m:Nat) (zC zD zE zP zR zT zU zV zW zX:AV) (h:T Blk) (nx:Pa) (R:Ks Prop),Inv m zC h nx->(∀ (m':Nat) (wB wC wD wI wJ wK wL wM wN wO:AV) (h':T Blk) (nx':Pa),m'<m->Inv m' wB h' nx'->R (zo.fr d c f g e p v z H L a wB wC wD q s u w wI wJ wK wL wM wN wO) h' nx'=.ok True) ->
   (sLen zC fun v1=>zf .gtr .int v1 (I 0) fun v2=>zQ v2 (zB L h fun v3=>sLen v3 fun v4=>IR.run zo.b13 C N ((((rO id K0).blk 1 E1).blk 2 K).blk 3 (IR.run zo.b22 C N (((rO id K0).blk 1 E1).blk 2 K) R)) (IR.run zo.b22 C N (((rO id K0).blk 1 E1).blk 2 K) R) (zo.fr d c f g e p v z H L a zC zD zE q s u w v2 v3 v4 (I 0) zV zW zX) h nx) (K (zo.fr d c f g e p v z H L a zC zD zE q s u w v2 zR zT zU zV zW zX) h nx))=.ok True) :
  IR.run zo.b7 C N ((rO id K0).blk 1 E1) K (zo.fr d c f g e p v z H L a b l i q s u w y A D B E F G) h nx=.ok True:=by
 rw [zo.b7,zo.zew,zo.b8];refine yB (fun m tm h nx=>∃ zC zD zE zP zR zT zU zV zW zX,tm=(zo.fr d c f g e p v z H L a zC zD zE q s u w zP zR zT zU zV zW zX)/\Inv m zC h nx) ?_ hm ⟨_,_,_,_,_,_,_,_,_,_,rfl,hi⟩;rintro m tm h nx R ⟨zC,zD,zE,zP,zR,zT,zU,zV,zW,zX,rfl,hi⟩ hR;refine Eq.trans ?_ (step m zC zD zE zP zR zT zU zV zW zX h nx R hi fun m' wB wC wD wI wJ wK wL wM wN wO h' nx' hlt hi'=>hR m' _ h' nx' hlt ⟨_,_,_,_,_,_,_,_,_,_,rfl,hi'⟩)
 kernel_rfl
theorem zo.k22 {id:Pa} {E1 E2:Ks Prop}:IR.run zo.b22 C N (((rO id K0).blk 1 E1).blk 2 E2) K (zo.fr d c f g e p v z H L a b l i q s u w y A D B E F G) h nx =
 kZ 2 b (some (I 1)) none none fun v1=>K (zo.fr d c f g e p v z H L a v1 l i q s u w y A D B E F G) h nx:=by kernel_rfl
theorem zo.L13 {id:Pa} {E1 E2 E3:Ks Prop} (Inv:Nat->AV->AV->T Blk->Pa->Prop) {m:Nat} (hm:m<N) (hi:Inv m b B h nx)
  (step:∀ (m:Nat) (zC zD zE zU zV zW zX:AV) (h:T Blk) (nx:Pa) (R:Ks Prop),Inv m zC zU h nx->(∀ (m':Nat) (wB wC wD wL wM wN wO:AV) (h':T Blk) (nx':Pa),m'<m->Inv m' wB wL h' nx'->R (zo.fr d c f g e p v z H L a wB wC wD q s u w y A D wL wM wN wO) h' nx'=.ok True) ->
   (zf .lss .int zU D fun v1=>zQ v1 (zO 2 A zU fun v2=>zK 2 v2 h fun v3=>yG [.zh,(.bool false)] h nx fun v4 h5 n6=>zN 2 v4 v3 h5 n6 fun v7 h8 n9=>sChk (true&&true) (zK 2 v4 h8 fun vA=>zO 2 zC (I 0) fun vS=>zK 2 vS h8 fun vZ=>C.fn 250 (.of 250) [vA,vZ] h8 n9 fun vG hB nB=>(zK 2 vS hB fun v65=>zS v65 vZ ((zO 2 zC (I 0) fun v64=>zS v64 vS (zS zC zC ((zK 2 v4 hB fun v63=>zS v63 vA (yG [.zh,(.bool false)] hB nB fun vL hC nC=>(zK 2 vS hC fun v62=>zS v62 vZ ((zO 2 zC (I 0) fun v61=>zS v61 vS (zS zC zC ((zK 2 v4 hC fun v60=>zS v60 vA (zN 2 vL vG hC nC fun vM hD nD=>zB H hD fun vN=>zK 2 vL hD fun v23=>C.fn 249 (.of 249) [vN,v23] hD nD fun v24 hQ nR=>zQ v24 (zf .add .int zU (I 1) fun vQ=>R (zo.fr d c f g e p v z H L a zC v4 vL q s u w y A D vQ v1 v24 zX) hQ nR) (zB H hQ fun vR=>zjm vR hQ fun vK=>zB g hQ fun vJ=>zf .eql .int vK vJ fun vI=>zQ vI (zN 1 e .xk hQ nR fun vH h33 n34=>zN 1 p .zh h33 n34 fun vD h36 n37=>zN 1 v (.bool false) h36 n37 fun v38 h39 n40=>yT id K0 .ret false .e h39 n40) (zB H hQ fun v41=>zK 2 vL hQ fun v42=>zK 2 vL hQ fun v43=>C.fn 112 (.of 112) [v42] hQ nR fun v44 h45 n46=>(zK 2 vL h45 fun v59=>zS v59 v43 ((zB H h45 fun v58=>zS v58 v41 (pJ .str v41 v44 v43 h45 n46 fun v47 h48 n49=>zK 2 vL h48 fun v50=>yE 2 1 [.zh,(.bool false)] [(0,2,v50)] h48 n49 fun v51 h52 n53=>p8 C 2 32 zC v51 h52 n53 fun v54 h55 n56=>zf .add .int zU (I 1) fun v57=>R (zo.fr d c f g e p v z H L a v54 v4 vL q s u w y A D v57 v1 v24 vI) h55 n56)))))))))))))))))))))) (K (zo.fr d c f g e p v z H L a zC zD zE q s u w y A D zU v1 zW zX) h nx))=.ok True) :
  IR.run zo.b13 C N ((((rO id K0).blk 1 E1).blk 2 E2).blk 3 E3) K (zo.fr d c f g e p v z H L a b l i q s u w y A D B E F G) h nx=.ok True:=by
 rw [zo.b13,zo.zun,zo.b14];refine yB (fun m tm h nx=>∃ zC zD zE zU zV zW zX,tm=(zo.fr d c f g e p v z H L a zC zD zE q s u w y A D zU zV zW zX)/\Inv m zC zU h nx) ?_ hm ⟨_,_,_,_,_,_,_,rfl,hi⟩;rintro m tm h nx R ⟨zC,zD,zE,zU,zV,zW,zX,rfl,hi⟩ hR;refine Eq.trans ?_ (step m zC zD zE zU zV zW zX h nx R hi fun m' wB wC wD wL wM wN wO h' nx' hlt hi'=>hR m' _ h' nx' hlt ⟨_,_,_,_,_,_,_,rfl,hi'⟩)
 kernel_rfl
theorem je.tab:T.get none (.of 143) tbl=some je:=by kernel_rfl
theorem je.go:zM tbl N C (.of 143) [a0,a1] h nx K0 =
 fC a0 h nx fun v1 h2 n3=>yG [.xk] h2 n3 fun v4 h5 n6=>yG [.zh] h5 n6 fun v7 h8 n9=>yG [(I 0)] h8 n9 fun vA hA nA=>zB v1 hA fun vG=>sLen vG fun vT=>zf .eql .int vT (I 0) fun vU=>zB v1 hA fun vL=>sLen vL fun vV=>zf .gtr .int vV (I 1536) fun vW=>C.fn 125 (.of 125) [a1] hA nA fun vM hD nD=>(zf .gtr .int vV (I 1536) fun v76=>zS v76 vW ((sLen vL fun v75=>zS v75 vV ((zB v1 hD fun v74=>zS v74 vL ((zf .eql .int vT (I 0) fun v73=>zS v73 vU ((sLen vG fun v72=>zS v72 vT ((zB v1 hD fun v71=>zS v71 vG (C.fn 76 (.of 76) [vU,(I 12)] hD nD fun vN hE nE=>(zf .gtr .int vV (I 1536) fun v70=>zS v70 vW ((sLen vL fun v69=>zS v69 vV ((zB v1 hE fun v68=>zS v68 vL (C.fn 76 (.of 76) [vW,(I 5)] hE nE fun vO hG nH=>yE 1 3 [(I 0)] [(0,1,vM),(1,1,vN),(2,1,vO)] hG nH fun vR hH nI=>C.fn 72 (.of 72) [vR] hH nI fun vI h32 n33=>zf .neq .int vI (I 0) fun vE=>zQ vE (zN 1 v4 .xk h32 n33 fun vD h36 n37=>zN 1 v7 .zh h36 n37 fun v38 h39 n40=>zN 1 vA vI h39 n40 fun v41 h42 n43=>zB v4 h42 fun v44=>zB v7 h42 fun v45=>zB vA h42 fun v46=>K0 (.tup [v44,v45,v46]) h42 n43) (zB v1 h32 fun v47=>C.fn 199 (.of 199) [v47,a1] h32 n33 fun v48 h49 n50=>zf .neq .int v48 (I 0) fun v51=>zQ v51 (zN 1 v4 .xk h49 n50 fun v52 h53 n54=>zN 1 v7 .zh h53 n54 fun v55 h56 n57=>zN 1 vA v48 h56 n57 fun v58 h59 n60=>zB v4 h59 fun v61=>zB v7 h59 fun v62=>zB vA h59 fun v63=>K0 (.tup [v61,v62,v63]) h59 n60) (zB v1 h49 fun v64=>C.fn 86 (.of 86) [v64] h49 n50 fun v65 h66 n67=>IR.run (.rf (.t (.of 15)) [(.of 16),(.of 17)] je.b5 je.b6) C N ((fnO je.res K0).blk 0 (IR.run je.b8 C N (fnO je.res K0) (xu je.res K0))) (IR.run je.b8 C N (fnO je.res K0) (xu je.res K0)) (je.fr a0 a1 v1 v4 v7 vA vI v48 .undef .undef .undef .undef .undef vE v51 v65 .undef .undef .undef .undef) h66 n67)))))))))))))))))))):=by
 rw [zG je.tab];kernel_rfl
theorem je.k8:IR.run je.b8 C N (fnO je.res K0) K (je.fr d c f g e p v z H L a b l i q s u w y A) h nx =
 zB f h fun v1=>zB f h fun v2=>sLen v2 fun v3=>C.fn 200 (.of 200) [v1,c,v3] h nx fun v4 h5 n6=>fA 0 v4 fun v7=>fA 1 v4 fun v8=>fA 2 v4 fun v9=>sNot v9 fun vA=>sG vA false (fun k=>k v7) fun vS=>sG vA false (fun k=>zjm vS h5 k) fun vZ=>sG vA false (fun k=>zB f h5 k) fun vG=>sG vA false (fun k=>sLen vG k) fun vT=>sG vA false (fun k=>zf .neq .int vZ vT k) fun vU=>jN vA (.bool true) vU fun vL=>zQ vL (zN 1 g .xk h5 n6 fun vV hN nO=>zN 1 e .zh hN nO fun vX hO nP=>zN 1 p (I 28) hO nP fun v23 hP nQ=>zB g hP fun vP=>zB e hP fun vQ=>zB p hP fun vR=>K0 (.tup [vP,vQ,vR]) hP nQ) ((IR.run je.b9 C N (fnO je.res K0) K) (je.fr d c f g e p v z H L v7 v8 v9 i q s u w y vL) h5 n6):=by kernel_rfl
theorem je.p6 {N:Nat} {C:Calls Prop} {K0:Kw Prop} {id nx:Pa} {j:Jump} {h:T Blk} {d c f g e p v z H L a b l i q s u w y A z0 z1:AV} (hl:T.get .no id h=.loop .ready j (je.fr d c f g e p v z H L a b l i q s u w y A) [.of 16,.of 17] je.b5 je.b6) :
 uQ N C id [z0,z1] h nx K0 =
 yG [.zh,(.bool false)] h nx fun v1 h2 n3=>zN 2 v1 z1 h2 n3 fun v4 h5 n6=>rMid N C id K0 je.b6 (je.fr d c f g e p v z z0 v1 a b l i q s z0 z1 y A) h5 n6:=by
 rw [zjl hl (tm1:=(je.fr d c f g e p v z H L a b l i q s z0 z1 y A)) (by intro k;kernel_rfl)];kernel_rfl
theorem je.y6 {N:Nat} {C:Calls Prop} {K0:Kw Prop} {id nx:Pa} {h:T Blk} {d c f g e p v z H L a b l i q s u w y A:AV} :
 IR.run je.b6 C N (rO id K0) (yT id K0 .none true) (je.fr d c f g e p v z H L a b l i q s u w y A) h nx =
 zf .gtr .int H (I 0) fun v1=>sG v1 true (fun k=>zB f h k) fun v2=>sG v1 true (fun k=>k H) fun v3=>sG v1 true (fun k=>zf .sub .int v3 (I 1) k) fun v4=>sG v1 true (fun k=>zO 2 v2 v4 k) fun v5=>sG v1 true (fun k=>zK 2 v5 h k) fun v6=>sG v1 true (fun k=>zK 2 L h k) fun v7=>sGW v1 true (fun k=>C.fn 114 (.of 114) [v6,v7] h nx k) h nx fun v8 h9 nF=>sG v1 true (fun k=>zf .geq .int v8 (I 0) k) fun vS=>jN v1 vS (.bool false) fun vZ=>zQ vZ (zN 1 g .xk h9 nF fun vG hB nB=>zN 1 e .zh hB nB fun vL hC nC=>zN 1 p (I 11) hC nC fun vM hD nD=>yT id K0 .ret false .e hD nD) (yT id K0 .none true .e h9 nF):=by kernel_rfl
theorem je.k9:IR.run je.b9 C N (fnO je.res K0) K (je.fr d c f g e p v z H L a b l i q s u w y A) h nx =
 zN 1 g a h nx fun v1 h2 n3=>zN 1 e b h2 n3 fun v4 h5 n6=>zN 1 p (I 0) h5 n6 fun v7 h8 n9=>zB g h8 fun vA=>zB e h8 fun vS=>zB p h8 fun vZ=>K0 (.tup [vA,vS,vZ]) h8 n9:=by kernel_rfl
theorem F60.uf (X2:IR) (O:gu Prop) (t:T AV):IR.run (F60.g1 X2) C N O K t h nx=IR.run X2 C N (O.blk 0 K) K t h nx:=by kernel_rfl
theorem F60.zew (X8:IR) (O:gu Prop) (t:T AV):IR.run (F60.g7 X8) C N O K t h nx=IR.run X8 C N (O.blk 2 K) K t h nx:=by kernel_rfl
theorem F60.tab:T.get none (.of 60) tbl=some F60:=by kernel_rfl
theorem F60.go:zM tbl N C (.of 60) [a0] h nx K0 =
 zho a0 h nx fun v1 h2 n3=>IR.run F60.b1 C N (fnO F60.res K0) (IR.run F60.b6 C N (fnO F60.res K0) (xu F60.res K0)) (F60.fr a0 .zh .zh .undef .undef .undef v1 .undef .undef .undef .undef .undef) h2 n3:=by
 rw [zG F60.tab];kernel_rfl
theorem F60.L1 (Inv:Nat->AV->T Blk->Pa->Prop) {m:Nat} (hm:m<N) (hi:Inv m f h nx)
  (step:∀ (m:Nat) (z2 z3 z7:AV) (h:T Blk) (nx:Pa) (R:Ks Prop),Inv m z2 h nx->(∀ (m':Nat) (w2 w3 w7:AV) (h':T Blk) (nx':Pa),m'<m->Inv m' w2 h' nx'->R (F60.fr d c w2 w3 e p v w7 H L a b) h' nx'=.ok True) ->
   (zm0 C v h nx fun v1 h2 n3=>fA 0 v1 fun v4=>zQ v4 (zhp v h2 fun v5=>fA 1 v5 fun v6=>yG [.zh,(.bool false)] h2 n3 fun v7 h8 n9=>zN 2 v7 v6 h8 n9 fun vA hA nA=>zK 2 v7 hA fun vG=>yE 2 1 [.zh,(.bool false)] [(0,2,vG)] hA nA fun vT hU nU=>p8 C 2 32 z2 vT hU nU fun vV hN nO=>R (F60.fr d c vV v7 e p v v4 H L a b) hN nO) (K (F60.fr d c z2 z3 e p v v4 H L a b) h2 n3))=.ok True) :
  IR.run F60.b1 C N (fnO F60.res K0) K (F60.fr d c f g e p v z H L a b) h nx=.ok True:=by
 rw [F60.b1,F60.uf,F60.b2];refine yB (fun m tm h nx=>∃ z2 z3 z7,tm=(F60.fr d c z2 z3 e p v z7 H L a b)/\Inv m z2 h nx) ?_ hm ⟨_,_,_,rfl,hi⟩;rintro m tm h nx R ⟨z2,z3,z7,rfl,hi⟩ hR;refine Eq.trans ?_ (step m z2 z3 z7 h nx R hi fun m' w2 w3 w7 h' nx' hlt hi'=>hR m' _ h' nx' hlt ⟨_,_,_,rfl,hi'⟩)
 kernel_rfl
theorem F60.k6:IR.run F60.b6 C N (fnO F60.res K0) K (F60.fr d c f g e p v z H L a b) h nx =
 C.fn 113 (.of 113) [f,(.fn 114 (.of 114) [])] h nx fun v1 h2 n3=>sLen f fun v4=>IR.run F60.b7 C N (fnO F60.res K0) (IR.run F60.b14 C N (fnO F60.res K0) K) (F60.fr d c f g .zh p v z f v4 (I 0) b) h2 n3:=by kernel_rfl
theorem F60.L7 (Inv:Nat->AV->AV->T Blk->Pa->Prop) {m:Nat} (hm:m<N) (hi:Inv m e a h nx)
  (step:∀ (m:Nat) (z4 z5 zA zC:AV) (h:T Blk) (nx:Pa) (R:Ks Prop),Inv m z4 zA h nx->(∀ (m':Nat) (w4 w5 wA wB:AV) (h':T Blk) (nx':Pa),m'<m->Inv m' w4 wA h' nx'->R (F60.fr d c f g w4 w5 v z H L wA wB) h' nx'=.ok True) ->
   (zf .lss .int zA L fun v1=>zQ v1 (zO 2 H zA fun v2=>zK 2 v2 h fun v3=>yG [.zh,(.bool false)] h nx fun v4 h5 n6=>zN 2 v4 v3 h5 n6 fun v7 h8 n9=>zK 2 v4 h8 fun vA=>yE 2 1 [.zh,(.bool false)] [(0,2,vA)] h8 n9 fun vS hF nG=>p8 C 2 32 z4 vS hF nG fun vT hU nU=>zf .add .int zA (I 1) fun vV=>R (F60.fr d c f g vT v4 v z H L vV v1) hU nU) (K (F60.fr d c f g z4 z5 v z H L zA v1) h nx))=.ok True) :
  IR.run F60.b7 C N (fnO F60.res K0) K (F60.fr d c f g e p v z H L a b) h nx=.ok True:=by
 rw [F60.b7,F60.zew,F60.b8];refine yB (fun m tm h nx=>∃ z4 z5 zA zC,tm=(F60.fr d c f g z4 z5 v z H L zA zC)/\Inv m z4 zA h nx) ?_ hm ⟨_,_,_,_,rfl,hi⟩;rintro m tm h nx R ⟨z4,z5,zA,zC,rfl,hi⟩ hR;refine Eq.trans ?_ (step m z4 z5 zA zC h nx R hi fun m' w4 w5 wA wB h' nx' hlt hi'=>hR m' _ h' nx' hlt ⟨_,_,_,_,rfl,hi'⟩)
 kernel_rfl
theorem F60.k14:IR.run F60.b14 C N (fnO F60.res K0) K (F60.fr d c f g e p v z H L a b) h nx =
 K0 e h nx:=by kernel_rfl
theorem F43.sS (X3:IR) (O:gu Prop) (t:T AV):IR.run (F43.g2 X3) C N O K t h nx=IR.run X3 C N (O.blk 0 K) K t h nx:=by kernel_rfl
theorem F43.tab:T.get none (.of 43) tbl=some F43:=by kernel_rfl
theorem F43.go:zM tbl N C (.of 43) [a0] h nx K0 =
 fC a0 h nx fun v1 h2 n3=>zJ 0 v1 fun v4=>zB v4 h2 fun v5=>zJ 1 v1 fun v6=>zB v6 h2 fun v7=>sLen v7 fun v8=>zf .gtr .int v8 (I 32) fun v9=>yE 1 1 [(I 0)] [(0,1,v5)] h2 n3 fun vA hA nA=>(zf .gtr .int v8 (I 32) fun vC=>zS vC v9 ((sLen v7 fun vD=>zS vD v8 ((zB v6 hA fun vE=>zS vE v7 ((zJ 1 v1 fun vF=>zS vF v6 (C.fn 70 (.of 70) [(I 1),(I 16),vA] hA nA fun vG hB nB=>(zf .gtr .int v8 (I 32) fun vH=>zS vH v9 ((sLen v7 fun vI=>zS vI v8 ((zB v6 hB fun vJ=>zS vJ v7 ((zJ 1 v1 fun vK=>zS vK v6 (C.fn 44 (.of 44) [v9,(I 5)] hB nB fun vL hC nC=>yE 1 2 [(I 0)] [(0,1,vG),(1,1,vL)] hC nC fun vM hD nD=>C.fn 42 (.of 42) [vM] hD nD fun vN hE nE=>zf .neq .int vN (I 0) fun vO=>zQ vO (K0 vN hE nE) (zJ 1 v1 fun vP=>zB vP hE fun vQ=>sLen vQ fun vR=>IR.run F43.b2 C N (fnO F43.res K0) (IR.run F43.b10 C N (fnO F43.res K0) (xu F43.res K0)) (F43.fr a0 v1 (I 0) vN .undef .undef .undef .undef vO vQ vR (I 0) .undef .undef) hE nE))))))))))))))))):=by
 rw [zG F43.tab];kernel_rfl
theorem F43.L2 (Inv:Nat->AV->T Blk->Pa->Prop) {m:Nat} (hm:m<N) (hi:Inv m b h nx)
  (step:∀ (m:Nat) (z2 z4 z5 z6 z7 zC zD zE:AV) (h:T Blk) (nx:Pa) (R:Ks Prop),Inv m zC h nx->(∀ (m':Nat) (w2 w4 w5 w6 w7 wB wC wD:AV) (h':T Blk) (nx':Pa),m'<m->Inv m' wB h' nx'->R (F43.fr d c w2 g w4 w5 w6 w7 H L a wB wC wD) h' nx'=.ok True) ->
   (zf .lss .int zC a fun v1=>zQ v1 (zO 2 L zC fun v2=>zK 2 v2 h fun v3=>yG [(I 0),(I 0)] h nx fun v4 h5 n6=>zN 2 v4 v3 h5 n6 fun v7 h8 n9=>yR 1 2 v4 (I 0) fun vA=>zB vA h8 fun vS=>zf .geq .int vS (I 0) fun vZ=>sG vZ true (fun k=>yR 1 2 v4 (I 0) k) fun vG=>sG vZ true (fun k=>zB vG h8 k) fun vT=>sG vZ true (fun k=>zJ 0 c k) fun vU=>sG vZ true (fun k=>zB vU h8 k) fun vL=>sG vZ true (fun k=>zf .lss .int vT vL k) fun vV=>jN vZ vV (.bool false) fun vW=>sG vW true (fun k=>yR 1 2 v4 (I 1) k) fun vM=>sG vW true (fun k=>zB vM h8 k) fun vX=>sG vW true (fun k=>zf .geq .int vX (I 0) k) fun vY=>jN vW vY (.bool false) fun vN=>sG vN true (fun k=>yR 1 2 v4 (I 1) k) fun v23=>sG vN true (fun k=>zB v23 h8 k) fun v24=>sG vN true (fun k=>zJ 0 c k) fun vO=>sG vN true (fun k=>zB vO h8 k) fun vP=>sG vN true (fun k=>zf .lss .int v24 vP k) fun vQ=>jN vN vQ (.bool false) fun vR=>(IR.run F43.b8 C N (((fnO F43.res K0).blk 0 K).blk 1 (IR.run F43.b9 C N ((fnO F43.res K0).blk 0 K) R)) (IR.run F43.b9 C N ((fnO F43.res K0).blk 0 K) R)) (F43.fr d c z2 g zC v4 vR z7 H L a zC v1 zE) h8 n9) (K (F43.fr d c z2 g z4 z5 z6 z7 H L a zC v1 zE) h nx))=.ok True) :
  IR.run F43.b2 C N (fnO F43.res K0) K (F43.fr d c f g e p v z H L a b l i) h nx=.ok True:=by
 rw [F43.b2,F43.sS,F43.b3];refine yB (fun m tm h nx=>∃ z2 z4 z5 z6 z7 zC zD zE,tm=(F43.fr d c z2 g z4 z5 z6 z7 H L a zC zD zE)/\Inv m zC h nx) ?_ hm ⟨_,_,_,_,_,_,_,_,rfl,hi⟩;rintro m tm h nx R ⟨z2,z4,z5,z6,z7,zC,zD,zE,rfl,hi⟩ hR;refine Eq.trans ?_ (step m z2 z4 z5 z6 z7 zC zD zE h nx R hi fun m' w2 w4 w5 w6 w7 wB wC wD h' nx' hlt hi'=>hR m' _ h' nx' hlt ⟨_,_,_,_,_,_,_,_,rfl,hi'⟩)
 kernel_rfl
theorem F43.k10:IR.run F43.b10 C N (fnO F43.res K0) K (F43.fr d c f g e p v z H L a b l i) h nx =
 K0 (I 0) h nx:=by kernel_rfl
theorem F43.k9 {E0:Ks Prop}:IR.run F43.b9 C N ((fnO F43.res K0).blk 0 E0) K (F43.fr d c f g e p v z H L a b l i) h nx =
 zf .add .int b (I 1) fun v1=>K (F43.fr d c f g e p v z H L a v1 l i) h nx:=by kernel_rfl
theorem F43.k8 {E0 E1:Ks Prop}:IR.run F43.b8 C N (((fnO F43.res K0).blk 0 E0).blk 1 E1) K (F43.fr d c f g e p v z H L a b l i) h nx =
 sNot v fun v1=>yR 1 2 p (I 0) fun v2=>zB v2 h fun v3=>yR 1 2 p (I 1) fun v4=>zB v4 h fun v5=>zf .geq .int v3 v5 fun v6=>zJ 1 c fun v7=>zB v7 h fun v8=>kZ 2 v8 none (some e) none fun v9=>zK 2 p h fun vA=>C.fn 44 (.of 44) [v1,(I 10)] h nx fun vS hF nG=>(zK 2 p hF fun v42=>zS v42 vA ((kZ 2 v8 none (some e) none fun v41=>zS v41 v9 (zS e e ((zB v7 hF fun v40=>zS v40 v8 ((zJ 1 c fun v39=>zS v39 v7 ((zf .geq .int v3 v5 fun v38=>zS v38 v6 ((zB v4 hF fun v37=>zS v37 v5 ((yR 1 2 p (I 1) fun vC=>zS vC v4 ((zB v2 hF fun vD=>zS vD v3 ((yR 1 2 p (I 0) fun vE=>zS vE v2 (C.fn 44 (.of 44) [v6,(I 11)] hF nG fun vT hU nU=>(zK 2 p hU fun vF=>zS vF vA ((kZ 2 v8 none (some e) none fun vH=>zS vH v9 (zS e e ((zB v7 hU fun vI=>zS vI v8 ((zJ 1 c fun vJ=>zS vJ v7 (C.fn 100 (.of 100) [v9,vA] hU nU fun vV hN nO=>C.fn 44 (.of 44) [vV,(I 9)] hN nO fun vX hO nP=>yE 1 3 [(I 0)] [(0,1,vS),(1,1,vT),(2,1,vX)] hO nP fun v23 hP nQ=>C.fn 42 (.of 42) [v23] hP nQ fun vP hM nN=>zf .neq .int vP (I 0) fun vK=>zQ vK (K0 vP hM nN) (K (F43.fr d c f g e p v vP H L a b l vK) hM nN))))))))))))))))))))))))))))):=by kernel_rfl
theorem F36.zuo (X12:IR) (O:gu Prop) (t:T AV):IR.run (F36.g11 X12) C N O K t h nx=IR.run X12 C N (O.blk 2 K) K t h nx:=by kernel_rfl
theorem F36.zww (X4:IR) (O:gu Prop) (t:T AV):IR.run (F36.g3 X4) C N O K t h nx=IR.run X4 C N (O.blk 0 K) K t h nx:=by kernel_rfl
theorem F36.tab:T.get none (.of 36) tbl=some F36:=by kernel_rfl
theorem F36.go:zM tbl N C (.of 36) [a0] h nx K0 =
 fC a0 h nx fun v1 h2 n3=>zJ 0 v1 fun v4=>zB v4 h2 fun v5=>zf .lss .int v5 (I 1) fun v6=>sG v6 false (fun k=>zJ 0 v1 k) fun v7=>sG v6 false (fun k=>zB v7 h2 k) fun v8=>sG v6 false (fun k=>zf .gtr .int v8 (I 16) k) fun v9=>jN v6 (.bool true) v9 fun vA=>zQ vA (K0 (I 3) h2 n3) (zJ 1 v1 fun vS=>zB vS h2 fun vZ=>sLen vZ fun vG=>zf .gtr .int vG (I 32) fun vT=>zQ vT (K0 (I 5) h2 n3) (IR.run F36.b3 C N (fnO F36.res K0) (IR.run F36.b19 C N (fnO F36.res K0) (xu F36.res K0)) (F36.fr a0 v1 (I 0) (I 0) .undef .undef vA vT .undef .undef .undef .undef .undef) h2 n3)):=by
 rw [zG F36.tab];kernel_rfl
theorem F36.L3 (Inv:Nat->AV->T Blk->Pa->Prop) {m:Nat} (hm:m<N) (hi:Inv m g h nx)
  (step:∀ (m:Nat) (z2 z3 z4 z5 z8 z9 zA zC zD:AV) (h:T Blk) (nx:Pa) (R:Ks Prop),Inv m z3 h nx->(∀ (m':Nat) (w2 w3 w4 w5 w8 w9 wA wB wC:AV) (h':T Blk) (nx':Pa),m'<m->Inv m' w3 h' nx'->R (F36.fr d c w2 w3 w4 w5 v z w8 w9 wA wB wC) h' nx'=.ok True) ->
   (zJ 1 c fun v1=>zB v1 h fun v2=>sLen v2 fun v3=>zf .lss .int z3 v3 fun v4=>zQ v4 (zJ 1 c fun v5=>zB v5 h fun v6=>zO 2 v6 z3 fun v7=>zK 2 v7 h fun v8=>yG [(I 0),(I 0)] h nx fun v9 hT nT=>zN 2 v9 v8 hT nT fun vZ hI nJ=>yR 1 2 v9 (I 0) fun vU=>zB vU hI fun vL=>zf .lss .int vL (I 0) fun vV=>sG vV false (fun k=>yR 1 2 v9 (I 0) k) fun vW=>sG vV false (fun k=>zB vW hI k) fun vM=>sG vV false (fun k=>zJ 0 c k) fun vX=>sG vV false (fun k=>zB vX hI k) fun vY=>sG vV false (fun k=>zf .geq .int vM vY k) fun vN=>jN vV (.bool true) vN fun v23=>sG v23 false (fun k=>yR 1 2 v9 (I 1) k) fun v24=>sG v23 false (fun k=>zB v24 hI k) fun vO=>sG v23 false (fun k=>zf .lss .int vO (I 0) k) fun vP=>jN v23 (.bool true) vP fun vQ=>sG vQ false (fun k=>yR 1 2 v9 (I 1) k) fun vR=>sG vQ false (fun k=>zB vR hI k) fun vK=>sG vQ false (fun k=>zJ 0 c k) fun vJ=>sG vQ false (fun k=>zB vJ hI k) fun vI=>sG vQ false (fun k=>zf .geq .int vK vI k) fun vH=>jN vQ (.bool true) vH fun vF=>zQ vF (K0 (I 10) hI nJ) ((IR.run F36.b9 C N (((fnO F36.res K0).blk 0 K).blk 1 (IR.run F36.b18 C N ((fnO F36.res K0).blk 0 K) R)) (IR.run F36.b18 C N ((fnO F36.res K0).blk 0 K) R)) (F36.fr d c z2 z3 v9 z5 v z v4 vF zA zC zD) hI nJ)) (K (F36.fr d c z2 z3 z4 z5 v z v4 z9 zA zC zD) h nx))=.ok True) :
  IR.run F36.b3 C N (fnO F36.res K0) K (F36.fr d c f g e p v z H L a b l) h nx=.ok True:=by
 rw [F36.b3,F36.zww,F36.b4];refine yB (fun m tm h nx=>∃ z2 z3 z4 z5 z8 z9 zA zC zD,tm=(F36.fr d c z2 z3 z4 z5 v z z8 z9 zA zC zD)/\Inv m z3 h nx) ?_ hm ⟨_,_,_,_,_,_,_,_,_,rfl,hi⟩;rintro m tm h nx R ⟨z2,z3,z4,z5,z8,z9,zA,zC,zD,rfl,hi⟩ hR;refine Eq.trans ?_ (step m z2 z3 z4 z5 z8 z9 zA zC zD h nx R hi fun m' w2 w3 w4 w5 w8 w9 wA wB wC h' nx' hlt hi'=>hR m' _ h' nx' hlt ⟨_,_,_,_,_,_,_,_,_,rfl,hi'⟩)
 kernel_rfl
theorem F36.k19:IR.run F36.b19 C N (fnO F36.res K0) K (F36.fr d c f g e p v z H L a b l) h nx =
 K0 (I 0) h nx:=by kernel_rfl
theorem F36.k18 {E0:Ks Prop}:IR.run F36.b18 C N ((fnO F36.res K0).blk 0 E0) K (F36.fr d c f g e p v z H L a b l) h nx =
 zf .add .int g (I 1) fun v1=>K (F36.fr d c f v1 e p v z H L a b l) h nx:=by kernel_rfl
theorem F36.k9 {E0 E1:Ks Prop}:IR.run F36.b9 C N (((fnO F36.res K0).blk 0 E0).blk 1 E1) K (F36.fr d c f g e p v z H L a b l) h nx =
 yR 1 2 e (I 0) fun v1=>zB v1 h fun v2=>yR 1 2 e (I 1) fun v3=>zB v3 h fun v4=>zf .geq .int v2 v4 fun v5=>zQ v5 (K0 (I 11) h nx) (IR.run F36.b11 C N (((fnO F36.res K0).blk 0 E0).blk 1 E1) K (F36.fr d c f g e (I 0) v z H L v5 b l) h nx):=by kernel_rfl
theorem F36.L11 {E0 E1:Ks Prop} (Inv:Nat->AV->T Blk->Pa->Prop) {m:Nat} (hm:m<N) (hi:Inv m p h nx)
  (step:∀ (m:Nat) (z2 z5 zC zD:AV) (h:T Blk) (nx:Pa) (R:Ks Prop),Inv m z5 h nx->(∀ (m':Nat) (w2 w5 wB wC:AV) (h':T Blk) (nx':Pa),m'<m->Inv m' w5 h' nx'->R (F36.fr d c w2 g e w5 v z H L a wB wC) h' nx'=.ok True) ->
   (zf .lss .int z5 g fun v1=>zQ v1 (zJ 1 c fun v2=>zB v2 h fun v3=>zO 2 v3 z5 fun v4=>zK 2 v4 h fun v5=>zK 2 e h fun v6=>zf .eql (.agg 2) v5 v6 fun v7=>zQ v7 (K0 (I 9) h nx) (zf .add .int z5 (I 1) fun v8=>R (F36.fr d c z2 g e v8 v z H L a v1 v7) h nx)) (K (F36.fr d c z2 g e z5 v z H L a v1 zD) h nx))=.ok True) :
  IR.run F36.b11 C N (((fnO F36.res K0).blk 0 E0).blk 1 E1) K (F36.fr d c f g e p v z H L a b l) h nx=.ok True:=by
 rw [F36.b11,F36.zuo,F36.b12];refine yB (fun m tm h nx=>∃ z2 z5 zC zD,tm=(F36.fr d c z2 g e z5 v z H L a zC zD)/\Inv m z5 h nx) ?_ hm ⟨_,_,_,_,rfl,hi⟩;rintro m tm h nx R ⟨z2,z5,zC,zD,rfl,hi⟩ hR;refine Eq.trans ?_ (step m z2 z5 zC zD h nx R hi fun m' w2 w5 wB wC h' nx' hlt hi'=>hR m' _ h' nx' hlt ⟨_,_,_,_,rfl,hi'⟩)
 kernel_rfl
theorem oG.tab:T.get none (.of 100) tbl=some oG:=by kernel_rfl
theorem oG.go:zM tbl N C (.of 100) [a0,a1] h nx K0 =
 fC a1 h nx fun v1 h2 n3=>zK 2 v1 h2 fun v4=>C.fn 167 (.of 167) [a0,v4] h2 n3 fun v5 h6 n7=>zf .geq .int v5 (I 0) fun v8=>K0 v8 h6 n7:=by
 rw [zG oG.tab];kernel_rfl
theorem uz.uf (X2:IR) (O:gu Prop) (t:T AV):IR.run (uz.g1 X2) C N O K t h nx=IR.run X2 C N (O.blk 0 K) K t h nx:=by kernel_rfl
theorem uz.tab:T.get none (.of 167) tbl=some uz:=by kernel_rfl
theorem uz.go:zM tbl N C (.of 167) [a0,a1] h nx K0 =
 fC a1 h nx fun v1 h2 n3=>sLen a0 fun v4=>IR.run uz.b1 C N (fnO uz.res K0) (IR.run uz.b8 C N (fnO uz.res K0) (xu uz.res K0)) (uz.fr a0 a1 v1 (I 0) .undef v4 (I 0) .undef .undef) h2 n3:=by
 rw [zG uz.tab];kernel_rfl
theorem uz.L1 (Inv:Nat->AV->T Blk->Pa->Prop) {m:Nat} (hm:m<N) (hi:Inv m v h nx)
  (step:∀ (m:Nat) (z3 z4 z6 z7 z8:AV) (h:T Blk) (nx:Pa) (R:Ks Prop),Inv m z6 h nx->(∀ (m':Nat) (w3 w4 w6 w7 w8:AV) (h':T Blk) (nx':Pa),m'<m->Inv m' w6 h' nx'->R (uz.fr d c f w3 w4 p w6 w7 w8) h' nx'=.ok True) ->
   (zf .lss .int z6 p fun v1=>zQ v1 (zK 2 f h fun v2=>zO 2 d z6 fun v3=>zK 2 v3 h fun v4=>zf .eql (.agg 2) v2 v4 fun v5=>zQ v5 (K0 z6 h nx) (zf .add .int z6 (I 1) fun v6=>R (uz.fr d c f z3 z6 p v6 v1 v5) h nx)) (K (uz.fr d c f z3 z4 p z6 v1 z8) h nx))=.ok True) :
  IR.run uz.b1 C N (fnO uz.res K0) K (uz.fr d c f g e p v z H) h nx=.ok True:=by
 rw [uz.b1,uz.uf,uz.b2];refine yB (fun m tm h nx=>∃ z3 z4 z6 z7 z8,tm=(uz.fr d c f z3 z4 p z6 z7 z8)/\Inv m z6 h nx) ?_ hm ⟨_,_,_,_,_,rfl,hi⟩;rintro m tm h nx R ⟨z3,z4,z6,z7,z8,rfl,hi⟩ hR;refine Eq.trans ?_ (step m z3 z4 z6 z7 z8 h nx R hi fun m' w3 w4 w6 w7 w8 h' nx' hlt hi'=>hR m' _ h' nx' hlt ⟨_,_,_,_,_,rfl,hi'⟩)
 kernel_rfl
theorem uz.k8:IR.run uz.b8 C N (fnO uz.res K0) K (uz.fr d c f g e p v z H) h nx =
 K0 (I (-1)) h nx:=by kernel_rfl
theorem F9.tab:T.get none (.of 9) tbl=some F9:=by kernel_rfl
theorem F9.go:zM tbl N C (.of 9) [a0] h nx K0 =
 fC a0 h nx fun v1 h2 n3=>zK 2 v1 h2 fun v4=>C.fn 11 (.of 11) [v4] h2 n3 fun v5 h6 n7=>fA 0 v5 fun v8=>fA 1 v5 fun v9=>C.fn 41 (.of 41) [v8,v9] h6 n7 fun vA hA nA=>fA 0 vA fun vG=>fA 1 vA fun vT=>K0 (.tup [vG,vT]) hA nA:=by
 rw [zG F9.tab];kernel_rfl
theorem F10.tab:T.get none (.of 10) tbl=some F10:=by kernel_rfl
theorem F10.go:zM tbl N C (.of 10) [a0] h nx K0 =
 fC a0 h nx fun v1 h2 n3=>zK 2 v1 h2 fun v4=>C.fn 12 (.of 12) [v4] h2 n3 fun v5 h6 n7=>fA 0 v5 fun v8=>fA 1 v5 fun v9=>C.fn 41 (.of 41) [v8,v9] h6 n7 fun vA hA nA=>fA 0 vA fun vG=>fA 1 vA fun vT=>K0 (.tup [vG,vT]) hA nA:=by
 rw [zG F10.tab];kernel_rfl
theorem F41.tab:T.get none (.of 41) tbl=some F41:=by kernel_rfl
theorem F41.go:zM tbl N C (.of 41) [a0,a1] h nx K0 =
 fC a0 h nx fun v1 h2 n3=>zf .neq .int a1 (I 0) fun v4=>zQ v4 (K0 (.tup [.zh,a1]) h2 n3) (zK 2 v1 h2 fun v5=>C.fn 99 (.of 99) [v5] h2 n3 fun v6 h7 n8=>fA 0 v6 fun v9=>fA 1 v6 fun vA=>K0 (.tup [v9,vA]) h7 n8):=by
 rw [zG F41.tab];kernel_rfl
theorem ku.uf (X2:IR) (O:gu Prop) (t:T AV):IR.run (ku.g1 X2) C N O K t h nx=IR.run X2 C N (O.blk 0 K) K t h nx:=by kernel_rfl
theorem ku.tab:T.get none (.of 107) tbl=some ku:=by kernel_rfl
theorem ku.go:zM tbl N C (.of 107) [a0] h nx K0 =
 fC a0 h nx fun v1 h2 n3=>zJ 0 v1 fun v4=>zB v4 h2 fun v5=>gU 1 24 [.zh] v5 v5 h2 n3 fun v6 h7 n8=>zJ 1 v1 fun v9=>zB v9 h7 fun vA=>sLen vA fun vS=>IR.run ku.b1 C N (fnO ku.res K0) (IR.run ku.b8 C N (fnO ku.res K0) (xu ku.res K0)) (ku.fr a0 v1 .zh v6 .undef .undef vA vS (I 0) .undef) h7 n8:=by
 rw [zG ku.tab];kernel_rfl
theorem ku.L1 (Inv:Nat->AV->T Blk->Pa->Prop) {m:Nat} (hm:m<N) (hi:Inv m H h nx)
  (step:∀ (m:Nat) (z4 z5 z8 z9:AV) (h:T Blk) (nx:Pa) (R:Ks Prop),Inv m z8 h nx->(∀ (m':Nat) (w4 w5 w8 w9:AV) (h':T Blk) (nx':Pa),m'<m->Inv m' w8 h' nx'->R (ku.fr d c f g w4 w5 v z w8 w9) h' nx'=.ok True) ->
   (zf .lss .int z8 z fun v1=>zQ v1 (zO 1 v z8 fun v2=>zB v2 h fun v3=>sLen v3 fun v4=>zf .sub .int v4 (I 1) fun v5=>zO 1 v3 v5 fun v6=>zB v6 h fun v7=>zO 1 g v7 fun v8=>zB v8 h fun v9=>yE 1 1 [.zh] [(0,1,v3)] h nx fun vA hA nA=>ny 1 24 v9 vA hA nA fun vG hB nB=>zO 1 g v7 fun vL=>zN 1 vL vG hB nB fun vV hN nO=>zf .add .int z8 (I 1) fun vX=>R (ku.fr d c f g v3 v7 v z vX v1) hN nO) (K (ku.fr d c f g z4 z5 v z z8 v1) h nx))=.ok True) :
  IR.run ku.b1 C N (fnO ku.res K0) K (ku.fr d c f g e p v z H L) h nx=.ok True:=by
 rw [ku.b1,ku.uf,ku.b2];refine yB (fun m tm h nx=>∃ z4 z5 z8 z9,tm=(ku.fr d c f g z4 z5 v z z8 z9)/\Inv m z8 h nx) ?_ hm ⟨_,_,_,_,rfl,hi⟩;rintro m tm h nx R ⟨z4,z5,z8,z9,rfl,hi⟩ hR;refine Eq.trans ?_ (step m z4 z5 z8 z9 h nx R hi fun m' w4 w5 w8 w9 h' nx' hlt hi'=>hR m' _ h' nx' hlt ⟨_,_,_,_,rfl,hi'⟩)
 kernel_rfl
theorem ku.k8:IR.run ku.b8 C N (fnO ku.res K0) K (ku.fr d c f g e p v z H L) h nx =
 K0 g h nx:=by kernel_rfl
theorem F47.tab:T.get none (.of 47) tbl=some F47:=by kernel_rfl
theorem F47.go:zM tbl N C (.of 47) [a0,a1] h nx K0 =
 fC a0 h nx fun v1 h2 n3=>fC a1 h2 n3 fun v4 h5 n6=>K0 (.fn 106 (.of 106) [v1,v4]) h5 n6:=by
 rw [zG F47.tab];kernel_rfl
theorem oH.tab:T.get none (.of 106) tbl=some oH:=by kernel_rfl
theorem oH.go:zM tbl N C (.of 106) [a0,a1,a2] h nx K0 =
 fC a0 h nx fun v1 h2 n3=>zJ 0 a1 fun v4=>zB v4 h2 fun v5=>gU 1 8 [(I 0)] v5 v5 h2 n3 fun v6 h7 n8=>yG [.zh] h7 n8 fun v9 hT nT=>zN 1 v9 v6 hT nT fun vZ hI nJ=>zK 2 a1 hI fun vU=>C.fn 107 (.of 107) [vU] hI nJ fun vL hC nC=>yG [.zh] hC nC fun vM hD nD=>zN 1 vM vL hD nD fun vN hE nE=>yG [(.int .u64 0)] hE nE fun vO hG nH=>yG [.rY] hG nH fun vR hH nI=>zN 1 vR (.fn 108 (.of 108) [a1,v1,v9,vO,vM,a2,vR]) hH nI fun vI h32 n33=>zB vR h32 fun vE=>vB C vE [(I 0)] h32 n33 fun vD h36 n37=>K0 (.tup []) h36 n37:=by
 rw [zG oH.tab];kernel_rfl
theorem zn.zup (X16:IR) (O:gu Prop) (t:T AV):IR.run (zn.g15 X16) C N O K t h nx=IR.run X16 C N (O.blk 4 K) K t h nx:=by kernel_rfl
theorem zn.zwx (X10:IR) (O:gu Prop) (t:T AV):IR.run (zn.g9 X10) C N O K t h nx=IR.run X10 C N (O.blk 2 K) K t h nx:=by kernel_rfl
theorem zn.sS (X3:IR) (O:gu Prop) (t:T AV):IR.run (zn.g2 X3) C N O K t h nx=IR.run X3 C N (O.blk 0 K) K t h nx:=by kernel_rfl
theorem zn.tab:T.get none (.of 108) tbl=some zn:=by kernel_rfl
theorem zn.go:zM tbl N C (.of 108) [a0,a1,a2,a3,a4,a5,a6,a7] h nx K0 =
 zJ 0 a1 fun v1=>zB v1 h fun v2=>zf .eql .int a0 v2 fun v3=>zQ v3 (zB a2 h fun v4=>zB a3 h fun v5=>vB C v4 [v5] h nx fun v6 h7 n8=>K0 v6 h7 n8) (IR.run zn.b2 C N (fnO zn.res K0) (IR.run zn.b26 C N (fnO zn.res K0) (xu zn.res K0)) (zn.fr a0 a1 a2 a3 a4 a5 a6 a7 (.bool false) (I 1) .undef .undef .undef .undef v3 .undef .undef .undef .undef .undef .undef .undef .undef .undef .undef .undef .undef) h nx):=by
 rw [zG zn.tab];kernel_rfl
theorem zn.L2 (Inv:Nat->AV->T Blk->Pa->Prop) {m:Nat} (hm:m<N) (hi:Inv m L h nx)
  (step:∀ (m:Nat) (z8 z9 zA zC zD zE zH zI zL zP zR zT zU zV zW zX zY zZ:AV) (h:T Blk) (nx:Pa) (R:Ks Prop),Inv m z9 h nx->(∀ (m':Nat) (w8 w9 wA wB wC wD wF wG wH wI wJ wK wL wM wN wO wP wQ:AV) (h':T Blk) (nx':Pa),m'<m->Inv m' w9 h' nx'->R (zn.fr d c f g e p v z w8 w9 wA wB wC wD q wF wG wH wI wJ wK wL wM wN wO wP wQ) h' nx'=.ok True) ->
   (zJ 0 c fun v1=>zB v1 h fun v2=>zf .leq .int z9 v2 fun v3=>zQ v3 (zB e h fun v4=>zf .shr .int v4 z9 fun v5=>zf .and .int v5 (.int .u64 1) fun v6=>zf .eql .int v6 (.int .u64 1) fun v7=>zQ v7 (zf .add .int z9 (I 1) fun v8=>R (zn.fr d c f g e p v z z8 v8 zA zC zD zE q v3 v7 zL zP zR zT zU zV zW zX zY zZ) h nx) (zB g h fun v9=>zO 1 v9 d fun vA=>zN 1 vA z9 h nx fun vS hF nG=>zB p hF fun vT=>zO 1 vT d fun vU=>zB vU hF fun vL=>sLen vL fun vV=>IR.run zn.b9 C N (((fnO zn.res K0).blk 0 K).blk 1 (IR.run zn.b25 C N ((fnO zn.res K0).blk 0 K) R)) (IR.run zn.b24 C N (((fnO zn.res K0).blk 0 K).blk 1 (IR.run zn.b25 C N ((fnO zn.res K0).blk 0 K) R)) (IR.run zn.b25 C N ((fnO zn.res K0).blk 0 K) R)) (zn.fr d c f g e p v z z8 z9 zA zC zD zE q v3 v7 vL vV (I 0) zT zU zV zW zX zY zZ) hF nG)) (K (zn.fr d c f g e p v z z8 z9 zA zC zD zE q v3 zI zL zP zR zT zU zV zW zX zY zZ) h nx))=.ok True) :
  IR.run zn.b2 C N (fnO zn.res K0) K (zn.fr d c f g e p v z H L a b l i q s u w y A D B E F G P M) h nx=.ok True:=by
 rw [zn.b2,zn.sS,zn.b3];refine yB (fun m tm h nx=>∃ z8 z9 zA zC zD zE zH zI zL zP zR zT zU zV zW zX zY zZ,tm=(zn.fr d c f g e p v z z8 z9 zA zC zD zE q zH zI zL zP zR zT zU zV zW zX zY zZ)/\Inv m z9 h nx) ?_ hm ⟨_,_,_,_,_,_,_,_,_,_,_,_,_,_,_,_,_,_,rfl,hi⟩;rintro m tm h nx R ⟨z8,z9,zA,zC,zD,zE,zH,zI,zL,zP,zR,zT,zU,zV,zW,zX,zY,zZ,rfl,hi⟩ hR;refine Eq.trans ?_ (step m z8 z9 zA zC zD zE zH zI zL zP zR zT zU zV zW zX zY zZ h nx R hi fun m' w8 w9 wA wB wC wD wF wG wH wI wJ wK wL wM wN wO wP wQ h' nx' hlt hi'=>hR m' _ h' nx' hlt ⟨_,_,_,_,_,_,_,_,_,_,_,_,_,_,_,_,_,_,rfl,hi'⟩)
 kernel_rfl
theorem zn.k26:IR.run zn.b26 C N (fnO zn.res K0) K (zn.fr d c f g e p v z H L a b l i q s u w y A D B E F G P M) h nx =
 K0 (.bool true) h nx:=by kernel_rfl
theorem zn.k25 {E0:Ks Prop}:IR.run zn.b25 C N ((fnO zn.res K0).blk 0 E0) K (zn.fr d c f g e p v z H L a b l i q s u w y A D B E F G P M) h nx =
 zf .add .int L (I 1) fun v1=>K (zn.fr d c f g e p v z H v1 a b l i q s u w y A D B E F G P M) h nx:=by kernel_rfl
theorem zn.L9 {E0 E1:Ks Prop} (Inv:Nat->AV->T Blk->Pa->Prop) {m:Nat} (hm:m<N) (hi:Inv m A h nx)
  (step:∀ (m:Nat) (zA zC zD zR zT zU zV zW zX zY:AV) (h:T Blk) (nx:Pa) (R:Ks Prop),Inv m zR h nx->(∀ (m':Nat) (wA wB wC wJ wK wL wM wN wO wP:AV) (h':T Blk) (nx':Pa),m'<m->Inv m' wJ h' nx'->R (zn.fr d c f g e p v z H L wA wB wC i q s u w y wJ wK wL wM wN wO wP M) h' nx'=.ok True) ->
   (zf .lss .int zR y fun v1=>zQ v1 (zO 1 w zR fun v2=>zB v2 h fun v3=>zB v h fun v4=>sLen v3 fun v5=>IR.run zn.b15 C N (((((fnO zn.res K0).blk 0 E0).blk 1 E1).blk 2 K).blk 3 (IR.run zn.b23 C N ((((fnO zn.res K0).blk 0 E0).blk 1 E1).blk 2 K) R)) (IR.run zn.b22 C N (((((fnO zn.res K0).blk 0 E0).blk 1 E1).blk 2 K).blk 3 (IR.run zn.b23 C N ((((fnO zn.res K0).blk 0 E0).blk 1 E1).blk 2 K) R)) (IR.run zn.b23 C N ((((fnO zn.res K0).blk 0 E0).blk 1 E1).blk 2 K) R)) (zn.fr d c f g e p v z H L v3 v4 zD i q s u w y zR v1 v3 v5 (I 0) zX zY M) h nx) (K (zn.fr d c f g e p v z H L zA zC zD i q s u w y zR v1 zU zV zW zX zY M) h nx))=.ok True) :
  IR.run zn.b9 C N (((fnO zn.res K0).blk 0 E0).blk 1 E1) K (zn.fr d c f g e p v z H L a b l i q s u w y A D B E F G P M) h nx=.ok True:=by
 rw [zn.b9,zn.zwx,zn.b10];refine yB (fun m tm h nx=>∃ zA zC zD zR zT zU zV zW zX zY,tm=(zn.fr d c f g e p v z H L zA zC zD i q s u w y zR zT zU zV zW zX zY M)/\Inv m zR h nx) ?_ hm ⟨_,_,_,_,_,_,_,_,_,_,rfl,hi⟩;rintro m tm h nx R ⟨zA,zC,zD,zR,zT,zU,zV,zW,zX,zY,rfl,hi⟩ hR;refine Eq.trans ?_ (step m zA zC zD zR zT zU zV zW zX zY h nx R hi fun m' wA wB wC wJ wK wL wM wN wO wP h' nx' hlt hi'=>hR m' _ h' nx' hlt ⟨_,_,_,_,_,_,_,_,_,_,rfl,hi'⟩)
 kernel_rfl
theorem zn.k24 {E0 E1:Ks Prop}:IR.run zn.b24 C N (((fnO zn.res K0).blk 0 E0).blk 1 E1) K (zn.fr d c f g e p v z H L a b l i q s u w y A D B E F G P M) h nx =
 zB e h fun v1=>zf .shl .int (.int .u64 1) L fun v2=>zf .or .int v1 v2 fun v3=>zN 1 e v3 h nx fun v4 h5 n6=>zB z h5 fun v7=>zf .add .int d (I 1) fun v8=>vB C v7 [v8] h5 n6 fun v9 hT nT=>zB e hT fun vZ=>zf .shl .int (.int .u64 1) L fun vG=>zf .andNot .int vZ vG fun vT=>zN 1 e vT hT nT fun vU hJ nK=>sNot v9 fun vW=>zQ vW (K0 (.bool false) hJ nK) (K (zn.fr d c f g e p v z H L a b l v9 q s u w y A D B E F G P vW) hJ nK):=by kernel_rfl
theorem zn.k23 {E0 E1 E2:Ks Prop}:IR.run zn.b23 C N ((((fnO zn.res K0).blk 0 E0).blk 1 E1).blk 2 E2) K (zn.fr d c f g e p v z H L a b l i q s u w y A D B E F G P M) h nx =
 zf .add .int A (I 1) fun v1=>K (zn.fr d c f g e p v z H L a b l i q s u w y v1 D B E F G P M) h nx:=by kernel_rfl
theorem zn.L15 {E0 E1 E2 E3:Ks Prop} (Inv:Nat->AV->AV->T Blk->Pa->Prop) {m:Nat} (hm:m<N) (hi:Inv m b F h nx)
  (step:∀ (m:Nat) (zC zD zW zX:AV) (h:T Blk) (nx:Pa) (R:Ks Prop),Inv m zC zW h nx->(∀ (m':Nat) (wB wC wN wO:AV) (h':T Blk) (nx':Pa),m'<m->Inv m' wB wN h' nx'->R (zn.fr d c f g e p v z H L a wB wC i q s u w y A D B E wN wO P M) h' nx'=.ok True) ->
   (zf .lss .int zW E fun v1=>zQ v1 (zO 1 B zW fun v2=>zB v2 h fun v3=>zB g h fun v4=>zO 1 v4 v3 fun v5=>zB v5 h fun v6=>zf .sub .int zC v6 fun v7=>zf .add .int zW (I 1) fun v8=>R (zn.fr d c f g e p v z H L a v7 v3 i q s u w y A D B E v8 v1 P M) h nx) (K (zn.fr d c f g e p v z H L a zC zD i q s u w y A D B E zW v1 P M) h nx))=.ok True) :
  IR.run zn.b15 C N (((((fnO zn.res K0).blk 0 E0).blk 1 E1).blk 2 E2).blk 3 E3) K (zn.fr d c f g e p v z H L a b l i q s u w y A D B E F G P M) h nx=.ok True:=by
 rw [zn.b15,zn.zup,zn.b16];refine yB (fun m tm h nx=>∃ zC zD zW zX,tm=(zn.fr d c f g e p v z H L a zC zD i q s u w y A D B E zW zX P M)/\Inv m zC zW h nx) ?_ hm ⟨_,_,_,_,rfl,hi⟩;rintro m tm h nx R ⟨zC,zD,zW,zX,rfl,hi⟩ hR;refine Eq.trans ?_ (step m zC zD zW zX h nx R hi fun m' wB wC wN wO h' nx' hlt hi'=>hR m' _ h' nx' hlt ⟨_,_,_,_,rfl,hi'⟩)
 kernel_rfl
theorem zn.k22 {E0 E1 E2 E3:Ks Prop}:IR.run zn.b22 C N (((((fnO zn.res K0).blk 0 E0).blk 1 E1).blk 2 E2).blk 3 E3) K (zn.fr d c f g e p v z H L a b l i q s u w y A D B E F G P M) h nx =
 zf .neq .int b (I 0) fun v1=>zQ v1 (E1 (zn.fr d c f g e p v z H L a b l i q s u w y A D B E F G v1 M) h nx) (K (zn.fr d c f g e p v z H L a b l i q s u w y A D B E F G v1 M) h nx):=by kernel_rfl
theorem F46.tab:T.get none (.of 46) tbl=some F46:=by kernel_rfl
theorem F46.go:zM tbl N C (.of 46) [a0] h nx K0 =
 fC a0 h nx fun v1 h2 n3=>zK 2 v1 h2 fun v4=>zJ 0 v1 fun v5=>zB v5 h2 fun v6=>zf .gtr .int v6 (I 9) fun v7=>C.fn 73 (.of 73) [v4] h2 n3 fun v8 h9 nF=>(zf .gtr .int v6 (I 9) fun vN=>zS vN v7 ((zB v5 h9 fun vY=>zS vY v6 ((zJ 0 v1 fun vX=>zS vX v5 (C.fn 105 (.of 105) [v7,(I 20)] h9 nF fun vS hF nG=>yE 1 2 [(I 0)] [(0,1,v8),(1,1,vS)] hF nG fun vT hU nU=>C.fn 104 (.of 104) [vT] hU nU fun vV hN nO=>K0 vV hN nO)))))):=by
 rw [zG F46.tab];kernel_rfl
theorem F13.tab:T.get none (.of 13) tbl=some F13:=by kernel_rfl
theorem F13.go:zM tbl N C (.of 13) [a0,a1] h nx K0 =
 fC a0 h nx fun v1 h2 n3=>yG [.zh] h2 n3 fun v4 h5 n6=>yG [(I 0)] h5 n6 fun v7 h8 n9=>zK 2 v1 h8 fun vA=>C.fn 46 (.of 46) [vA] h8 n9 fun vS hF nG=>zf .neq .int vS (I 0) fun vT=>zQ vT (zN 1 v4 .zh hF nG fun vU hJ nK=>zN 1 v7 vS hJ nK fun vW hK nL=>zB v4 hK fun vY=>zB v7 hK fun vN=>K0 (.tup [vY,vN]) hK nL) (yG [.zh] hF nG fun v23 hP nQ=>zK 2 v1 hP fun vP=>C.fn 47 (.of 47) [vP,a1] hP nQ fun vQ hS nS=>IR.run (.rf (.t (.of 9)) [(.of 10)] F13.b4 F13.b5) C N ((fnO F13.res K0).blk 0 (IR.run F13.b8 C N (fnO F13.res K0) (xu F13.res K0))) (IR.run F13.b8 C N (fnO F13.res K0) (xu F13.res K0)) (F13.fr a0 a1 v1 v4 v7 vS v23 .undef vT vQ .undef .undef) hS nS):=by
 rw [zG F13.tab];kernel_rfl
theorem F13.k8:IR.run F13.b8 C N (fnO F13.res K0) K (F13.fr d c f g e p v z H L a b) h nx =
 zB v h fun v1=>zN 1 g v1 h nx fun v2 h3 n4=>zN 1 e (I 0) h3 n4 fun v5 h6 n7=>zB g h6 fun v8=>zB e h6 fun v9=>K0 (.tup [v8,v9]) h6 n7:=by kernel_rfl
theorem F13.y5 {N:Nat} {C:Calls Prop} {K0:Kw Prop} {id nx:Pa} {j:Jump} {h h1:T Blk} {d c f g e p v z H L a b z0:AV} (hl:T.get .no id h=.loop .ready j (F13.fr d c f g e p v z H L a b) [.of 10] F13.b4 F13.b5) (he:h1=T.set .no (.loop .busy j (F13.fr d c f g e p v z H L a b) [.of 10] F13.b4 F13.b5) id h) :
 uQ N C id [z0] h nx K0 =
 zB v h1 fun v1=>sLen v1 fun v2=>zf .eql .int v2 (I 1024) fun v3=>zQ v3 (zN 1 g .zh h1 nx fun v4 h5 n6=>zN 1 e (I 5) h5 n6 fun v7 h8 n9=>yT id K0 .ret false .e h8 n9) (zB v h1 fun vA=>C.fn 48 (.of 48) [z0] h1 nx fun vS hF nG=>(zB v hF fun v24=>zS v24 vA (yE 1 1 [.zh] [(0,1,vS)] hF nG fun vT hU nU=>(zB v hU fun v23=>zS v23 vA (ny 1 24 vA vT hU nU fun vV hN nO=>zN 1 v vV hN nO fun vX hO nP=>yT id K0 .none true .e hO nP))))):=by
 subst he;rw [zhn hl (tm1:=(F13.fr d c f g e p v z H L z0 b)) (tm2:=(F13.fr d c f g e p v z0 H L z0 b)) (by intro k;kernel_rfl) (by intro O K h nx;kernel_rfl)];kernel_rfl
theorem yh.uf (X2:IR) (O:gu Prop) (t:T AV):IR.run (yh.g1 X2) C N O K t h nx=IR.run X2 C N (O.blk 0 K) K t h nx:=by kernel_rfl
theorem yh.tab:T.get none (.of 166) tbl=some yh:=by kernel_rfl
theorem yh.go:zM tbl N C (.of 166) [a0] h nx K0 =
 fC a0 h nx fun v1 h2 n3=>zK 2 v1 h2 fun v4=>C.fn 220 (.of 220) [v4] h2 n3 fun v5 h6 n7=>fA 0 v5 fun v8=>fA 1 v5 fun v9=>IR.run yh.b1 C N (fnO yh.res K0) (IR.run yh.b14 C N (fnO yh.res K0) (xu yh.res K0)) (yh.fr a0 v1 .zh .zh v8 v9 v8 .undef .undef .undef .undef .undef) h6 n7:=by
 rw [zG yh.tab];kernel_rfl
theorem yh.L1 (Inv:Nat->AV->AV->AV->AV->T Blk->Pa->Prop) {m:Nat} (hm:m<N) (hi:Inv m g v a b h nx)
  (step:∀ (m:Nat) (z3 z6 z7 z8 z9 zA zC:AV) (h:T Blk) (nx:Pa) (R:Ks Prop),Inv m z3 z6 zA zC h nx->(∀ (m':Nat) (w3 w6 w7 w8 w9 wA wB:AV) (h':T Blk) (nx':Pa),m'<m->Inv m' w3 w6 wA wB h' nx'->R (yh.fr d c f w3 e p w6 w7 w8 w9 wA wB) h' nx'=.ok True) ->
   (zf .leq .int z6 p fun v1=>zQ v1 (yG [(I 0)] h nx fun v2 h3 n4=>zN 1 v2 (I 0) h3 n4 fun v5 h6 n7=>zK 2 c h6 fun v8=>C.fn 47 (.of 47) [v8,z6] h6 n7 fun v9 hT nT=>IR.run (.rf (.t (.of 9)) [(.of 10)] yh.b9 yh.b10) C N ((((fnO yh.res K0).blk 0 K).blk 1 (IR.run yh.b13 C N ((fnO yh.res K0).blk 0 K) R)).blk 2 (IR.run yh.b12 C N (((fnO yh.res K0).blk 0 K).blk 1 (IR.run yh.b13 C N ((fnO yh.res K0).blk 0 K) R)) (IR.run yh.b13 C N ((fnO yh.res K0).blk 0 K) R))) (IR.run yh.b12 C N (((fnO yh.res K0).blk 0 K).blk 1 (IR.run yh.b13 C N ((fnO yh.res K0).blk 0 K) R)) (IR.run yh.b13 C N ((fnO yh.res K0).blk 0 K) R)) (yh.fr d c f z3 e p z6 v2 v1 v9 zA zC) hT nT) (K (yh.fr d c f z3 e p z6 z7 v1 z9 zA zC) h nx))=.ok True) :
  IR.run yh.b1 C N (fnO yh.res K0) K (yh.fr d c f g e p v z H L a b) h nx=.ok True:=by
 rw [yh.b1,yh.uf,yh.b2];refine yB (fun m tm h nx=>∃ z3 z6 z7 z8 z9 zA zC,tm=(yh.fr d c f z3 e p z6 z7 z8 z9 zA zC)/\Inv m z3 z6 zA zC h nx) ?_ hm ⟨_,_,_,_,_,_,_,rfl,hi⟩;rintro m tm h nx R ⟨z3,z6,z7,z8,z9,zA,zC,rfl,hi⟩ hR;refine Eq.trans ?_ (step m z3 z6 z7 z8 z9 zA zC h nx R hi fun m' w3 w6 w7 w8 w9 wA wB h' nx' hlt hi'=>hR m' _ h' nx' hlt ⟨_,_,_,_,_,_,_,rfl,hi'⟩)
 kernel_rfl
theorem yh.k14:IR.run yh.b14 C N (fnO yh.res K0) K (yh.fr d c f g e p v z H L a b) h nx =
 K0 g h nx:=by kernel_rfl
theorem yh.k13 {E0:Ks Prop}:IR.run yh.b13 C N ((fnO yh.res K0).blk 0 E0) K (yh.fr d c f g e p v z H L a b) h nx =
 zf .add .int v (I 1) fun v1=>K (yh.fr d c f g e p v1 z H L a b) h nx:=by kernel_rfl
theorem yh.k12 {E0 E1:Ks Prop}:IR.run yh.b12 C N (((fnO yh.res K0).blk 0 E0).blk 1 E1) K (yh.fr d c f g e p v z H L a b) h nx =
 zB z h fun v1=>zf .gtr .int v1 (I 0) fun v2=>zQ v2 (zB z h fun v3=>kK [(I 0),(I 0)] [(0,1,v),(1,1,v3)] fun v4=>yE 2 1 [(I 0),(I 0)] [(0,2,v4)] h nx fun v5 h6 n7=>ny 2 16 g v5 h6 n7 fun v8 h9 nF=>K (yh.fr d c f v8 e p v z H L a v2) h9 nF) (K (yh.fr d c f g e p v z H L a v2) h nx):=by kernel_rfl
theorem yh.y10 {N:Nat} {C:Calls Prop} {K0:Kw Prop} {id nx:Pa} {j:Jump} {h h1:T Blk} {d c f g e p v z H L a b z0:AV} (hl:T.get .no id h=.loop .ready j (yh.fr d c f g e p v z H L a b) [.of 10] yh.b9 yh.b10) (he:h1=T.set .no (.loop .busy j (yh.fr d c f g e p v z H L a b) [.of 10] yh.b9 yh.b10) id h) :
 uQ N C id [z0] h nx K0 =
 zB z h1 fun v1=>zf .add .int v1 (I 1) fun v2=>zN 1 z v2 h1 nx fun v3 h4 n5=>yT id K0 .none true .e h4 n5:=by
 subst he;rw [zhn hl (tm1:=(yh.fr d c f g e p v z H L z0 b)) (tm2:=(yh.fr d c f g e p v z H L z0 b)) (by intro k;kernel_rfl) (by intro O K h nx;kernel_rfl)];kernel_rfl
theorem F99.tab:T.get none (.of 99) tbl=some F99:=by kernel_rfl
theorem F99.go:zM tbl N C (.of 99) [a0] h nx K0 =
 fC a0 h nx fun v1 h2 n3=>zK 2 v1 h2 fun v4=>zJ 1 v1 fun v5=>zB v5 h2 fun v6=>sLen v6 fun v7=>zf .eql .int v7 (I 0) fun v8=>C.fn 46 (.of 46) [v4] h2 n3 fun v9 hT nT=>(zf .eql .int v7 (I 0) fun vK=>zS vK v8 ((sLen v6 fun vR=>zS vR v7 ((zB v5 hT fun vQ=>zS vQ v6 ((zJ 1 v1 fun vP=>zS vP v5 (C.fn 105 (.of 105) [v8,(I 12)] hT nT fun vZ hI nJ=>yE 1 2 [(I 0)] [(0,1,v9),(1,1,vZ)] hI nJ fun vU hJ nK=>C.fn 104 (.of 104) [vU] hJ nK fun vW hK nL=>zf .neq .int vW (I 0) fun vY=>zQ vY (K0 (.tup [.zh,vW]) hK nL) (zK 2 v1 hK fun vN=>C.fn 166 (.of 166) [vN] hK nL fun v23 hP nQ=>K0 (.tup [v23,(I 0)]) hP nQ))))))))):=by
 rw [zG F99.tab];kernel_rfl
theorem F15.uf (X2:IR) (O:gu Prop) (t:T AV):IR.run (F15.g1 X2) C N O K t h nx=IR.run X2 C N (O.blk 0 K) K t h nx:=by kernel_rfl
theorem F15.tab:T.get none (.of 15) tbl=some F15:=by kernel_rfl
theorem F15.go:zM tbl N C (.of 15) [a0,a1] h nx K0 =
 fC a0 h nx fun v1 h2 n3=>zJ 0 v1 fun v4=>zB v4 h2 fun v5=>gU 1 8 [(I 0)] v5 v5 h2 n3 fun v6 h7 n8=>IR.run F15.b1 C N (fnO F15.res K0) (IR.run F15.b8 C N (fnO F15.res K0) (xu F15.res K0)) (F15.fr a0 a1 v1 .zh v6 (I 0) .undef) h7 n8:=by
 rw [zG F15.tab];kernel_rfl
theorem F15.L1 (Inv:Nat->AV->T Blk->Pa->Prop) {m:Nat} (hm:m<N) (hi:Inv m p h nx)
  (step:∀ (m:Nat) (z5 z6:AV) (h:T Blk) (nx:Pa) (R:Ks Prop),Inv m z5 h nx->(∀ (m':Nat) (w5 w6:AV) (h':T Blk) (nx':Pa),m'<m->Inv m' w5 h' nx'->R (F15.fr d c f g e w5 w6) h' nx'=.ok True) ->
   (sLen c fun v1=>zf .lss .int z5 v1 fun v2=>zQ v2 (zJ 1 f fun v3=>zB v3 h fun v4=>zO 2 v4 z5 fun v5=>yR 1 2 v5 (I 0) fun v6=>zB v6 h fun v7=>zO 1 e v7 fun v8=>zB v8 h fun v9=>zO 1 c z5 fun vA=>zB vA h fun vS=>zf .add .int v9 vS fun vZ=>zO 1 e v7 fun vG=>zN 1 vG vZ h nx fun vT hU nU=>zJ 1 f fun vV=>zB vV hU fun vW=>zO 2 vW z5 fun vM=>yR 1 2 vM (I 1) fun vX=>zB vX hU fun vY=>zO 1 e vY fun vN=>zB vN hU fun v23=>zO 1 c z5 fun v24=>zB v24 hU fun vO=>zf .add .int v23 vO fun vP=>zO 1 e vY fun vQ=>zN 1 vQ vP hU nU fun vR hH nI=>zf .add .int z5 (I 1) fun vI=>R (F15.fr d c f g e vI v2) hH nI) (K (F15.fr d c f g e z5 v2) h nx))=.ok True) :
  IR.run F15.b1 C N (fnO F15.res K0) K (F15.fr d c f g e p v) h nx=.ok True:=by
 rw [F15.b1,F15.uf,F15.b2];refine yB (fun m tm h nx=>∃ z5 z6,tm=(F15.fr d c f g e z5 z6)/\Inv m z5 h nx) ?_ hm ⟨_,_,rfl,hi⟩;rintro m tm h nx R ⟨z5,z6,rfl,hi⟩ hR;refine Eq.trans ?_ (step m z5 z6 h nx R hi fun m' w5 w6 h' nx' hlt hi'=>hR m' _ h' nx' hlt ⟨_,_,rfl,hi'⟩)
 kernel_rfl
theorem F15.k8:IR.run F15.b8 C N (fnO F15.res K0) K (F15.fr d c f g e p v) h nx =
 K0 e h nx:=by kernel_rfl
theorem F14.tab:T.get none (.of 14) tbl=some F14:=by kernel_rfl
theorem F14.go:zM tbl N C (.of 14) [a0] h nx K0 =
 fC a0 h nx fun v1 h2 n3=>zB v1 h2 fun v4=>zB v1 h2 fun v5=>C.fn 49 (.of 49) [v4] h2 n3 fun v6 h7 n8=>(zB v1 h7 fun vR=>zS vR v5 (C.fn 50 (.of 50) [v5] h7 n8 fun v9 hT nT=>sNot v9 fun vZ=>C.fn 44 (.of 44) [vZ,(I 14)] hT nT fun vG hB nB=>yE 1 2 [(I 0)] [(0,1,v6),(1,1,vG)] hB nB fun vL hC nC=>C.fn 42 (.of 42) [vL] hC nC fun vM hD nD=>zf .neq .int vM (I 0) fun vN=>zQ vN (K0 (.tup [.zh,vM]) hD nD) (zB v1 hD fun v23=>sLen v23 fun v24=>C.fn 51 (.of 51) [v24,(.fn 52 (.of 52) [v1])] hD nD fun vO hG nH=>K0 (.tup [vO,(I 0)]) hG nH))):=by
 rw [zG F14.tab];kernel_rfl
theorem F52.tab:T.get none (.of 52) tbl=some F52:=by kernel_rfl
theorem F52.go:zM tbl N C (.of 52) [a0,a1] h nx K0 =
 zB a1 h fun v1=>sLen v1 fun v2=>zf .add .int v2 (I 1) fun v3=>zB a1 h fun v4=>zO 1 v4 a0 fun v5=>zB v5 h fun v6=>zf .sub .int v3 v6 fun v7=>K0 v7 h nx:=by
 rw [zG F52.tab];kernel_rfl
theorem F50.uf (X2:IR) (O:gu Prop) (t:T AV):IR.run (F50.g1 X2) C N O K t h nx=IR.run X2 C N (O.blk 0 K) K t h nx:=by kernel_rfl
theorem F50.tab:T.get none (.of 50) tbl=some F50:=by kernel_rfl
theorem F50.go:zM tbl N C (.of 50) [a0] h nx K0 =
 C.fn 102 (.of 102) [a0] h nx fun v1 h2 n3=>C.fn 101 (.of 101) [v1] h2 n3 fun v4 h5 n6=>sLen v4 fun v7=>IR.run F50.b1 C N (fnO F50.res K0) (IR.run F50.b8 C N (fnO F50.res K0) (xu F50.res K0)) (F50.fr a0 (.bool false) .undef .undef v4 v7 (I 0) .undef .undef) h5 n6:=by
 rw [zG F50.tab];kernel_rfl
theorem F50.L1 (Inv:Nat->AV->T Blk->Pa->Prop) {m:Nat} (hm:m<N) (hi:Inv m v h nx)
  (step:∀ (m:Nat) (z1 z2 z3 z6 z7 z8:AV) (h:T Blk) (nx:Pa) (R:Ks Prop),Inv m z6 h nx->(∀ (m':Nat) (w1 w2 w3 w6 w7 w8:AV) (h':T Blk) (nx':Pa),m'<m->Inv m' w6 h' nx'->R (F50.fr d w1 w2 w3 e p w6 w7 w8) h' nx'=.ok True) ->
   (zf .lss .int z6 p fun v1=>zQ v1 (zO 1 e z6 fun v2=>zB v2 h fun v3=>zf .add .int z6 (I 1) fun v4=>zf .neq .int v3 v4 fun v5=>zQ v5 (K0 (.bool false) h nx) (zf .add .int z6 (I 1) fun v6=>R (F50.fr d z1 z6 v3 e p v6 v1 v5) h nx)) (K (F50.fr d z1 z2 z3 e p z6 v1 z8) h nx))=.ok True) :
  IR.run F50.b1 C N (fnO F50.res K0) K (F50.fr d c f g e p v z H) h nx=.ok True:=by
 rw [F50.b1,F50.uf,F50.b2];refine yB (fun m tm h nx=>∃ z1 z2 z3 z6 z7 z8,tm=(F50.fr d z1 z2 z3 e p z6 z7 z8)/\Inv m z6 h nx) ?_ hm ⟨_,_,_,_,_,_,rfl,hi⟩;rintro m tm h nx R ⟨z1,z2,z3,z6,z7,z8,rfl,hi⟩ hR;refine Eq.trans ?_ (step m z1 z2 z3 z6 z7 z8 h nx R hi fun m' w1 w2 w3 w6 w7 w8 h' nx' hlt hi'=>hR m' _ h' nx' hlt ⟨_,_,_,_,_,_,rfl,hi'⟩)
 kernel_rfl
theorem F50.k8:IR.run F50.b8 C N (fnO F50.res K0) K (F50.fr d c f g e p v z H) h nx =
 K0 (.bool true) h nx:=by kernel_rfl
theorem oI.tab:T.get none (.of 109) tbl=some oI:=by kernel_rfl
theorem oI.go:zM tbl N C (.of 109) [a0] h nx K0 =
 C.fn 70 (.of 70) [(I (-999999999)),(I 999999999),a0] h nx fun v1 h2 n3=>K0 v1 h2 n3:=by
 rw [zG oI.tab];kernel_rfl
theorem F49.tab:T.get none (.of 49) tbl=some F49:=by kernel_rfl
theorem F49.go:zM tbl N C (.of 49) [a0] h nx K0 =
 sLen a0 fun v1=>zf .eql .int v1 (I 0) fun v2=>C.fn 44 (.of 44) [v2,(I 12)] h nx fun v3 h4 n5=>sLen a0 fun v6=>zf .gtr .int v6 (I 256) fun v7=>C.fn 44 (.of 44) [v7,(I 5)] h4 n5 fun v8 h9 nF=>C.fn 109 (.of 109) [a0] h9 nF fun vS hF nG=>yE 1 3 [(I 0)] [(0,1,v3),(1,1,v8),(2,1,vS)] hF nG fun vT hU nU=>C.fn 42 (.of 42) [vT] hU nU fun vV hN nO=>K0 vV hN nO:=by
 rw [zG F49.tab];kernel_rfl
theorem F51.uf (X2:IR) (O:gu Prop) (t:T AV):IR.run (F51.g1 X2) C N O K t h nx=IR.run X2 C N (O.blk 0 K) K t h nx:=by kernel_rfl
theorem F51.tab:T.get none (.of 51) tbl=some F51:=by kernel_rfl
theorem F51.go:zM tbl N C (.of 51) [a0,a1] h nx K0 =
 gU 1 8 [(I 0)] a0 a0 h nx fun v1 h2 n3=>sLen v1 fun v4=>IR.run F51.b1 C N (fnO F51.res K0) (IR.run F51.b8 C N (fnO F51.res K0) (xu F51.res K0)) (F51.fr a0 a1 .zh v1 .undef v4 (I 0) .undef) h2 n3:=by
 rw [zG F51.tab];kernel_rfl
theorem F51.L1 (Inv:Nat->AV->T Blk->Pa->Prop) {m:Nat} (hm:m<N) (hi:Inv m v h nx)
  (step:∀ (m:Nat) (z4 z6 z7:AV) (h:T Blk) (nx:Pa) (R:Ks Prop),Inv m z6 h nx->(∀ (m':Nat) (w4 w6 w7:AV) (h':T Blk) (nx':Pa),m'<m->Inv m' w6 h' nx'->R (F51.fr d c f g w4 p w6 w7) h' nx'=.ok True) ->
   (zf .lss .int z6 p fun v1=>zQ v1 (vB C c [z6] h nx fun v2 h3 n4=>zO 1 g z6 fun v5=>zN 1 v5 v2 h3 n4 fun v6 h7 n8=>zf .add .int z6 (I 1) fun v9=>R (F51.fr d c f g z6 p v9 v1) h7 n8) (K (F51.fr d c f g z4 p z6 v1) h nx))=.ok True) :
  IR.run F51.b1 C N (fnO F51.res K0) K (F51.fr d c f g e p v z) h nx=.ok True:=by
 rw [F51.b1,F51.uf,F51.b2];refine yB (fun m tm h nx=>∃ z4 z6 z7,tm=(F51.fr d c f g z4 p z6 z7)/\Inv m z6 h nx) ?_ hm ⟨_,_,_,rfl,hi⟩;rintro m tm h nx R ⟨z4,z6,z7,rfl,hi⟩ hR;refine Eq.trans ?_ (step m z4 z6 z7 h nx R hi fun m' w4 w6 w7 h' nx' hlt hi'=>hR m' _ h' nx' hlt ⟨_,_,_,rfl,hi'⟩)
 kernel_rfl
theorem F51.k8:IR.run F51.b8 C N (fnO F51.res K0) K (F51.fr d c f g e p v z) h nx =
 K0 g h nx:=by kernel_rfl
end Go.Ev
namespace Go.Ev
open Go Go.Proofs
set_option maxRecDepth 100000
section
variable {N:Nat} {C:Calls Prop} {K0:Kw Prop} {K:Ks Prop} {h:T Blk} {nx:Pa} {d c f g e p v z H L a b l i q s u w y A D B E F G P M x27 x28 Q U V W Z x34 x35 x36 x37 x38 x39 x40 x41 x42 x43 x44 x45 x46 x47 x48 x49 x50 x51 x52 x53 x54 x55 x56 x57 x58 a0 a1:AV} {O:gu Prop} {tm:T AV} {Kt:KTm} {r:List RO} {s0 s1 s2 s3 s4 s5 s6 s7 s8 s9 s10 s11 s12 s13 s14 s15 s16 s17 s18 s19 s20 s21 s22 s23 s24 s25 s26 s27 s28 s29 s30 s31 s32 s33 s34 s35 s36 s37 s38 s39 s40 s41 s42 s43 s44 s45 s46 s47 s48 s49 s50 s51 s52 s53 s54 s55 s56 s57 s58 s59:AV}
def F3.t0:IR:=.reg [.w (.loc (.of 2)) none (.box (.t (.of 0))),.q (.of 3) (.mv (.c (.bool false)))]
def F3.r1_2:List RO:=.p .push (some ((.s 6),false)) (.bin .gtr .int (.s 0) (.c (I 6)))::.s (.pick (.s 7) (.c (.bool true)) (.s 0))::.s (.mv (.s 0))::.p .push (some ((.s 0),false)) (.zx 1 (.t (.of 2)))::.p .push (some ((.s 1),false)) (.load (.s 0))::.p .push (some ((.s 2),false)) (.len (.s 0))::.p .push (some ((.s 3),false)) (.bin .eql .int (.s 0) (.c (I 0)))::.q (.of 29) (.pick (.s 4) (.c (.bool true)) (.s 0))::[]
def F3.r1_1:List RO:=.s (.not (.s 0))::.s (.mv (.s 0))::.p .push (some ((.s 0),false)) (.zx 0 (.t (.of 2)))::.p .push (some ((.s 1),false)) (.load (.s 0))::.p .push (some ((.s 2),false)) (.zx 1 (.t (.of 2)))::.p .push (some ((.s 3),false)) (.load (.s 0))::.p .push (some ((.s 4),false)) (.len (.s 0))::.p .push (some ((.s 5),false)) (.bin .add .int (.s 3) (.s 0))::F3.r1_2
def F3.r1_0:List RO:=.s (.zi 2 (.t (.of 2)))::.w .push none (.call (.c (.fn 7 (.of 7) [])) [(.s 0),(.c (I 5)),(.c (I 5))])::F3.r1_1
def F3.t1:IR:=.reg F3.r1_0
def F3.t2:IR:=.reg [.w .push none (.call (.c (.fn 8 (.of 8) [])) []),.q (.of 3) (.mv (.s 0))]
def F3.t3:IR:=.seq F3.t2 .ret
def F3.t4:IR:=.cond (.t (.of 29)) F3.t3 .skip
def F3.t5:IR:=.seq F3.t1 F3.t4
def F3.t6:IR:=.reg [.s (.zx 0 (.t (.of 2))),.s (.load (.s 0)),.s (.zx 1 (.t (.of 2))),.s (.load (.s 0)),.s (.len (.s 0)),.s (.bin .add .int (.s 3) (.s 0)),.q (.of 4) (.mv (.s 0))]
def F3.t7:IR:=.reg [.s (.zi 2 (.t (.of 2))),.w .push none (.call (.c (.fn 9 (.of 9) [])) [(.s 0)]),.s (.mv (.s 0)),.s (.ext 0 (.s 0)),.s (.ext 1 (.s 1)),.q (.of 5) (.mv (.s 1)),.q (.of 6) (.mv (.s 0))]
def F3.t8:IR:=.reg [.s (.zi 2 (.t (.of 2))),.w .push none (.call (.c (.fn 10 (.of 10) [])) [(.s 0)]),.s (.mv (.s 0)),.s (.ext 0 (.s 0)),.s (.ext 1 (.s 1)),.q (.of 7) (.mv (.s 1)),.q (.of 8) (.mv (.s 0))]
def F3.t9:IR:=.reg [.s (.zi 2 (.t (.of 2))),.w .push none (.call (.c (.fn 11 (.of 11) [])) [(.s 0)]),.s (.mv (.s 0)),.s (.ext 0 (.s 0)),.s (.ext 1 (.s 1)),.w (.loc (.of 9)) none (.alloc [(I 0),.zh]),.w .none none (.store 2 (.t (.of 9)) (.s 1)),.q (.of 10) (.mv (.s 0))]
def F3.t10:IR:=.reg [.s (.zi 2 (.t (.of 2))),.w .push none (.call (.c (.fn 12 (.of 12) [])) [(.s 0)]),.s (.mv (.s 0)),.s (.ext 0 (.s 0)),.s (.ext 1 (.s 1)),.w (.loc (.of 11)) none (.alloc [(I 0),.zh]),.w .none none (.store 2 (.t (.of 11)) (.s 1)),.q (.of 12) (.mv (.s 0))]
def F3.r8_2:List RO:=.p .push (some ((.s 1),false)) (.load (.s 0))::.p .push (some ((.s 2),false)) (.mv (.t (.of 4)))::.p .push (some ((.s 3),false)) (.bin .neq .int (.s 1) (.s 0))::.q (.of 30) (.pick (.s 4) (.c (.bool true)) (.s 0))::[]
def F3.r8_1:List RO:=.s (.mv (.s 0))::.p .push (some ((.s 0),false)) (.zx 0 (.t (.of 9)))::.p .push (some ((.s 1),false)) (.load (.s 0))::.p .push (some ((.s 2),false)) (.mv (.t (.of 4)))::.p .push (some ((.s 3),false)) (.bin .neq .int (.s 1) (.s 0))::.s (.pick (.s 4) (.c (.bool true)) (.s 0))::.s (.mv (.s 0))::.p .push (some ((.s 0),false)) (.zx 0 (.t (.of 11)))::F3.r8_2
def F3.r8_0:List RO:=.s (.mv (.t (.of 6)))::.s (.mv (.t (.of 8)))::.s (.bin .add .int (.s 1) (.s 0))::.s (.mv (.t (.of 10)))::.s (.bin .add .int (.s 1) (.s 0))::.s (.mv (.t (.of 12)))::.s (.bin .add .int (.s 1) (.s 0))::.s (.bin .neq .int (.s 0) (.c (I 0)))::F3.r8_1
def F3.t11:IR:=.reg F3.r8_0
def F3.t12:IR:=.reg [.q (.of 3) (.mv (.c (.bool false)))]
def F3.t13:IR:=.seq F3.t12 .ret
def F3.t14:IR:=.cond (.t (.of 30)) F3.t13 .skip
def F3.t15:IR:=.seq F3.t11 F3.t14
def F3.t16:IR:=.reg [.s (.mv (.t (.of 5))),.s (.len (.s 0)),.q (.of 31) (.bin .gtr .int (.s 0) (.c (I 0)))]
def F3.t17:IR:=.reg [.s (.mv (.t (.of 5))),.s (.mv (.t (.of 1))),.s (.conv .i64 (.s 0)),.s (.mv (.t (.of 5))),.s (.len (.s 0)),.s (.bin .rem .int (.s 2) (.s 0)),.s (.zk 2 (.s 5) (.s 0)),.s (.zi 2 (.s 0)),.w (.loc (.of 13)) none (.alloc [(I 0),(I 0)]),.w .none none (.store 2 (.t (.of 13)) (.s 0))]
def F3.t18:IR:=.reg [.s (.zi 2 (.t (.of 9))),.s (.jg 1 2 (.t (.of 13)) (.c (I 0))),.s (.load (.s 0)),.w .push none (.call (.c (.fn 13 (.of 13) [])) [(.s 2),(.s 0)]),.s (.mv (.s 0)),.s (.ext 0 (.s 0)),.s (.ext 1 (.s 1)),.q (.of 14) (.mv (.s 1)),.q (.of 15) (.mv (.s 0))]
def F3.ztk:List RO:=.q (.of 32) (.pick (.s 5) (.c (.bool true)) (.s 0))::[]
def F3.zm1:List RO:=.s (.mv (.t (.of 15)))::.s (.bin .neq .int (.s 0) (.c (I 0)))::.s (.mv (.s 0))::.p .push (some ((.s 0),false)) (.mv (.t (.of 14)))::.p .push (some ((.s 1),false)) (.len (.s 0))::.p .push (some ((.s 2),false)) (.jg 1 2 (.t (.of 13)) (.c (I 1)))::.p .push (some ((.s 3),false)) (.load (.s 0))::.p .push (some ((.s 4),false)) (.bin .neq .int (.s 2) (.s 0))::F3.ztk
def F3.t19:IR:=.reg F3.zm1
def F3.t20:IR:=.reg [.q (.of 3) (.mv (.c (.bool false)))]
def F3.t21:IR:=.seq F3.t20 .ret
def F3.t22:IR:=.cond (.t (.of 32)) F3.t21 .skip
def F3.t23:IR:=.seq F3.t19 F3.t22
def F3.t24:IR:=.reg [.q (.of 33) (.mv (.t (.of 14))),.q (.of 34) (.len (.t (.of 33))),.q (.of 35) (.mv (.c (I 0)))]
def F3.t25:IR:=.reg [.q (.of 36) (.bin .lss .int (.t (.of 35)) (.t (.of 34)))]
def F3.t26:IR:=.cond (.t (.of 36)) .skip (.exit 0)
def F3.t27:IR:=.reg [.s (.zk 1 (.t (.of 33)) (.t (.of 35))),.s (.load (.s 0)),.q (.of 16) (.mv (.s 0))]
def F3.t28:IR:=.reg [.s (.mv (.t (.of 16))),.w .push none (.call (.c (.fn 14 (.of 14) [])) [(.s 0)]),.s (.mv (.s 0)),.s (.ext 0 (.s 0)),.s (.ext 1 (.s 1)),.q (.of 17) (.mv (.s 1)),.q (.of 18) (.mv (.s 0))]
def F3.ztl:List RO:=.s (.mv (.s 0))::.p .push (some ((.s 0),false)) (.mv (.t (.of 17)))::.p .push (some ((.s 1),false)) (.len (.s 0))::.p .push (some ((.s 2),false)) (.mv (.t (.of 4)))::.p .push (some ((.s 3),false)) (.bin .neq .int (.s 1) (.s 0))::.q (.of 37) (.pick (.s 4) (.c (.bool true)) (.s 0))::[]
def F3.zm2:List RO:=.s (.mv (.t (.of 18)))::.s (.bin .neq .int (.s 0) (.c (I 0)))::.s (.mv (.s 0))::.p .push (some ((.s 0),false)) (.mv (.t (.of 16)))::.p .push (some ((.s 1),false)) (.len (.s 0))::.p .push (some ((.s 2),false)) (.mv (.t (.of 4)))::.p .push (some ((.s 3),false)) (.bin .neq .int (.s 1) (.s 0))::.s (.pick (.s 4) (.c (.bool true)) (.s 0))::F3.ztl
def F3.t29:IR:=.reg F3.zm2
def F3.t30:IR:=.reg [.q (.of 3) (.mv (.c (.bool false)))]
def F3.t31:IR:=.seq F3.t30 .ret
def F3.t32:IR:=.cond (.t (.of 37)) F3.t31 .skip
def F3.t33:IR:=.seq F3.t29 F3.t32
def F3.t34:IR:=.reg [.s (.zx 1 (.t (.of 2))),.q (.of 38) (.load (.s 0)),.q (.of 39) (.len (.t (.of 38))),.q (.of 40) (.mv (.c (I 0)))]
def F3.t35:IR:=.reg [.q (.of 41) (.bin .lss .int (.t (.of 40)) (.t (.of 39)))]
def F3.t36:IR:=.cond (.t (.of 41)) .skip (.exit 2)
def F3.t37:IR:=.reg [.s (.mv (.t (.of 40))),.s (.zk 2 (.t (.of 38)) (.t (.of 40))),.s (.zi 2 (.s 0)),.w (.loc (.of 20)) none (.alloc [(I 0),(I 0)]),.q (.of 19) (.mv (.s 2)),.w .none none (.store 2 (.t (.of 20)) (.s 0))]
def F3.ztm:List RO:=.p .push (some ((.s 25),false)) (.bin .neq .int (.s 6) (.s 0))::.q (.of 42) (.pick (.s 26) (.c (.bool true)) (.s 0))::[]
def F3.ztn:List RO:=.p .push (some ((.s 17),false)) (.load (.s 0))::.p .push (some ((.s 18),false)) (.bin .add .int (.s 7) (.s 0))::.p .push (some ((.s 19),false)) (.mv (.t (.of 4)))::.p .push (some ((.s 20),false)) (.bin .add .int (.s 0) (.c (I 1)))::.p .push (some ((.s 21),false)) (.bin .mul .int (.c (I 3)) (.s 0))::.p .push (some ((.s 22),false)) (.jg 1 2 (.t (.of 13)) (.c (I 0)))::.p .push (some ((.s 23),false)) (.load (.s 0))::.p .push (some ((.s 24),false)) (.bin .sub .int (.s 2) (.s 0))::F3.ztm
def F3.zto:List RO:=.p .push (some ((.s 9),false)) (.load (.s 0))::.p .push (some ((.s 10),false)) (.bin .add .int (.s 5) (.s 0))::.p .push (some ((.s 11),false)) (.mv (.t (.of 17)))::.p .push (some ((.s 12),false)) (.zx 0 (.t (.of 2)))::.p .push (some ((.s 13),false)) (.load (.s 0))::.p .push (some ((.s 14),false)) (.mv (.t (.of 19)))::.p .push (some ((.s 15),false)) (.bin .add .int (.s 1) (.s 0))::.p .push (some ((.s 16),false)) (.zk 1 (.s 4) (.s 0))::F3.ztn
def F3.ztp:List RO:=.p .push (some ((.s 1),false)) (.jg 1 2 (.t (.of 20)) (.c (I 0)))::.p .push (some ((.s 2),false)) (.load (.s 0))::.p .push (some ((.s 3),false)) (.zk 1 (.s 2) (.s 0))::.p .push (some ((.s 4),false)) (.load (.s 0))::.p .push (some ((.s 5),false)) (.mv (.t (.of 17)))::.p .push (some ((.s 6),false)) (.jg 1 2 (.t (.of 20)) (.c (I 1)))::.p .push (some ((.s 7),false)) (.load (.s 0))::.p .push (some ((.s 8),false)) (.zk 1 (.s 2) (.s 0))::F3.zto
def F3.ztq:List RO:=.s (.zk 1 (.s 4) (.s 0))::.s (.load (.s 0))::.s (.bin .add .int (.s 7) (.s 0))::.s (.jg 1 2 (.t (.of 13)) (.c (I 0)))::.s (.load (.s 0))::.s (.bin .neq .int (.s 2) (.s 0))::.s (.mv (.s 0))::.p .push (some ((.s 0),false)) (.mv (.t (.of 17)))::F3.ztp
def F3.ztr:List RO:=.s (.zk 1 (.s 2) (.s 0))::.s (.load (.s 0))::.s (.bin .add .int (.s 5) (.s 0))::.s (.mv (.t (.of 16)))::.s (.zx 0 (.t (.of 2)))::.s (.load (.s 0))::.s (.mv (.t (.of 19)))::.s (.bin .add .int (.s 1) (.s 0))::F3.ztq
def F3.zm3:List RO:=.s (.mv (.t (.of 16)))::.s (.jg 1 2 (.t (.of 20)) (.c (I 0)))::.s (.load (.s 0))::.s (.zk 1 (.s 2) (.s 0))::.s (.load (.s 0))::.s (.mv (.t (.of 16)))::.s (.jg 1 2 (.t (.of 20)) (.c (I 1)))::.s (.load (.s 0))::F3.ztr
def F3.t38:IR:=.yj [] (F3.zm3.map fun o=>(o,0,[]))
def F3.t39:IR:=.reg [.q (.of 3) (.mv (.c (.bool false)))]
def F3.t40:IR:=.seq F3.t39 .ret
def F3.t41:IR:=.cond (.t (.of 42)) F3.t40 .skip
def F3.t42:IR:=.seq F3.t38 F3.t41
def F3.t43:IR:=.seq F3.t37 F3.t42
def F3.t44:IR:=.block 3 F3.t43
def F3.t45:IR:=.reg [.s (.bin .add .int (.t (.of 40)) (.c (I 1))),.q (.of 40) (.mv (.s 0))]
def F3.t46:IR:=.seq F3.t44 F3.t45
def F3.t47:IR:=.seq F3.t36 F3.t46
def F3.t48:IR:=.seq F3.t35 F3.t47
def F3.t49:IR:=.loop F3.t48
def F3.t50:IR:=.block 2 F3.t49
def F3.t51:IR:=.seq F3.t34 F3.t50
def F3.t52:IR:=.seq F3.t33 F3.t51
def F3.t53:IR:=.seq F3.t28 F3.t52
def F3.t54:IR:=.seq F3.t27 F3.t53
def F3.t55:IR:=.block 1 F3.t54
def F3.t56:IR:=.reg [.s (.bin .add .int (.t (.of 35)) (.c (I 1))),.q (.of 35) (.mv (.s 0))]
def F3.t57:IR:=.seq F3.t55 F3.t56
def F3.t58:IR:=.seq F3.t26 F3.t57
def F3.t59:IR:=.seq F3.t25 F3.t58
def F3.t60:IR:=.loop F3.t59
def F3.t61:IR:=.block 0 F3.t60
def F3.t62:IR:=.seq F3.t24 F3.t61
def F3.t63:IR:=.reg [.q (.of 21) (.mv (.c (.bool false)))]
def F3.t64:IR:=.reg [.q (.of 43) (.mv (.t (.of 5))),.q (.of 44) (.len (.t (.of 43))),.q (.of 45) (.mv (.c (I 0)))]
def F3.t65:IR:=.reg [.q (.of 46) (.bin .lss .int (.t (.of 45)) (.t (.of 44)))]
def F3.t66:IR:=.cond (.t (.of 46)) .skip (.exit 4)
def F3.t67:IR:=.reg [.s (.zk 2 (.t (.of 43)) (.t (.of 45))),.s (.zi 2 (.s 0)),.w (.loc (.of 22)) none (.alloc [(I 0),(I 0)]),.w .none none (.store 2 (.t (.of 22)) (.s 0))]
def F3.zjn:List RO:=.p .push (some ((.s 4),true)) (.bin .eql .int (.s 2) (.s 0))::.p .push (some ((.s 15),false)) (.pick (.s 5) (.s 0) (.c (.bool false)))::.s (.pick (.s 16) (.c (.bool true)) (.s 0))::.q (.of 21) (.mv (.s 0))::[]
def F3.zm4:List RO:=.p .push (some ((.s 6),false)) (.load (.s 0))::.p .push (some ((.s 7),false)) (.bin .sub .int (.s 2) (.s 0))::.p .push (some ((.s 8),false)) (.bin .eql .int (.s 6) (.s 0))::.p .push (some ((.s 9),false)) (.mv (.s 0))::.p .push (some ((.s 0),true)) (.jg 1 2 (.t (.of 22)) (.c (I 1)))::.p .push (some ((.s 1),true)) (.load (.s 0))::.p .push (some ((.s 2),true)) (.jg 1 2 (.t (.of 13)) (.c (I 1)))::.p .push (some ((.s 3),true)) (.load (.s 0))::F3.zjn
def F3.zjo:List RO:=.s (.mv (.t (.of 21)))::.s (.mv (.s 0))::.p .push (some ((.s 0),false)) (.jg 1 2 (.t (.of 22)) (.c (I 0)))::.p .push (some ((.s 1),false)) (.load (.s 0))::.p .push (some ((.s 2),false)) (.mv (.t (.of 4)))::.p .push (some ((.s 3),false)) (.bin .add .int (.s 0) (.c (I 1)))::.p .push (some ((.s 4),false)) (.bin .mul .int (.c (I 3)) (.s 0))::.p .push (some ((.s 5),false)) (.jg 1 2 (.t (.of 13)) (.c (I 0)))::F3.zm4
def F3.t68:IR:=.reg F3.zjo
def F3.t69:IR:=.seq F3.t67 F3.t68
def F3.t70:IR:=.block 5 F3.t69
def F3.t71:IR:=.reg [.s (.bin .add .int (.t (.of 45)) (.c (I 1))),.q (.of 45) (.mv (.s 0))]
def F3.t72:IR:=.seq F3.t70 F3.t71
def F3.t73:IR:=.seq F3.t66 F3.t72
def F3.t74:IR:=.seq F3.t65 F3.t73
def F3.t75:IR:=.loop F3.t74
def F3.t76:IR:=.block 4 F3.t75
def F3.t77:IR:=.seq F3.t64 F3.t76
def F3.t78:IR:=.reg [.s (.mv (.t (.of 21))),.q (.of 47) (.not (.s 0))]
def F3.t79:IR:=.reg [.q (.of 3) (.mv (.c (.bool false)))]
def F3.t80:IR:=.seq F3.t79 .ret
def F3.t81:IR:=.cond (.t (.of 47)) F3.t80 .skip
def F3.t82:IR:=.seq F3.t78 F3.t81
def F3.t83:IR:=.seq F3.t77 F3.t82
def F3.t84:IR:=.seq F3.t63 F3.t83
def F3.t85:IR:=.seq F3.t62 F3.t84
def F3.t86:IR:=.seq F3.t23 F3.t85
def F3.t87:IR:=.seq F3.t18 F3.t86
def F3.t88:IR:=.seq F3.t17 F3.t87
def F3.t89:IR:=.cond (.t (.of 31)) F3.t88 .skip
def F3.t90:IR:=.seq F3.t16 F3.t89
def F3.t91:IR:=.reg [.s (.mv (.t (.of 7))),.s (.len (.s 0)),.q (.of 48) (.bin .gtr .int (.s 0) (.c (I 0)))]
def F3.t92:IR:=.reg [.s (.mv (.t (.of 7))),.s (.mv (.t (.of 1))),.s (.conv .i64 (.s 0)),.s (.mv (.t (.of 7))),.s (.len (.s 0)),.s (.bin .rem .int (.s 2) (.s 0)),.s (.zk 2 (.s 5) (.s 0)),.s (.zi 2 (.s 0)),.w (.loc (.of 23)) none (.alloc [(I 0),(I 0)]),.w .none none (.store 2 (.t (.of 23)) (.s 0))]
def F3.t93:IR:=.reg [.s (.zi 2 (.t (.of 11))),.s (.jg 1 2 (.t (.of 23)) (.c (I 0))),.s (.load (.s 0)),.w .push none (.call (.c (.fn 13 (.of 13) [])) [(.s 2),(.s 0)]),.s (.mv (.s 0)),.s (.ext 0 (.s 0)),.s (.ext 1 (.s 1)),.q (.of 24) (.mv (.s 1)),.q (.of 25) (.mv (.s 0))]
def F3.zts:List RO:=.q (.of 49) (.pick (.s 5) (.c (.bool true)) (.s 0))::[]
def F3.zm5:List RO:=.s (.mv (.t (.of 25)))::.s (.bin .neq .int (.s 0) (.c (I 0)))::.s (.mv (.s 0))::.p .push (some ((.s 0),false)) (.mv (.t (.of 24)))::.p .push (some ((.s 1),false)) (.len (.s 0))::.p .push (some ((.s 2),false)) (.jg 1 2 (.t (.of 23)) (.c (I 1)))::.p .push (some ((.s 3),false)) (.load (.s 0))::.p .push (some ((.s 4),false)) (.bin .neq .int (.s 2) (.s 0))::F3.zts
def F3.t94:IR:=.reg F3.zm5
def F3.t95:IR:=.reg [.q (.of 3) (.mv (.c (.bool false)))]
def F3.t96:IR:=.seq F3.t95 .ret
def F3.t97:IR:=.cond (.t (.of 49)) F3.t96 .skip
def F3.t98:IR:=.seq F3.t94 F3.t97
def F3.t99:IR:=.reg [.q (.of 50) (.mv (.t (.of 24))),.q (.of 51) (.len (.t (.of 50))),.q (.of 52) (.mv (.c (I 0)))]
def F3.t100:IR:=.reg [.q (.of 53) (.bin .lss .int (.t (.of 52)) (.t (.of 51)))]
def F3.t101:IR:=.cond (.t (.of 53)) .skip (.exit 6)
def F3.t102:IR:=.reg [.s (.zk 1 (.t (.of 50)) (.t (.of 52))),.s (.load (.s 0)),.q (.of 26) (.mv (.s 0))]
def F3.t103:IR:=.reg [.s (.mv (.t (.of 26))),.s (.len (.s 0)),.s (.mv (.t (.of 4))),.q (.of 54) (.bin .neq .int (.s 1) (.s 0))]
def F3.t104:IR:=.reg [.q (.of 3) (.mv (.c (.bool false)))]
def F3.t105:IR:=.seq F3.t104 .ret
def F3.t106:IR:=.cond (.t (.of 54)) F3.t105 .skip
def F3.t107:IR:=.seq F3.t103 F3.t106
def F3.t108:IR:=.yj [] [(.s (.zi 2 (.t (.of 2))),0,[]),(.s (.mv (.t (.of 26))),0,[]),(.s (.zx 0 (.t (.of 2))),0,[]),(.s (.load (.s 0)),0,[]),(.s (.slice 1 (.s 2) (some (.s 0)) none none),0,[]),(.w .push none (.call (.c (.fn 15 (.of 15) [])) [(.s 4),(.s 0)]),0,[]),(.q (.of 27) (.mv (.s 0)),0,[])]
def F3.t109:IR:=.reg [.s (.zx 0 (.t (.of 2))),.q (.of 55) (.load (.s 0)),.q (.of 56) (.mv (.c (I 0)))]
def F3.t110:IR:=.reg [.q (.of 57) (.bin .lss .int (.t (.of 56)) (.t (.of 55)))]
def F3.t111:IR:=.cond (.t (.of 57)) .skip (.exit 8)
def F3.t112:IR:=.reg [.s (.mv (.t (.of 56))),.q (.of 28) (.mv (.s 0))]
def F3.t113:IR:=.yj [] [(.s (.mv (.t (.of 26))),0,[]),(.s (.mv (.t (.of 28))),0,[]),(.s (.zk 1 (.s 1) (.s 0)),0,[]),(.s (.load (.s 0)),0,[]),(.s (.mv (.t (.of 27))),0,[]),(.s (.mv (.t (.of 28))),0,[]),(.s (.zk 1 (.s 1) (.s 0)),0,[]),(.s (.load (.s 0)),0,[]),(.s (.bin .add .int (.s 4) (.s 0)),0,[]),(.s (.jg 1 2 (.t (.of 23)) (.c (I 0))),0,[]),(.s (.load (.s 0)),0,[]),(.q (.of 58) (.bin .neq .int (.s 2) (.s 0)),0,[])]
def F3.t114:IR:=.reg [.q (.of 3) (.mv (.c (.bool false)))]
def F3.t115:IR:=.seq F3.t114 .ret
def F3.t116:IR:=.cond (.t (.of 58)) F3.t115 .skip
def F3.t117:IR:=.seq F3.t113 F3.t116
def F3.t118:IR:=.seq F3.t112 F3.t117
def F3.t119:IR:=.block 9 F3.t118
def F3.t120:IR:=.reg [.s (.bin .add .int (.t (.of 56)) (.c (I 1))),.q (.of 56) (.mv (.s 0))]
def F3.t121:IR:=.seq F3.t119 F3.t120
def F3.t122:IR:=.seq F3.t111 F3.t121
def F3.t123:IR:=.seq F3.t110 F3.t122
def F3.t124:IR:=.loop F3.t123
def F3.t125:IR:=.block 8 F3.t124
def F3.t126:IR:=.seq F3.t109 F3.t125
def F3.t127:IR:=.seq F3.t108 F3.t126
def F3.t128:IR:=.seq F3.t107 F3.t127
def F3.t129:IR:=.seq F3.t102 F3.t128
def F3.t130:IR:=.block 7 F3.t129
def F3.t131:IR:=.reg [.s (.bin .add .int (.t (.of 52)) (.c (I 1))),.q (.of 52) (.mv (.s 0))]
def F3.t132:IR:=.seq F3.t130 F3.t131
def F3.t133:IR:=.seq F3.t101 F3.t132
def F3.t134:IR:=.seq F3.t100 F3.t133
def F3.t135:IR:=.loop F3.t134
def F3.t136:IR:=.block 6 F3.t135
def F3.t137:IR:=.seq F3.t99 F3.t136
def F3.t138:IR:=.seq F3.t98 F3.t137
def F3.t139:IR:=.seq F3.t93 F3.t138
def F3.t140:IR:=.seq F3.t92 F3.t139
def F3.t141:IR:=.cond (.t (.of 48)) F3.t140 .skip
def F3.t142:IR:=.seq F3.t91 F3.t141
def F3.t143:IR:=.reg [.w .push none (.call (.c (.fn 8 (.of 8) [])) []),.q (.of 3) (.mv (.s 0))]
def F3.t144:IR:=.seq F3.t143 .ret
def F3.t145:IR:=.seq F3.t142 F3.t144
def F3.t146:IR:=.seq F3.t90 F3.t145
def F3.t147:IR:=.seq F3.t15 F3.t146
def F3.t148:IR:=.seq F3.t10 F3.t147
def F3.t149:IR:=.seq F3.t9 F3.t148
def F3.t150:IR:=.seq F3.t8 F3.t149
def F3.t151:IR:=.seq F3.t7 F3.t150
def F3.t152:IR:=.seq F3.t6 F3.t151
def F3.t153:IR:=.seq F3.t5 F3.t152
def F3.t154:IR:=.seq F3.t0 F3.t153
theorem F3.t0_s:IR.run F3.t0 C N O K (F3.fr d c f g e p v z H L a b l i q s u w y A D B E F G P M x27 x28 Q U V W Z x34 x35 x36 x37 x38 x39 x40 x41 x42 x43 x44 x45 x46 x47 x48 x49 x50 x51 x52 x53 x54 x55 x56 x57 x58) h nx =
 fC d h nx fun v1 h2 n3=>K (F3.fr d c v1 (.bool false) e p v z H L a b l i q s u w y A D B E F G P M x27 x28 Q U V W Z x34 x35 x36 x37 x38 x39 x40 x41 x42 x43 x44 x45 x46 x47 x48 x49 x50 x51 x52 x53 x54 x55 x56 x57 x58) h2 n3:=by kernel_rfl
theorem F3.t1_s:IR.run F3.t1 C N O K tm h nx=yO F3.r1_0 C ⟨tm,[]⟩ h nx (fun tm h nx=>K tm.v h nx):=qS ..
theorem F3.zhq:yO (.s (.zi 2 (.t (.of 2)))::.w .push none (.call (.c (.fn 7 (.of 7) [])) [(.s 0),(.c (I 5)),(.c (I 5))])::r) C ⟨(F3.fr d c f g e p v z H L a b l i q s u w y A D B E F G P M x27 x28 Q U V W Z x34 x35 x36 x37 x38 x39 x40 x41 x42 x43 x44 x45 x46 x47 x48 x49 x50 x51 x52 x53 x54 x55 x56 x57 x58),[]⟩ h nx Kt =
 zK 2 f h fun v1=>C.fn 7 (.of 7) [v1,(I 5),(I 5)] h nx fun v2 h3 n4=>yO r C ⟨(F3.fr d c f g e p v z H L a b l i q s u w y A D B E F G P M x27 x28 Q U V W Z x34 x35 x36 x37 x38 x39 x40 x41 x42 x43 x44 x45 x46 x47 x48 x49 x50 x51 x52 x53 x54 x55 x56 x57 x58),v2::v1::[]⟩ h3 n4 Kt:=by kernel_rfl
theorem F3.zdr:yO (.s (.not (.s 0))::.s (.mv (.s 0))::.p .push (some ((.s 0),false)) (.zx 0 (.t (.of 2)))::.p .push (some ((.s 1),false)) (.load (.s 0))::.p .push (some ((.s 2),false)) (.zx 1 (.t (.of 2)))::.p .push (some ((.s 3),false)) (.load (.s 0))::.p .push (some ((.s 4),false)) (.len (.s 0))::.p .push (some ((.s 5),false)) (.bin .add .int (.s 3) (.s 0))::r) C ⟨(F3.fr d c f g e p v z H L a b l i q s u w y A D B E F G P M x27 x28 Q U V W Z x34 x35 x36 x37 x38 x39 x40 x41 x42 x43 x44 x45 x46 x47 x48 x49 x50 x51 x52 x53 x54 x55 x56 x57 x58),s0::s1::[]⟩ h nx Kt =
 sNot s0 fun v1=>sG v1 false (fun k=>zJ 0 f k) fun v2=>sG v1 false (fun k=>zB v2 h k) fun v3=>sG v1 false (fun k=>zJ 1 f k) fun v4=>sG v1 false (fun k=>zB v4 h k) fun v5=>sG v1 false (fun k=>sLen v5 k) fun v6=>sG v1 false (fun k=>zf .add .int v3 v6 k) fun v7=>yO r C ⟨(F3.fr d c f g e p v z H L a b l i q s u w y A D B E F G P M x27 x28 Q U V W Z x34 x35 x36 x37 x38 x39 x40 x41 x42 x43 x44 x45 x46 x47 x48 x49 x50 x51 x52 x53 x54 x55 x56 x57 x58),v7::v6::v5::v4::v3::v2::v1::v1::s0::s1::[]⟩ h nx Kt:=by kernel_rfl
theorem F3.zac:yO (.p .push (some ((.s 6),false)) (.bin .gtr .int (.s 0) (.c (I 6)))::.s (.pick (.s 7) (.c (.bool true)) (.s 0))::.s (.mv (.s 0))::.p .push (some ((.s 0),false)) (.zx 1 (.t (.of 2)))::.p .push (some ((.s 1),false)) (.load (.s 0))::.p .push (some ((.s 2),false)) (.len (.s 0))::.p .push (some ((.s 3),false)) (.bin .eql .int (.s 0) (.c (I 0)))::.q (.of 29) (.pick (.s 4) (.c (.bool true)) (.s 0))::[]) C ⟨(F3.fr d c f g e p v z H L a b l i q s u w y A D B E F G P M x27 x28 Q U V W Z x34 x35 x36 x37 x38 x39 x40 x41 x42 x43 x44 x45 x46 x47 x48 x49 x50 x51 x52 x53 x54 x55 x56 x57 x58),s0::s1::s2::s3::s4::s5::s6::s7::s8::s9::[]⟩ h nx Kt =
 sG s6 false (fun k=>zf .gtr .int s0 (I 6) k) fun v1=>jN s6 (.bool true) v1 fun v2=>sG v2 false (fun k=>zJ 1 f k) fun v3=>sG v2 false (fun k=>zB v3 h k) fun v4=>sG v2 false (fun k=>sLen v4 k) fun v5=>sG v2 false (fun k=>zf .eql .int v5 (I 0) k) fun v6=>jN v2 (.bool true) v6 fun v7=>Kt ⟨(F3.fr d c f g e p v z H L a b l i q s u w y A D B E F G P M x27 x28 v7 U V W Z x34 x35 x36 x37 x38 x39 x40 x41 x42 x43 x44 x45 x46 x47 x48 x49 x50 x51 x52 x53 x54 x55 x56 x57 x58),v6::v5::v4::v3::v2::v2::v1::s0::s1::s2::s3::s4::s5::s6::s7::s8::s9::[]⟩ h nx:=by kernel_rfl
theorem F3.t2_s:IR.run F3.t2 C N O K (F3.fr d c f g e p v z H L a b l i q s u w y A D B E F G P M x27 x28 Q U V W Z x34 x35 x36 x37 x38 x39 x40 x41 x42 x43 x44 x45 x46 x47 x48 x49 x50 x51 x52 x53 x54 x55 x56 x57 x58) h nx =
 C.fn 8 (.of 8) [] h nx fun v1 h2 n3=>K (F3.fr d c f v1 e p v z H L a b l i q s u w y A D B E F G P M x27 x28 Q U V W Z x34 x35 x36 x37 x38 x39 x40 x41 x42 x43 x44 x45 x46 x47 x48 x49 x50 x51 x52 x53 x54 x55 x56 x57 x58) h2 n3:=by kernel_rfl
theorem F3.v29:Arg.ev (.t (.of 29)) ⟨(F3.fr d c f g e p v z H L a b l i q s u w y A D B E F G P M x27 x28 Q U V W Z x34 x35 x36 x37 x38 x39 x40 x41 x42 x43 x44 x45 x46 x47 x48 x49 x50 x51 x52 x53 x54 x55 x56 x57 x58),[]⟩=Q:=by kernel_rfl
theorem F3.t6_s:IR.run F3.t6 C N O K (F3.fr d c f g e p v z H L a b l i q s u w y A D B E F G P M x27 x28 Q U V W Z x34 x35 x36 x37 x38 x39 x40 x41 x42 x43 x44 x45 x46 x47 x48 x49 x50 x51 x52 x53 x54 x55 x56 x57 x58) h nx =
 zJ 0 f fun v1=>zB v1 h fun v2=>zJ 1 f fun v3=>zB v3 h fun v4=>sLen v4 fun v5=>zf .add .int v2 v5 fun v6=>K (F3.fr d c f g v6 p v z H L a b l i q s u w y A D B E F G P M x27 x28 Q U V W Z x34 x35 x36 x37 x38 x39 x40 x41 x42 x43 x44 x45 x46 x47 x48 x49 x50 x51 x52 x53 x54 x55 x56 x57 x58) h nx:=by kernel_rfl
theorem F3.t7_s:IR.run F3.t7 C N O K (F3.fr d c f g e p v z H L a b l i q s u w y A D B E F G P M x27 x28 Q U V W Z x34 x35 x36 x37 x38 x39 x40 x41 x42 x43 x44 x45 x46 x47 x48 x49 x50 x51 x52 x53 x54 x55 x56 x57 x58) h nx =
 zK 2 f h fun v1=>C.fn 9 (.of 9) [v1] h nx fun v2 h3 n4=>fA 0 v2 fun v5=>fA 1 v2 fun v6=>K (F3.fr d c f g e v5 v6 z H L a b l i q s u w y A D B E F G P M x27 x28 Q U V W Z x34 x35 x36 x37 x38 x39 x40 x41 x42 x43 x44 x45 x46 x47 x48 x49 x50 x51 x52 x53 x54 x55 x56 x57 x58) h3 n4:=by kernel_rfl
theorem F3.t8_s:IR.run F3.t8 C N O K (F3.fr d c f g e p v z H L a b l i q s u w y A D B E F G P M x27 x28 Q U V W Z x34 x35 x36 x37 x38 x39 x40 x41 x42 x43 x44 x45 x46 x47 x48 x49 x50 x51 x52 x53 x54 x55 x56 x57 x58) h nx =
 zK 2 f h fun v1=>C.fn 10 (.of 10) [v1] h nx fun v2 h3 n4=>fA 0 v2 fun v5=>fA 1 v2 fun v6=>K (F3.fr d c f g e p v v5 v6 L a b l i q s u w y A D B E F G P M x27 x28 Q U V W Z x34 x35 x36 x37 x38 x39 x40 x41 x42 x43 x44 x45 x46 x47 x48 x49 x50 x51 x52 x53 x54 x55 x56 x57 x58) h3 n4:=by kernel_rfl
theorem F3.t9_s:IR.run F3.t9 C N O K (F3.fr d c f g e p v z H L a b l i q s u w y A D B E F G P M x27 x28 Q U V W Z x34 x35 x36 x37 x38 x39 x40 x41 x42 x43 x44 x45 x46 x47 x48 x49 x50 x51 x52 x53 x54 x55 x56 x57 x58) h nx =
 zK 2 f h fun v1=>C.fn 11 (.of 11) [v1] h nx fun v2 h3 n4=>fA 0 v2 fun v5=>fA 1 v2 fun v6=>yG [(I 0),.zh] h3 n4 fun v7 h8 n9=>zN 2 v7 v5 h8 n9 fun vA hA nA=>K (F3.fr d c f g e p v z H v7 v6 b l i q s u w y A D B E F G P M x27 x28 Q U V W Z x34 x35 x36 x37 x38 x39 x40 x41 x42 x43 x44 x45 x46 x47 x48 x49 x50 x51 x52 x53 x54 x55 x56 x57 x58) hA nA:=by kernel_rfl
theorem F3.zwy:IR.run F3.t10 C N O K (F3.fr d c f g e p v z H L a b l i q s u w y A D B E F G P M x27 x28 Q U V W Z x34 x35 x36 x37 x38 x39 x40 x41 x42 x43 x44 x45 x46 x47 x48 x49 x50 x51 x52 x53 x54 x55 x56 x57 x58) h nx =
 zK 2 f h fun v1=>C.fn 12 (.of 12) [v1] h nx fun v2 h3 n4=>fA 0 v2 fun v5=>fA 1 v2 fun v6=>yG [(I 0),.zh] h3 n4 fun v7 h8 n9=>zN 2 v7 v5 h8 n9 fun vA hA nA=>K (F3.fr d c f g e p v z H L a v7 v6 i q s u w y A D B E F G P M x27 x28 Q U V W Z x34 x35 x36 x37 x38 x39 x40 x41 x42 x43 x44 x45 x46 x47 x48 x49 x50 x51 x52 x53 x54 x55 x56 x57 x58) hA nA:=by kernel_rfl
theorem F3.zwz:IR.run F3.t11 C N O K tm h nx=yO F3.r8_0 C ⟨tm,[]⟩ h nx (fun tm h nx=>K tm.v h nx):=qS ..
theorem F3.zuq:yO (.s (.mv (.t (.of 6)))::.s (.mv (.t (.of 8)))::.s (.bin .add .int (.s 1) (.s 0))::.s (.mv (.t (.of 10)))::.s (.bin .add .int (.s 1) (.s 0))::.s (.mv (.t (.of 12)))::.s (.bin .add .int (.s 1) (.s 0))::.s (.bin .neq .int (.s 0) (.c (I 0)))::r) C ⟨(F3.fr d c f g e p v z H L a b l i q s u w y A D B E F G P M x27 x28 Q U V W Z x34 x35 x36 x37 x38 x39 x40 x41 x42 x43 x44 x45 x46 x47 x48 x49 x50 x51 x52 x53 x54 x55 x56 x57 x58),[]⟩ h nx Kt =
 zf .add .int v H fun v1=>zf .add .int v1 a fun v2=>zf .add .int v2 l fun v3=>zf .neq .int v3 (I 0) fun v4=>yO r C ⟨(F3.fr d c f g e p v z H L a b l i q s u w y A D B E F G P M x27 x28 Q U V W Z x34 x35 x36 x37 x38 x39 x40 x41 x42 x43 x44 x45 x46 x47 x48 x49 x50 x51 x52 x53 x54 x55 x56 x57 x58),v4::v3::l::v2::a::v1::H::v::[]⟩ h nx Kt:=by kernel_rfl
theorem F3.zur:yO (.s (.mv (.s 0))::.p .push (some ((.s 0),false)) (.zx 0 (.t (.of 9)))::.p .push (some ((.s 1),false)) (.load (.s 0))::.p .push (some ((.s 2),false)) (.mv (.t (.of 4)))::.p .push (some ((.s 3),false)) (.bin .neq .int (.s 1) (.s 0))::.s (.pick (.s 4) (.c (.bool true)) (.s 0))::.s (.mv (.s 0))::.p .push (some ((.s 0),false)) (.zx 0 (.t (.of 11)))::r) C ⟨(F3.fr d c f g e p v z H L a b l i q s u w y A D B E F G P M x27 x28 Q U V W Z x34 x35 x36 x37 x38 x39 x40 x41 x42 x43 x44 x45 x46 x47 x48 x49 x50 x51 x52 x53 x54 x55 x56 x57 x58),s0::s1::s2::s3::s4::s5::s6::s7::[]⟩ h nx Kt =
 sG s0 false (fun k=>zJ 0 L k) fun v1=>sG s0 false (fun k=>zB v1 h k) fun v2=>sG s0 false (fun k=>k e) fun v3=>sG s0 false (fun k=>zf .neq .int v2 v3 k) fun v4=>jN s0 (.bool true) v4 fun v5=>sG v5 false (fun k=>zJ 0 b k) fun v6=>yO r C ⟨(F3.fr d c f g e p v z H L a b l i q s u w y A D B E F G P M x27 x28 Q U V W Z x34 x35 x36 x37 x38 x39 x40 x41 x42 x43 x44 x45 x46 x47 x48 x49 x50 x51 x52 x53 x54 x55 x56 x57 x58),v6::v5::v5::v4::v3::v2::v1::s0::s0::s1::s2::s3::s4::s5::s6::s7::[]⟩ h nx Kt:=by kernel_rfl
theorem F3.zus:yO (.p .push (some ((.s 1),false)) (.load (.s 0))::.p .push (some ((.s 2),false)) (.mv (.t (.of 4)))::.p .push (some ((.s 3),false)) (.bin .neq .int (.s 1) (.s 0))::.q (.of 30) (.pick (.s 4) (.c (.bool true)) (.s 0))::[]) C ⟨(F3.fr d c f g e p v z H L a b l i q s u w y A D B E F G P M x27 x28 Q U V W Z x34 x35 x36 x37 x38 x39 x40 x41 x42 x43 x44 x45 x46 x47 x48 x49 x50 x51 x52 x53 x54 x55 x56 x57 x58),s0::s1::s2::s3::s4::s5::s6::s7::s8::s9::s10::s11::s12::s13::s14::s15::[]⟩ h nx Kt =
 sG s1 false (fun k=>zB s0 h k) fun v1=>sG s1 false (fun k=>k e) fun v2=>sG s1 false (fun k=>zf .neq .int v1 v2 k) fun v3=>jN s1 (.bool true) v3 fun v4=>Kt ⟨(F3.fr d c f g e p v z H L a b l i q s u w y A D B E F G P M x27 x28 Q v4 V W Z x34 x35 x36 x37 x38 x39 x40 x41 x42 x43 x44 x45 x46 x47 x48 x49 x50 x51 x52 x53 x54 x55 x56 x57 x58),v3::v2::v1::s0::s1::s2::s3::s4::s5::s6::s7::s8::s9::s10::s11::s12::s13::s14::s15::[]⟩ h nx:=by kernel_rfl
theorem F3.v30:Arg.ev (.t (.of 30)) ⟨(F3.fr d c f g e p v z H L a b l i q s u w y A D B E F G P M x27 x28 Q U V W Z x34 x35 x36 x37 x38 x39 x40 x41 x42 x43 x44 x45 x46 x47 x48 x49 x50 x51 x52 x53 x54 x55 x56 x57 x58),[]⟩=U:=by kernel_rfl
theorem F3.zw0:IR.run F3.t16 C N O K (F3.fr d c f g e p v z H L a b l i q s u w y A D B E F G P M x27 x28 Q U V W Z x34 x35 x36 x37 x38 x39 x40 x41 x42 x43 x44 x45 x46 x47 x48 x49 x50 x51 x52 x53 x54 x55 x56 x57 x58) h nx =
 sLen p fun v1=>zf .gtr .int v1 (I 0) fun v2=>K (F3.fr d c f g e p v z H L a b l i q s u w y A D B E F G P M x27 x28 Q U v2 W Z x34 x35 x36 x37 x38 x39 x40 x41 x42 x43 x44 x45 x46 x47 x48 x49 x50 x51 x52 x53 x54 x55 x56 x57 x58) h nx:=by kernel_rfl
theorem F3.zw1:IR.run F3.t17 C N O K (F3.fr d c f g e p v z H L a b l i q s u w y A D B E F G P M x27 x28 Q U V W Z x34 x35 x36 x37 x38 x39 x40 x41 x42 x43 x44 x45 x46 x47 x48 x49 x50 x51 x52 x53 x54 x55 x56 x57 x58) h nx =
 cH .i64 c fun v1=>sLen p fun v2=>zf .rem .int v1 v2 fun v3=>zO 2 p v3 fun v4=>zK 2 v4 h fun v5=>yG [(I 0),(I 0)] h nx fun v6 h7 n8=>zN 2 v6 v5 h7 n8 fun v9 hT nT=>K (F3.fr d c f g e p v z H L a b l v6 q s u w y A D B E F G P M x27 x28 Q U V W Z x34 x35 x36 x37 x38 x39 x40 x41 x42 x43 x44 x45 x46 x47 x48 x49 x50 x51 x52 x53 x54 x55 x56 x57 x58) hT nT:=by kernel_rfl
theorem F3.zw2:IR.run F3.t18 C N O K (F3.fr d c f g e p v z H L a b l i q s u w y A D B E F G P M x27 x28 Q U V W Z x34 x35 x36 x37 x38 x39 x40 x41 x42 x43 x44 x45 x46 x47 x48 x49 x50 x51 x52 x53 x54 x55 x56 x57 x58) h nx =
 zK 2 L h fun v1=>yR 1 2 i (I 0) fun v2=>zB v2 h fun v3=>C.fn 13 (.of 13) [v1,v3] h nx fun v4 h5 n6=>fA 0 v4 fun v7=>fA 1 v4 fun v8=>K (F3.fr d c f g e p v z H L a b l i v7 v8 u w y A D B E F G P M x27 x28 Q U V W Z x34 x35 x36 x37 x38 x39 x40 x41 x42 x43 x44 x45 x46 x47 x48 x49 x50 x51 x52 x53 x54 x55 x56 x57 x58) h5 n6:=by kernel_rfl
theorem F3.zw3:IR.run F3.t19 C N O K tm h nx=yO F3.zm1 C ⟨tm,[]⟩ h nx (fun tm h nx=>K tm.v h nx):=qS ..
theorem F3.zqu:yO (.s (.mv (.t (.of 15)))::.s (.bin .neq .int (.s 0) (.c (I 0)))::.s (.mv (.s 0))::.p .push (some ((.s 0),false)) (.mv (.t (.of 14)))::.p .push (some ((.s 1),false)) (.len (.s 0))::.p .push (some ((.s 2),false)) (.jg 1 2 (.t (.of 13)) (.c (I 1)))::.p .push (some ((.s 3),false)) (.load (.s 0))::.p .push (some ((.s 4),false)) (.bin .neq .int (.s 2) (.s 0))::r) C ⟨(F3.fr d c f g e p v z H L a b l i q s u w y A D B E F G P M x27 x28 Q U V W Z x34 x35 x36 x37 x38 x39 x40 x41 x42 x43 x44 x45 x46 x47 x48 x49 x50 x51 x52 x53 x54 x55 x56 x57 x58),[]⟩ h nx Kt =
 zf .neq .int s (I 0) fun v1=>sG v1 false (fun k=>k q) fun v2=>sG v1 false (fun k=>sLen v2 k) fun v3=>sG v1 false (fun k=>yR 1 2 i (I 1) k) fun v4=>sG v1 false (fun k=>zB v4 h k) fun v5=>sG v1 false (fun k=>zf .neq .int v3 v5 k) fun v6=>yO r C ⟨(F3.fr d c f g e p v z H L a b l i q s u w y A D B E F G P M x27 x28 Q U V W Z x34 x35 x36 x37 x38 x39 x40 x41 x42 x43 x44 x45 x46 x47 x48 x49 x50 x51 x52 x53 x54 x55 x56 x57 x58),v6::v5::v4::v3::v2::v1::v1::s::[]⟩ h nx Kt:=by kernel_rfl
theorem F3.zqv:yO (.q (.of 32) (.pick (.s 5) (.c (.bool true)) (.s 0))::[]) C ⟨(F3.fr d c f g e p v z H L a b l i q s u w y A D B E F G P M x27 x28 Q U V W Z x34 x35 x36 x37 x38 x39 x40 x41 x42 x43 x44 x45 x46 x47 x48 x49 x50 x51 x52 x53 x54 x55 x56 x57 x58),s0::s1::s2::s3::s4::s5::s6::s7::[]⟩ h nx Kt =
 jN s5 (.bool true) s0 fun v1=>Kt ⟨(F3.fr d c f g e p v z H L a b l i q s u w y A D B E F G P M x27 x28 Q U V v1 Z x34 x35 x36 x37 x38 x39 x40 x41 x42 x43 x44 x45 x46 x47 x48 x49 x50 x51 x52 x53 x54 x55 x56 x57 x58),s0::s1::s2::s3::s4::s5::s6::s7::[]⟩ h nx:=by kernel_rfl
theorem F3.v32:Arg.ev (.t (.of 32)) ⟨(F3.fr d c f g e p v z H L a b l i q s u w y A D B E F G P M x27 x28 Q U V W Z x34 x35 x36 x37 x38 x39 x40 x41 x42 x43 x44 x45 x46 x47 x48 x49 x50 x51 x52 x53 x54 x55 x56 x57 x58),[]⟩=W:=by kernel_rfl
theorem F3.zw4:IR.run F3.t24 C N O K (F3.fr d c f g e p v z H L a b l i q s u w y A D B E F G P M x27 x28 Q U V W Z x34 x35 x36 x37 x38 x39 x40 x41 x42 x43 x44 x45 x46 x47 x48 x49 x50 x51 x52 x53 x54 x55 x56 x57 x58) h nx =
 sLen q fun v1=>K (F3.fr d c f g e p v z H L a b l i q s u w y A D B E F G P M x27 x28 Q U V W q v1 (I 0) x36 x37 x38 x39 x40 x41 x42 x43 x44 x45 x46 x47 x48 x49 x50 x51 x52 x53 x54 x55 x56 x57 x58) h nx:=by kernel_rfl
theorem F3.zw5:IR.run F3.t25 C N O K (F3.fr d c f g e p v z H L a b l i q s u w y A D B E F G P M x27 x28 Q U V W Z x34 x35 x36 x37 x38 x39 x40 x41 x42 x43 x44 x45 x46 x47 x48 x49 x50 x51 x52 x53 x54 x55 x56 x57 x58) h nx =
 zf .lss .int x35 x34 fun v1=>K (F3.fr d c f g e p v z H L a b l i q s u w y A D B E F G P M x27 x28 Q U V W Z x34 x35 v1 x37 x38 x39 x40 x41 x42 x43 x44 x45 x46 x47 x48 x49 x50 x51 x52 x53 x54 x55 x56 x57 x58) h nx:=by kernel_rfl
theorem F3.v36:Arg.ev (.t (.of 36)) ⟨(F3.fr d c f g e p v z H L a b l i q s u w y A D B E F G P M x27 x28 Q U V W Z x34 x35 x36 x37 x38 x39 x40 x41 x42 x43 x44 x45 x46 x47 x48 x49 x50 x51 x52 x53 x54 x55 x56 x57 x58),[]⟩=x36:=by kernel_rfl
theorem F3.zw6:IR.run F3.t27 C N O K (F3.fr d c f g e p v z H L a b l i q s u w y A D B E F G P M x27 x28 Q U V W Z x34 x35 x36 x37 x38 x39 x40 x41 x42 x43 x44 x45 x46 x47 x48 x49 x50 x51 x52 x53 x54 x55 x56 x57 x58) h nx =
 zO 1 Z x35 fun v1=>zB v1 h fun v2=>K (F3.fr d c f g e p v z H L a b l i q s v2 w y A D B E F G P M x27 x28 Q U V W Z x34 x35 x36 x37 x38 x39 x40 x41 x42 x43 x44 x45 x46 x47 x48 x49 x50 x51 x52 x53 x54 x55 x56 x57 x58) h nx:=by kernel_rfl
theorem F3.zw7:IR.run F3.t28 C N O K (F3.fr d c f g e p v z H L a b l i q s u w y A D B E F G P M x27 x28 Q U V W Z x34 x35 x36 x37 x38 x39 x40 x41 x42 x43 x44 x45 x46 x47 x48 x49 x50 x51 x52 x53 x54 x55 x56 x57 x58) h nx =
 C.fn 14 (.of 14) [u] h nx fun v1 h2 n3=>fA 0 v1 fun v4=>fA 1 v1 fun v5=>K (F3.fr d c f g e p v z H L a b l i q s u v4 v5 A D B E F G P M x27 x28 Q U V W Z x34 x35 x36 x37 x38 x39 x40 x41 x42 x43 x44 x45 x46 x47 x48 x49 x50 x51 x52 x53 x54 x55 x56 x57 x58) h2 n3:=by kernel_rfl
theorem F3.zw8:IR.run F3.t29 C N O K tm h nx=yO F3.zm2 C ⟨tm,[]⟩ h nx (fun tm h nx=>K tm.v h nx):=qS ..
theorem F3.zqw:yO (.s (.mv (.t (.of 18)))::.s (.bin .neq .int (.s 0) (.c (I 0)))::.s (.mv (.s 0))::.p .push (some ((.s 0),false)) (.mv (.t (.of 16)))::.p .push (some ((.s 1),false)) (.len (.s 0))::.p .push (some ((.s 2),false)) (.mv (.t (.of 4)))::.p .push (some ((.s 3),false)) (.bin .neq .int (.s 1) (.s 0))::.s (.pick (.s 4) (.c (.bool true)) (.s 0))::r) C ⟨(F3.fr d c f g e p v z H L a b l i q s u w y A D B E F G P M x27 x28 Q U V W Z x34 x35 x36 x37 x38 x39 x40 x41 x42 x43 x44 x45 x46 x47 x48 x49 x50 x51 x52 x53 x54 x55 x56 x57 x58),[]⟩ h nx Kt =
 zf .neq .int y (I 0) fun v1=>sG v1 false (fun k=>k u) fun v2=>sG v1 false (fun k=>sLen v2 k) fun v3=>sG v1 false (fun k=>k e) fun v4=>sG v1 false (fun k=>zf .neq .int v3 v4 k) fun v5=>jN v1 (.bool true) v5 fun v6=>yO r C ⟨(F3.fr d c f g e p v z H L a b l i q s u w y A D B E F G P M x27 x28 Q U V W Z x34 x35 x36 x37 x38 x39 x40 x41 x42 x43 x44 x45 x46 x47 x48 x49 x50 x51 x52 x53 x54 x55 x56 x57 x58),v6::v5::v4::v3::v2::v1::v1::y::[]⟩ h nx Kt:=by kernel_rfl
theorem F3.zqx:yO (.s (.mv (.s 0))::.p .push (some ((.s 0),false)) (.mv (.t (.of 17)))::.p .push (some ((.s 1),false)) (.len (.s 0))::.p .push (some ((.s 2),false)) (.mv (.t (.of 4)))::.p .push (some ((.s 3),false)) (.bin .neq .int (.s 1) (.s 0))::.q (.of 37) (.pick (.s 4) (.c (.bool true)) (.s 0))::[]) C ⟨(F3.fr d c f g e p v z H L a b l i q s u w y A D B E F G P M x27 x28 Q U V W Z x34 x35 x36 x37 x38 x39 x40 x41 x42 x43 x44 x45 x46 x47 x48 x49 x50 x51 x52 x53 x54 x55 x56 x57 x58),s0::s1::s2::s3::s4::s5::s6::s7::[]⟩ h nx Kt =
 sG s0 false (fun k=>k w) fun v1=>sG s0 false (fun k=>sLen v1 k) fun v2=>sG s0 false (fun k=>k e) fun v3=>sG s0 false (fun k=>zf .neq .int v2 v3 k) fun v4=>jN s0 (.bool true) v4 fun v5=>Kt ⟨(F3.fr d c f g e p v z H L a b l i q s u w y A D B E F G P M x27 x28 Q U V W Z x34 x35 x36 v5 x38 x39 x40 x41 x42 x43 x44 x45 x46 x47 x48 x49 x50 x51 x52 x53 x54 x55 x56 x57 x58),v4::v3::v2::v1::s0::s0::s1::s2::s3::s4::s5::s6::s7::[]⟩ h nx:=by kernel_rfl
theorem F3.v37:Arg.ev (.t (.of 37)) ⟨(F3.fr d c f g e p v z H L a b l i q s u w y A D B E F G P M x27 x28 Q U V W Z x34 x35 x36 x37 x38 x39 x40 x41 x42 x43 x44 x45 x46 x47 x48 x49 x50 x51 x52 x53 x54 x55 x56 x57 x58),[]⟩=x37:=by kernel_rfl
theorem F3.zw9:IR.run F3.t34 C N O K (F3.fr d c f g e p v z H L a b l i q s u w y A D B E F G P M x27 x28 Q U V W Z x34 x35 x36 x37 x38 x39 x40 x41 x42 x43 x44 x45 x46 x47 x48 x49 x50 x51 x52 x53 x54 x55 x56 x57 x58) h nx =
 zJ 1 f fun v1=>zB v1 h fun v2=>sLen v2 fun v3=>K (F3.fr d c f g e p v z H L a b l i q s u w y A D B E F G P M x27 x28 Q U V W Z x34 x35 x36 x37 v2 v3 (I 0) x41 x42 x43 x44 x45 x46 x47 x48 x49 x50 x51 x52 x53 x54 x55 x56 x57 x58) h nx:=by kernel_rfl
theorem F3.zxa:IR.run F3.t35 C N O K (F3.fr d c f g e p v z H L a b l i q s u w y A D B E F G P M x27 x28 Q U V W Z x34 x35 x36 x37 x38 x39 x40 x41 x42 x43 x44 x45 x46 x47 x48 x49 x50 x51 x52 x53 x54 x55 x56 x57 x58) h nx =
 zf .lss .int x40 x39 fun v1=>K (F3.fr d c f g e p v z H L a b l i q s u w y A D B E F G P M x27 x28 Q U V W Z x34 x35 x36 x37 x38 x39 x40 v1 x42 x43 x44 x45 x46 x47 x48 x49 x50 x51 x52 x53 x54 x55 x56 x57 x58) h nx:=by kernel_rfl
theorem F3.v41:Arg.ev (.t (.of 41)) ⟨(F3.fr d c f g e p v z H L a b l i q s u w y A D B E F G P M x27 x28 Q U V W Z x34 x35 x36 x37 x38 x39 x40 x41 x42 x43 x44 x45 x46 x47 x48 x49 x50 x51 x52 x53 x54 x55 x56 x57 x58),[]⟩=x41:=by kernel_rfl
theorem F3.zxb:IR.run F3.t37 C N O K (F3.fr d c f g e p v z H L a b l i q s u w y A D B E F G P M x27 x28 Q U V W Z x34 x35 x36 x37 x38 x39 x40 x41 x42 x43 x44 x45 x46 x47 x48 x49 x50 x51 x52 x53 x54 x55 x56 x57 x58) h nx =
 zO 2 x38 x40 fun v1=>zK 2 v1 h fun v2=>yG [(I 0),(I 0)] h nx fun v3 h4 n5=>zN 2 v3 v2 h4 n5 fun v6 h7 n8=>K (F3.fr d c f g e p v z H L a b l i q s u w y x40 v3 B E F G P M x27 x28 Q U V W Z x34 x35 x36 x37 x38 x39 x40 x41 x42 x43 x44 x45 x46 x47 x48 x49 x50 x51 x52 x53 x54 x55 x56 x57 x58) h7 n8:=by kernel_rfl
theorem F3.zxc:IR.run F3.t38 C N O K tm h nx=yO F3.zm3 C ⟨tm,[]⟩ h nx (fun tm h nx=>K tm.v h nx):=zhr ..
theorem F3.zqy:yO (.s (.mv (.t (.of 16)))::.s (.jg 1 2 (.t (.of 20)) (.c (I 0)))::.s (.load (.s 0))::.s (.zk 1 (.s 2) (.s 0))::.s (.load (.s 0))::.s (.mv (.t (.of 16)))::.s (.jg 1 2 (.t (.of 20)) (.c (I 1)))::.s (.load (.s 0))::r) C ⟨(F3.fr d c f g e p v z H L a b l i q s u w y A D B E F G P M x27 x28 Q U V W Z x34 x35 x36 x37 x38 x39 x40 x41 x42 x43 x44 x45 x46 x47 x48 x49 x50 x51 x52 x53 x54 x55 x56 x57 x58),[]⟩ h nx Kt =
 yR 1 2 D (I 0) fun v1=>zB v1 h fun v2=>zO 1 u v2 fun v3=>zB v3 h fun v4=>yR 1 2 D (I 1) fun v5=>zB v5 h fun v6=>yO r C ⟨(F3.fr d c f g e p v z H L a b l i q s u w y A D B E F G P M x27 x28 Q U V W Z x34 x35 x36 x37 x38 x39 x40 x41 x42 x43 x44 x45 x46 x47 x48 x49 x50 x51 x52 x53 x54 x55 x56 x57 x58),v6::v5::u::v4::v3::v2::v1::u::[]⟩ h nx Kt:=by kernel_rfl
theorem F3.zqz:yO (.s (.zk 1 (.s 2) (.s 0))::.s (.load (.s 0))::.s (.bin .add .int (.s 5) (.s 0))::.s (.mv (.t (.of 16)))::.s (.zx 0 (.t (.of 2)))::.s (.load (.s 0))::.s (.mv (.t (.of 19)))::.s (.bin .add .int (.s 1) (.s 0))::r) C ⟨(F3.fr d c f g e p v z H L a b l i q s u w y A D B E F G P M x27 x28 Q U V W Z x34 x35 x36 x37 x38 x39 x40 x41 x42 x43 x44 x45 x46 x47 x48 x49 x50 x51 x52 x53 x54 x55 x56 x57 x58),s0::s1::s2::s3::s4::s5::s6::s7::[]⟩ h nx Kt =
 zO 1 s2 s0 fun v1=>zB v1 h fun v2=>zf .add .int s3 v2 fun v3=>zJ 0 f fun v4=>zB v4 h fun v5=>zf .add .int v5 A fun v6=>yO r C ⟨(F3.fr d c f g e p v z H L a b l i q s u w y A D B E F G P M x27 x28 Q U V W Z x34 x35 x36 x37 x38 x39 x40 x41 x42 x43 x44 x45 x46 x47 x48 x49 x50 x51 x52 x53 x54 x55 x56 x57 x58),v6::A::v5::v4::u::v3::v2::v1::s0::s1::s2::s3::s4::s5::s6::s7::[]⟩ h nx Kt:=by kernel_rfl
theorem F3.zq0:yO (.s (.zk 1 (.s 4) (.s 0))::.s (.load (.s 0))::.s (.bin .add .int (.s 7) (.s 0))::.s (.jg 1 2 (.t (.of 13)) (.c (I 0)))::.s (.load (.s 0))::.s (.bin .neq .int (.s 2) (.s 0))::.s (.mv (.s 0))::.p .push (some ((.s 0),false)) (.mv (.t (.of 17)))::r) C ⟨(F3.fr d c f g e p v z H L a b l i q s u w y A D B E F G P M x27 x28 Q U V W Z x34 x35 x36 x37 x38 x39 x40 x41 x42 x43 x44 x45 x46 x47 x48 x49 x50 x51 x52 x53 x54 x55 x56 x57 x58),s0::s1::s2::s3::s4::s5::s6::s7::s8::s9::s10::s11::s12::s13::s14::s15::[]⟩ h nx Kt =
 zO 1 s4 s0 fun v1=>zB v1 h fun v2=>zf .add .int s5 v2 fun v3=>yR 1 2 i (I 0) fun v4=>zB v4 h fun v5=>zf .neq .int v3 v5 fun v6=>sG v6 false (fun k=>k w) fun v7=>yO r C ⟨(F3.fr d c f g e p v z H L a b l i q s u w y A D B E F G P M x27 x28 Q U V W Z x34 x35 x36 x37 x38 x39 x40 x41 x42 x43 x44 x45 x46 x47 x48 x49 x50 x51 x52 x53 x54 x55 x56 x57 x58),v7::v6::v6::v5::v4::v3::v2::v1::s0::s1::s2::s3::s4::s5::s6::s7::s8::s9::s10::s11::s12::s13::s14::s15::[]⟩ h nx Kt:=by kernel_rfl
theorem F3.zq1:yO (.p .push (some ((.s 1),false)) (.jg 1 2 (.t (.of 20)) (.c (I 0)))::.p .push (some ((.s 2),false)) (.load (.s 0))::.p .push (some ((.s 3),false)) (.zk 1 (.s 2) (.s 0))::.p .push (some ((.s 4),false)) (.load (.s 0))::.p .push (some ((.s 5),false)) (.mv (.t (.of 17)))::.p .push (some ((.s 6),false)) (.jg 1 2 (.t (.of 20)) (.c (I 1)))::.p .push (some ((.s 7),false)) (.load (.s 0))::.p .push (some ((.s 8),false)) (.zk 1 (.s 2) (.s 0))::r) C ⟨(F3.fr d c f g e p v z H L a b l i q s u w y A D B E F G P M x27 x28 Q U V W Z x34 x35 x36 x37 x38 x39 x40 x41 x42 x43 x44 x45 x46 x47 x48 x49 x50 x51 x52 x53 x54 x55 x56 x57 x58),s0::s1::s2::s3::s4::s5::s6::s7::s8::s9::s10::s11::s12::s13::s14::s15::s16::s17::s18::s19::s20::s21::s22::s23::[]⟩ h nx Kt =
 sG s1 false (fun k=>yR 1 2 D (I 0) k) fun v1=>sG s1 false (fun k=>zB v1 h k) fun v2=>sG s1 false (fun k=>zO 1 s0 v2 k) fun v3=>sG s1 false (fun k=>zB v3 h k) fun v4=>sG s1 false (fun k=>k w) fun v5=>sG s1 false (fun k=>yR 1 2 D (I 1) k) fun v6=>sG s1 false (fun k=>zB v6 h k) fun v7=>sG s1 false (fun k=>zO 1 v5 v7 k) fun v8=>yO r C ⟨(F3.fr d c f g e p v z H L a b l i q s u w y A D B E F G P M x27 x28 Q U V W Z x34 x35 x36 x37 x38 x39 x40 x41 x42 x43 x44 x45 x46 x47 x48 x49 x50 x51 x52 x53 x54 x55 x56 x57 x58),v8::v7::v6::v5::v4::v3::v2::v1::s0::s1::s2::s3::s4::s5::s6::s7::s8::s9::s10::s11::s12::s13::s14::s15::s16::s17::s18::s19::s20::s21::s22::s23::[]⟩ h nx Kt:=by kernel_rfl
theorem F3.zq2:yO (.p .push (some ((.s 9),false)) (.load (.s 0))::.p .push (some ((.s 10),false)) (.bin .add .int (.s 5) (.s 0))::.p .push (some ((.s 11),false)) (.mv (.t (.of 17)))::.p .push (some ((.s 12),false)) (.zx 0 (.t (.of 2)))::.p .push (some ((.s 13),false)) (.load (.s 0))::.p .push (some ((.s 14),false)) (.mv (.t (.of 19)))::.p .push (some ((.s 15),false)) (.bin .add .int (.s 1) (.s 0))::.p .push (some ((.s 16),false)) (.zk 1 (.s 4) (.s 0))::r) C ⟨(F3.fr d c f g e p v z H L a b l i q s u w y A D B E F G P M x27 x28 Q U V W Z x34 x35 x36 x37 x38 x39 x40 x41 x42 x43 x44 x45 x46 x47 x48 x49 x50 x51 x52 x53 x54 x55 x56 x57 x58),s0::s1::s2::s3::s4::s5::s6::s7::s8::s9::s10::s11::s12::s13::s14::s15::s16::s17::s18::s19::s20::s21::s22::s23::s24::s25::s26::s27::s28::s29::s30::s31::[]⟩ h nx Kt =
 sG s9 false (fun k=>zB s0 h k) fun v1=>sG s9 false (fun k=>zf .add .int s4 v1 k) fun v2=>sG s9 false (fun k=>k w) fun v3=>sG s9 false (fun k=>zJ 0 f k) fun v4=>sG s9 false (fun k=>zB v4 h k) fun v5=>sG s9 false (fun k=>k A) fun v6=>sG s9 false (fun k=>zf .add .int v5 v6 k) fun v7=>sG s9 false (fun k=>zO 1 v3 v7 k) fun v8=>yO r C ⟨(F3.fr d c f g e p v z H L a b l i q s u w y A D B E F G P M x27 x28 Q U V W Z x34 x35 x36 x37 x38 x39 x40 x41 x42 x43 x44 x45 x46 x47 x48 x49 x50 x51 x52 x53 x54 x55 x56 x57 x58),v8::v7::v6::v5::v4::v3::v2::v1::s0::s1::s2::s3::s4::s5::s6::s7::s8::s9::s10::s11::s12::s13::s14::s15::s16::s17::s18::s19::s20::s21::s22::s23::s24::s25::s26::s27::s28::s29::s30::s31::[]⟩ h nx Kt:=by kernel_rfl
theorem F3.zq3:yO (.p .push (some ((.s 17),false)) (.load (.s 0))::.p .push (some ((.s 18),false)) (.bin .add .int (.s 7) (.s 0))::.p .push (some ((.s 19),false)) (.mv (.t (.of 4)))::.p .push (some ((.s 20),false)) (.bin .add .int (.s 0) (.c (I 1)))::.p .push (some ((.s 21),false)) (.bin .mul .int (.c (I 3)) (.s 0))::.p .push (some ((.s 22),false)) (.jg 1 2 (.t (.of 13)) (.c (I 0)))::.p .push (some ((.s 23),false)) (.load (.s 0))::.p .push (some ((.s 24),false)) (.bin .sub .int (.s 2) (.s 0))::r) C ⟨(F3.fr d c f g e p v z H L a b l i q s u w y A D B E F G P M x27 x28 Q U V W Z x34 x35 x36 x37 x38 x39 x40 x41 x42 x43 x44 x45 x46 x47 x48 x49 x50 x51 x52 x53 x54 x55 x56 x57 x58),s0::s1::s2::s3::s4::s5::s6::s7::s8::s9::s10::s11::s12::s13::s14::s15::s16::s17::s18::s19::s20::s21::s22::s23::s24::s25::s26::s27::s28::s29::s30::s31::s32::s33::s34::s35::s36::s37::s38::s39::[]⟩ h nx Kt =
 sG s17 false (fun k=>zB s0 h k) fun v1=>sG s17 false (fun k=>zf .add .int s6 v1 k) fun v2=>sG s17 false (fun k=>k e) fun v3=>sG s17 false (fun k=>zf .add .int v3 (I 1) k) fun v4=>sG s17 false (fun k=>zf .mul .int (I 3) v4 k) fun v5=>sG s17 false (fun k=>yR 1 2 i (I 0) k) fun v6=>sG s17 false (fun k=>zB v6 h k) fun v7=>sG s17 false (fun k=>zf .sub .int v5 v7 k) fun v8=>yO r C ⟨(F3.fr d c f g e p v z H L a b l i q s u w y A D B E F G P M x27 x28 Q U V W Z x34 x35 x36 x37 x38 x39 x40 x41 x42 x43 x44 x45 x46 x47 x48 x49 x50 x51 x52 x53 x54 x55 x56 x57 x58),v8::v7::v6::v5::v4::v3::v2::v1::s0::s1::s2::s3::s4::s5::s6::s7::s8::s9::s10::s11::s12::s13::s14::s15::s16::s17::s18::s19::s20::s21::s22::s23::s24::s25::s26::s27::s28::s29::s30::s31::s32::s33::s34::s35::s36::s37::s38::s39::[]⟩ h nx Kt:=by kernel_rfl
theorem F3.zq4:yO (.p .push (some ((.s 25),false)) (.bin .neq .int (.s 6) (.s 0))::.q (.of 42) (.pick (.s 26) (.c (.bool true)) (.s 0))::[]) C ⟨(F3.fr d c f g e p v z H L a b l i q s u w y A D B E F G P M x27 x28 Q U V W Z x34 x35 x36 x37 x38 x39 x40 x41 x42 x43 x44 x45 x46 x47 x48 x49 x50 x51 x52 x53 x54 x55 x56 x57 x58),s0::s1::s2::s3::s4::s5::s6::s7::s8::s9::s10::s11::s12::s13::s14::s15::s16::s17::s18::s19::s20::s21::s22::s23::s24::s25::s26::s27::s28::s29::s30::s31::s32::s33::s34::s35::s36::s37::s38::s39::s40::s41::s42::s43::s44::s45::s46::s47::[]⟩ h nx Kt =
 sG s25 false (fun k=>zf .neq .int s6 s0 k) fun v1=>jN s25 (.bool true) v1 fun v2=>Kt ⟨(F3.fr d c f g e p v z H L a b l i q s u w y A D B E F G P M x27 x28 Q U V W Z x34 x35 x36 x37 x38 x39 x40 x41 v2 x43 x44 x45 x46 x47 x48 x49 x50 x51 x52 x53 x54 x55 x56 x57 x58),v1::s0::s1::s2::s3::s4::s5::s6::s7::s8::s9::s10::s11::s12::s13::s14::s15::s16::s17::s18::s19::s20::s21::s22::s23::s24::s25::s26::s27::s28::s29::s30::s31::s32::s33::s34::s35::s36::s37::s38::s39::s40::s41::s42::s43::s44::s45::s46::s47::[]⟩ h nx:=by kernel_rfl
theorem F3.v42:Arg.ev (.t (.of 42)) ⟨(F3.fr d c f g e p v z H L a b l i q s u w y A D B E F G P M x27 x28 Q U V W Z x34 x35 x36 x37 x38 x39 x40 x41 x42 x43 x44 x45 x46 x47 x48 x49 x50 x51 x52 x53 x54 x55 x56 x57 x58),[]⟩=x42:=by kernel_rfl
theorem F3.zxd:IR.run F3.t45 C N O K (F3.fr d c f g e p v z H L a b l i q s u w y A D B E F G P M x27 x28 Q U V W Z x34 x35 x36 x37 x38 x39 x40 x41 x42 x43 x44 x45 x46 x47 x48 x49 x50 x51 x52 x53 x54 x55 x56 x57 x58) h nx =
 zf .add .int x40 (I 1) fun v1=>K (F3.fr d c f g e p v z H L a b l i q s u w y A D B E F G P M x27 x28 Q U V W Z x34 x35 x36 x37 x38 x39 v1 x41 x42 x43 x44 x45 x46 x47 x48 x49 x50 x51 x52 x53 x54 x55 x56 x57 x58) h nx:=by kernel_rfl
theorem F3.zxe (Inv:Nat->AV->T Blk->Pa->Prop) {m:Nat} (hm:m<N) (hi:Inv m x40 h nx)
  (step:∀ (m:Nat) (z3 zR zT z40 z41 z42:AV) (h:T Blk) (nx:Pa) (R:Ks Prop),Inv m z40 h nx->(∀ (m':Nat) (w3 wJ wK wR wS wT:AV) (h':T Blk) (nx':Pa),m'<m->Inv m' wR h' nx'->R (F3.fr d c f w3 e p v z H L a b l i q s u w y wJ wK B E F G P M x27 x28 Q U V W Z x34 x35 x36 x37 x38 x39 wR wS wT x43 x44 x45 x46 x47 x48 x49 x50 x51 x52 x53 x54 x55 x56 x57 x58) h' nx'=.ok True)->IR.run F3.t48 C N O R (F3.fr d c f z3 e p v z H L a b l i q s u w y zR zT B E F G P M x27 x28 Q U V W Z x34 x35 x36 x37 x38 x39 z40 z41 z42 x43 x44 x45 x46 x47 x48 x49 x50 x51 x52 x53 x54 x55 x56 x57 x58) h nx=.ok True) :
  IR.run F3.t49 C N O K (F3.fr d c f g e p v z H L a b l i q s u w y A D B E F G P M x27 x28 Q U V W Z x34 x35 x36 x37 x38 x39 x40 x41 x42 x43 x44 x45 x46 x47 x48 x49 x50 x51 x52 x53 x54 x55 x56 x57 x58) h nx=.ok True:=by
 rw [F3.t49];refine yB (fun m tm h nx=>∃ z3 zR zT z40 z41 z42,tm=(F3.fr d c f z3 e p v z H L a b l i q s u w y zR zT B E F G P M x27 x28 Q U V W Z x34 x35 x36 x37 x38 x39 z40 z41 z42 x43 x44 x45 x46 x47 x48 x49 x50 x51 x52 x53 x54 x55 x56 x57 x58)/\Inv m z40 h nx) ?_ hm ⟨_,_,_,_,_,_,rfl,hi⟩;rintro m tm h nx R ⟨z3,zR,zT,z40,z41,z42,rfl,hi⟩ hR;exact step m z3 zR zT z40 z41 z42 h nx R hi fun m' w3 wJ wK wR wS wT h' nx' hlt hi'=>hR m' _ h' nx' hlt ⟨_,_,_,_,_,_,rfl,hi'⟩
theorem F3.zxf:IR.run F3.t56 C N O K (F3.fr d c f g e p v z H L a b l i q s u w y A D B E F G P M x27 x28 Q U V W Z x34 x35 x36 x37 x38 x39 x40 x41 x42 x43 x44 x45 x46 x47 x48 x49 x50 x51 x52 x53 x54 x55 x56 x57 x58) h nx =
 zf .add .int x35 (I 1) fun v1=>K (F3.fr d c f g e p v z H L a b l i q s u w y A D B E F G P M x27 x28 Q U V W Z x34 v1 x36 x37 x38 x39 x40 x41 x42 x43 x44 x45 x46 x47 x48 x49 x50 x51 x52 x53 x54 x55 x56 x57 x58) h nx:=by kernel_rfl
theorem F3.zxg (Inv:Nat->AV->T Blk->Pa->Prop) {m:Nat} (hm:m<N) (hi:Inv m x35 h nx)
  (step:∀ (m:Nat) (z3 zI zL zP zR zT z35 z36 z37 z38 z39 z40 z41 z42:AV) (h:T Blk) (nx:Pa) (R:Ks Prop),Inv m z35 h nx->(∀ (m':Nat) (w3 wG wH wI wJ wK wU wV wW wX wY wR wS wT:AV) (h':T Blk) (nx':Pa),m'<m->Inv m' wU h' nx'->R (F3.fr d c f w3 e p v z H L a b l i q s wG wH wI wJ wK B E F G P M x27 x28 Q U V W Z x34 wU wV wW wX wY wR wS wT x43 x44 x45 x46 x47 x48 x49 x50 x51 x52 x53 x54 x55 x56 x57 x58) h' nx'=.ok True)->IR.run F3.t59 C N O R (F3.fr d c f z3 e p v z H L a b l i q s zI zL zP zR zT B E F G P M x27 x28 Q U V W Z x34 z35 z36 z37 z38 z39 z40 z41 z42 x43 x44 x45 x46 x47 x48 x49 x50 x51 x52 x53 x54 x55 x56 x57 x58) h nx=.ok True) :
  IR.run F3.t60 C N O K (F3.fr d c f g e p v z H L a b l i q s u w y A D B E F G P M x27 x28 Q U V W Z x34 x35 x36 x37 x38 x39 x40 x41 x42 x43 x44 x45 x46 x47 x48 x49 x50 x51 x52 x53 x54 x55 x56 x57 x58) h nx=.ok True:=by
 rw [F3.t60];refine yB (fun m tm h nx=>∃ z3 zI zL zP zR zT z35 z36 z37 z38 z39 z40 z41 z42,tm=(F3.fr d c f z3 e p v z H L a b l i q s zI zL zP zR zT B E F G P M x27 x28 Q U V W Z x34 z35 z36 z37 z38 z39 z40 z41 z42 x43 x44 x45 x46 x47 x48 x49 x50 x51 x52 x53 x54 x55 x56 x57 x58)/\Inv m z35 h nx) ?_ hm ⟨_,_,_,_,_,_,_,_,_,_,_,_,_,_,rfl,hi⟩;rintro m tm h nx R ⟨z3,zI,zL,zP,zR,zT,z35,z36,z37,z38,z39,z40,z41,z42,rfl,hi⟩ hR;exact step m z3 zI zL zP zR zT z35 z36 z37 z38 z39 z40 z41 z42 h nx R hi fun m' w3 wG wH wI wJ wK wU wV wW wX wY wR wS wT h' nx' hlt hi'=>hR m' _ h' nx' hlt ⟨_,_,_,_,_,_,_,_,_,_,_,_,_,_,rfl,hi'⟩
theorem F3.zxh:IR.run F3.t63 C N O K (F3.fr d c f g e p v z H L a b l i q s u w y A D B E F G P M x27 x28 Q U V W Z x34 x35 x36 x37 x38 x39 x40 x41 x42 x43 x44 x45 x46 x47 x48 x49 x50 x51 x52 x53 x54 x55 x56 x57 x58) h nx =
 K (F3.fr d c f g e p v z H L a b l i q s u w y A D (.bool false) E F G P M x27 x28 Q U V W Z x34 x35 x36 x37 x38 x39 x40 x41 x42 x43 x44 x45 x46 x47 x48 x49 x50 x51 x52 x53 x54 x55 x56 x57 x58) h nx:=by kernel_rfl
theorem F3.zxi:IR.run F3.t64 C N O K (F3.fr d c f g e p v z H L a b l i q s u w y A D B E F G P M x27 x28 Q U V W Z x34 x35 x36 x37 x38 x39 x40 x41 x42 x43 x44 x45 x46 x47 x48 x49 x50 x51 x52 x53 x54 x55 x56 x57 x58) h nx =
 sLen p fun v1=>K (F3.fr d c f g e p v z H L a b l i q s u w y A D B E F G P M x27 x28 Q U V W Z x34 x35 x36 x37 x38 x39 x40 x41 x42 p v1 (I 0) x46 x47 x48 x49 x50 x51 x52 x53 x54 x55 x56 x57 x58) h nx:=by kernel_rfl
theorem F3.zxj:IR.run F3.t65 C N O K (F3.fr d c f g e p v z H L a b l i q s u w y A D B E F G P M x27 x28 Q U V W Z x34 x35 x36 x37 x38 x39 x40 x41 x42 x43 x44 x45 x46 x47 x48 x49 x50 x51 x52 x53 x54 x55 x56 x57 x58) h nx =
 zf .lss .int x45 x44 fun v1=>K (F3.fr d c f g e p v z H L a b l i q s u w y A D B E F G P M x27 x28 Q U V W Z x34 x35 x36 x37 x38 x39 x40 x41 x42 x43 x44 x45 v1 x47 x48 x49 x50 x51 x52 x53 x54 x55 x56 x57 x58) h nx:=by kernel_rfl
theorem F3.v46:Arg.ev (.t (.of 46)) ⟨(F3.fr d c f g e p v z H L a b l i q s u w y A D B E F G P M x27 x28 Q U V W Z x34 x35 x36 x37 x38 x39 x40 x41 x42 x43 x44 x45 x46 x47 x48 x49 x50 x51 x52 x53 x54 x55 x56 x57 x58),[]⟩=x46:=by kernel_rfl
theorem F3.zxk:IR.run F3.t67 C N O K (F3.fr d c f g e p v z H L a b l i q s u w y A D B E F G P M x27 x28 Q U V W Z x34 x35 x36 x37 x38 x39 x40 x41 x42 x43 x44 x45 x46 x47 x48 x49 x50 x51 x52 x53 x54 x55 x56 x57 x58) h nx =
 zO 2 x43 x45 fun v1=>zK 2 v1 h fun v2=>yG [(I 0),(I 0)] h nx fun v3 h4 n5=>zN 2 v3 v2 h4 n5 fun v6 h7 n8=>K (F3.fr d c f g e p v z H L a b l i q s u w y A D B v3 F G P M x27 x28 Q U V W Z x34 x35 x36 x37 x38 x39 x40 x41 x42 x43 x44 x45 x46 x47 x48 x49 x50 x51 x52 x53 x54 x55 x56 x57 x58) h7 n8:=by kernel_rfl
theorem F3.zxl:IR.run F3.t68 C N O K tm h nx=yO F3.zjo C ⟨tm,[]⟩ h nx (fun tm h nx=>K tm.v h nx):=qS ..
theorem F3.zjq:yO (.s (.mv (.t (.of 21)))::.s (.mv (.s 0))::.p .push (some ((.s 0),false)) (.jg 1 2 (.t (.of 22)) (.c (I 0)))::.p .push (some ((.s 1),false)) (.load (.s 0))::.p .push (some ((.s 2),false)) (.mv (.t (.of 4)))::.p .push (some ((.s 3),false)) (.bin .add .int (.s 0) (.c (I 1)))::.p .push (some ((.s 4),false)) (.bin .mul .int (.c (I 3)) (.s 0))::.p .push (some ((.s 5),false)) (.jg 1 2 (.t (.of 13)) (.c (I 0)))::r) C ⟨(F3.fr d c f g e p v z H L a b l i q s u w y A D B E F G P M x27 x28 Q U V W Z x34 x35 x36 x37 x38 x39 x40 x41 x42 x43 x44 x45 x46 x47 x48 x49 x50 x51 x52 x53 x54 x55 x56 x57 x58),[]⟩ h nx Kt =
 sG B false (fun k=>yR 1 2 E (I 0) k) fun v1=>sG B false (fun k=>zB v1 h k) fun v2=>sG B false (fun k=>k e) fun v3=>sG B false (fun k=>zf .add .int v3 (I 1) k) fun v4=>sG B false (fun k=>zf .mul .int (I 3) v4 k) fun v5=>sG B false (fun k=>yR 1 2 i (I 0) k) fun v6=>yO r C ⟨(F3.fr d c f g e p v z H L a b l i q s u w y A D B E F G P M x27 x28 Q U V W Z x34 x35 x36 x37 x38 x39 x40 x41 x42 x43 x44 x45 x46 x47 x48 x49 x50 x51 x52 x53 x54 x55 x56 x57 x58),v6::v5::v4::v3::v2::v1::B::B::[]⟩ h nx Kt:=by kernel_rfl
theorem F3.zjr:yO (.p .push (some ((.s 6),false)) (.load (.s 0))::.p .push (some ((.s 7),false)) (.bin .sub .int (.s 2) (.s 0))::.p .push (some ((.s 8),false)) (.bin .eql .int (.s 6) (.s 0))::.p .push (some ((.s 9),false)) (.mv (.s 0))::.p .push (some ((.s 0),true)) (.jg 1 2 (.t (.of 22)) (.c (I 1)))::.p .push (some ((.s 1),true)) (.load (.s 0))::.p .push (some ((.s 2),true)) (.jg 1 2 (.t (.of 13)) (.c (I 1)))::.p .push (some ((.s 3),true)) (.load (.s 0))::r) C ⟨(F3.fr d c f g e p v z H L a b l i q s u w y A D B E F G P M x27 x28 Q U V W Z x34 x35 x36 x37 x38 x39 x40 x41 x42 x43 x44 x45 x46 x47 x48 x49 x50 x51 x52 x53 x54 x55 x56 x57 x58),s0::s1::s2::s3::s4::s5::s6::s7::[]⟩ h nx Kt =
 sG s6 false (fun k=>zB s0 h k) fun v1=>sG s6 false (fun k=>zf .sub .int s1 v1 k) fun v2=>sG s6 false (fun k=>zf .eql .int s4 v2 k) fun v3=>sG s6 false (fun k=>k v3) fun v4=>sG v4 true (fun k=>yR 1 2 E (I 1) k) fun v5=>sG v4 true (fun k=>zB v5 h k) fun v6=>sG v4 true (fun k=>yR 1 2 i (I 1) k) fun v7=>sG v4 true (fun k=>zB v7 h k) fun v8=>yO r C ⟨(F3.fr d c f g e p v z H L a b l i q s u w y A D B E F G P M x27 x28 Q U V W Z x34 x35 x36 x37 x38 x39 x40 x41 x42 x43 x44 x45 x46 x47 x48 x49 x50 x51 x52 x53 x54 x55 x56 x57 x58),v8::v7::v6::v5::v4::v3::v2::v1::s0::s1::s2::s3::s4::s5::s6::s7::[]⟩ h nx Kt:=by kernel_rfl
theorem F3.zds:yO (.p .push (some ((.s 4),true)) (.bin .eql .int (.s 2) (.s 0))::.p .push (some ((.s 15),false)) (.pick (.s 5) (.s 0) (.c (.bool false)))::.s (.pick (.s 16) (.c (.bool true)) (.s 0))::.q (.of 21) (.mv (.s 0))::[]) C ⟨(F3.fr d c f g e p v z H L a b l i q s u w y A D B E F G P M x27 x28 Q U V W Z x34 x35 x36 x37 x38 x39 x40 x41 x42 x43 x44 x45 x46 x47 x48 x49 x50 x51 x52 x53 x54 x55 x56 x57 x58),s0::s1::s2::s3::s4::s5::s6::s7::s8::s9::s10::s11::s12::s13::s14::s15::[]⟩ h nx Kt =
 sG s4 true (fun k=>zf .eql .int s2 s0 k) fun v1=>sG s14 false (fun k=>jN s4 v1 (.bool false) k) fun v2=>jN s14 (.bool true) v2 fun v3=>Kt ⟨(F3.fr d c f g e p v z H L a b l i q s u w y A D v3 E F G P M x27 x28 Q U V W Z x34 x35 x36 x37 x38 x39 x40 x41 x42 x43 x44 x45 x46 x47 x48 x49 x50 x51 x52 x53 x54 x55 x56 x57 x58),v3::v2::v1::s0::s1::s2::s3::s4::s5::s6::s7::s8::s9::s10::s11::s12::s13::s14::s15::[]⟩ h nx:=by kernel_rfl
theorem F3.zm6:IR.run F3.t71 C N O K (F3.fr d c f g e p v z H L a b l i q s u w y A D B E F G P M x27 x28 Q U V W Z x34 x35 x36 x37 x38 x39 x40 x41 x42 x43 x44 x45 x46 x47 x48 x49 x50 x51 x52 x53 x54 x55 x56 x57 x58) h nx =
 zf .add .int x45 (I 1) fun v1=>K (F3.fr d c f g e p v z H L a b l i q s u w y A D B E F G P M x27 x28 Q U V W Z x34 x35 x36 x37 x38 x39 x40 x41 x42 x43 x44 v1 x46 x47 x48 x49 x50 x51 x52 x53 x54 x55 x56 x57 x58) h nx:=by kernel_rfl
theorem F3.zxm (Inv:Nat->AV->AV->T Blk->Pa->Prop) {m:Nat} (hm:m<N) (hi:Inv m B x45 h nx)
  (step:∀ (m:Nat) (zU zV z45 z46:AV) (h:T Blk) (nx:Pa) (R:Ks Prop),Inv m zU z45 h nx->(∀ (m':Nat) (wL wM wZ w46:AV) (h':T Blk) (nx':Pa),m'<m->Inv m' wL wZ h' nx'->R (F3.fr d c f g e p v z H L a b l i q s u w y A D wL wM F G P M x27 x28 Q U V W Z x34 x35 x36 x37 x38 x39 x40 x41 x42 x43 x44 wZ w46 x47 x48 x49 x50 x51 x52 x53 x54 x55 x56 x57 x58) h' nx'=.ok True)->IR.run F3.t74 C N O R (F3.fr d c f g e p v z H L a b l i q s u w y A D zU zV F G P M x27 x28 Q U V W Z x34 x35 x36 x37 x38 x39 x40 x41 x42 x43 x44 z45 z46 x47 x48 x49 x50 x51 x52 x53 x54 x55 x56 x57 x58) h nx=.ok True) :
  IR.run F3.t75 C N O K (F3.fr d c f g e p v z H L a b l i q s u w y A D B E F G P M x27 x28 Q U V W Z x34 x35 x36 x37 x38 x39 x40 x41 x42 x43 x44 x45 x46 x47 x48 x49 x50 x51 x52 x53 x54 x55 x56 x57 x58) h nx=.ok True:=by
 rw [F3.t75];refine yB (fun m tm h nx=>∃ zU zV z45 z46,tm=(F3.fr d c f g e p v z H L a b l i q s u w y A D zU zV F G P M x27 x28 Q U V W Z x34 x35 x36 x37 x38 x39 x40 x41 x42 x43 x44 z45 z46 x47 x48 x49 x50 x51 x52 x53 x54 x55 x56 x57 x58)/\Inv m zU z45 h nx) ?_ hm ⟨_,_,_,_,rfl,hi⟩;rintro m tm h nx R ⟨zU,zV,z45,z46,rfl,hi⟩ hR;exact step m zU zV z45 z46 h nx R hi fun m' wL wM wZ w46 h' nx' hlt hi'=>hR m' _ h' nx' hlt ⟨_,_,_,_,rfl,hi'⟩
theorem F3.zxn:IR.run F3.t78 C N O K (F3.fr d c f g e p v z H L a b l i q s u w y A D B E F G P M x27 x28 Q U V W Z x34 x35 x36 x37 x38 x39 x40 x41 x42 x43 x44 x45 x46 x47 x48 x49 x50 x51 x52 x53 x54 x55 x56 x57 x58) h nx =
 sNot B fun v1=>K (F3.fr d c f g e p v z H L a b l i q s u w y A D B E F G P M x27 x28 Q U V W Z x34 x35 x36 x37 x38 x39 x40 x41 x42 x43 x44 x45 x46 v1 x48 x49 x50 x51 x52 x53 x54 x55 x56 x57 x58) h nx:=by kernel_rfl
theorem F3.v47:Arg.ev (.t (.of 47)) ⟨(F3.fr d c f g e p v z H L a b l i q s u w y A D B E F G P M x27 x28 Q U V W Z x34 x35 x36 x37 x38 x39 x40 x41 x42 x43 x44 x45 x46 x47 x48 x49 x50 x51 x52 x53 x54 x55 x56 x57 x58),[]⟩=x47:=by kernel_rfl
theorem F3.v31:Arg.ev (.t (.of 31)) ⟨(F3.fr d c f g e p v z H L a b l i q s u w y A D B E F G P M x27 x28 Q U V W Z x34 x35 x36 x37 x38 x39 x40 x41 x42 x43 x44 x45 x46 x47 x48 x49 x50 x51 x52 x53 x54 x55 x56 x57 x58),[]⟩=V:=by kernel_rfl
theorem F3.zxo:IR.run F3.t91 C N O K (F3.fr d c f g e p v z H L a b l i q s u w y A D B E F G P M x27 x28 Q U V W Z x34 x35 x36 x37 x38 x39 x40 x41 x42 x43 x44 x45 x46 x47 x48 x49 x50 x51 x52 x53 x54 x55 x56 x57 x58) h nx =
 sLen z fun v1=>zf .gtr .int v1 (I 0) fun v2=>K (F3.fr d c f g e p v z H L a b l i q s u w y A D B E F G P M x27 x28 Q U V W Z x34 x35 x36 x37 x38 x39 x40 x41 x42 x43 x44 x45 x46 x47 v2 x49 x50 x51 x52 x53 x54 x55 x56 x57 x58) h nx:=by kernel_rfl
theorem F3.zxp:IR.run F3.t92 C N O K (F3.fr d c f g e p v z H L a b l i q s u w y A D B E F G P M x27 x28 Q U V W Z x34 x35 x36 x37 x38 x39 x40 x41 x42 x43 x44 x45 x46 x47 x48 x49 x50 x51 x52 x53 x54 x55 x56 x57 x58) h nx =
 cH .i64 c fun v1=>sLen z fun v2=>zf .rem .int v1 v2 fun v3=>zO 2 z v3 fun v4=>zK 2 v4 h fun v5=>yG [(I 0),(I 0)] h nx fun v6 h7 n8=>zN 2 v6 v5 h7 n8 fun v9 hT nT=>K (F3.fr d c f g e p v z H L a b l i q s u w y A D B E v6 G P M x27 x28 Q U V W Z x34 x35 x36 x37 x38 x39 x40 x41 x42 x43 x44 x45 x46 x47 x48 x49 x50 x51 x52 x53 x54 x55 x56 x57 x58) hT nT:=by kernel_rfl
theorem F3.zxq:IR.run F3.t93 C N O K (F3.fr d c f g e p v z H L a b l i q s u w y A D B E F G P M x27 x28 Q U V W Z x34 x35 x36 x37 x38 x39 x40 x41 x42 x43 x44 x45 x46 x47 x48 x49 x50 x51 x52 x53 x54 x55 x56 x57 x58) h nx =
 zK 2 b h fun v1=>yR 1 2 F (I 0) fun v2=>zB v2 h fun v3=>C.fn 13 (.of 13) [v1,v3] h nx fun v4 h5 n6=>fA 0 v4 fun v7=>fA 1 v4 fun v8=>K (F3.fr d c f g e p v z H L a b l i q s u w y A D B E F v7 v8 M x27 x28 Q U V W Z x34 x35 x36 x37 x38 x39 x40 x41 x42 x43 x44 x45 x46 x47 x48 x49 x50 x51 x52 x53 x54 x55 x56 x57 x58) h5 n6:=by kernel_rfl
theorem F3.zxr:IR.run F3.t94 C N O K tm h nx=yO F3.zm5 C ⟨tm,[]⟩ h nx (fun tm h nx=>K tm.v h nx):=qS ..
theorem F3.zq5:yO (.s (.mv (.t (.of 25)))::.s (.bin .neq .int (.s 0) (.c (I 0)))::.s (.mv (.s 0))::.p .push (some ((.s 0),false)) (.mv (.t (.of 24)))::.p .push (some ((.s 1),false)) (.len (.s 0))::.p .push (some ((.s 2),false)) (.jg 1 2 (.t (.of 23)) (.c (I 1)))::.p .push (some ((.s 3),false)) (.load (.s 0))::.p .push (some ((.s 4),false)) (.bin .neq .int (.s 2) (.s 0))::r) C ⟨(F3.fr d c f g e p v z H L a b l i q s u w y A D B E F G P M x27 x28 Q U V W Z x34 x35 x36 x37 x38 x39 x40 x41 x42 x43 x44 x45 x46 x47 x48 x49 x50 x51 x52 x53 x54 x55 x56 x57 x58),[]⟩ h nx Kt =
 zf .neq .int P (I 0) fun v1=>sG v1 false (fun k=>k G) fun v2=>sG v1 false (fun k=>sLen v2 k) fun v3=>sG v1 false (fun k=>yR 1 2 F (I 1) k) fun v4=>sG v1 false (fun k=>zB v4 h k) fun v5=>sG v1 false (fun k=>zf .neq .int v3 v5 k) fun v6=>yO r C ⟨(F3.fr d c f g e p v z H L a b l i q s u w y A D B E F G P M x27 x28 Q U V W Z x34 x35 x36 x37 x38 x39 x40 x41 x42 x43 x44 x45 x46 x47 x48 x49 x50 x51 x52 x53 x54 x55 x56 x57 x58),v6::v5::v4::v3::v2::v1::v1::P::[]⟩ h nx Kt:=by kernel_rfl
theorem F3.zq6:yO (.q (.of 49) (.pick (.s 5) (.c (.bool true)) (.s 0))::[]) C ⟨(F3.fr d c f g e p v z H L a b l i q s u w y A D B E F G P M x27 x28 Q U V W Z x34 x35 x36 x37 x38 x39 x40 x41 x42 x43 x44 x45 x46 x47 x48 x49 x50 x51 x52 x53 x54 x55 x56 x57 x58),s0::s1::s2::s3::s4::s5::s6::s7::[]⟩ h nx Kt =
 jN s5 (.bool true) s0 fun v1=>Kt ⟨(F3.fr d c f g e p v z H L a b l i q s u w y A D B E F G P M x27 x28 Q U V W Z x34 x35 x36 x37 x38 x39 x40 x41 x42 x43 x44 x45 x46 x47 x48 v1 x50 x51 x52 x53 x54 x55 x56 x57 x58),s0::s1::s2::s3::s4::s5::s6::s7::[]⟩ h nx:=by kernel_rfl
theorem F3.v49:Arg.ev (.t (.of 49)) ⟨(F3.fr d c f g e p v z H L a b l i q s u w y A D B E F G P M x27 x28 Q U V W Z x34 x35 x36 x37 x38 x39 x40 x41 x42 x43 x44 x45 x46 x47 x48 x49 x50 x51 x52 x53 x54 x55 x56 x57 x58),[]⟩=x49:=by kernel_rfl
theorem F3.zxs:IR.run F3.t99 C N O K (F3.fr d c f g e p v z H L a b l i q s u w y A D B E F G P M x27 x28 Q U V W Z x34 x35 x36 x37 x38 x39 x40 x41 x42 x43 x44 x45 x46 x47 x48 x49 x50 x51 x52 x53 x54 x55 x56 x57 x58) h nx =
 sLen G fun v1=>K (F3.fr d c f g e p v z H L a b l i q s u w y A D B E F G P M x27 x28 Q U V W Z x34 x35 x36 x37 x38 x39 x40 x41 x42 x43 x44 x45 x46 x47 x48 x49 G v1 (I 0) x53 x54 x55 x56 x57 x58) h nx:=by kernel_rfl
theorem F3.zut:IR.run F3.t100 C N O K (F3.fr d c f g e p v z H L a b l i q s u w y A D B E F G P M x27 x28 Q U V W Z x34 x35 x36 x37 x38 x39 x40 x41 x42 x43 x44 x45 x46 x47 x48 x49 x50 x51 x52 x53 x54 x55 x56 x57 x58) h nx =
 zf .lss .int x52 x51 fun v1=>K (F3.fr d c f g e p v z H L a b l i q s u w y A D B E F G P M x27 x28 Q U V W Z x34 x35 x36 x37 x38 x39 x40 x41 x42 x43 x44 x45 x46 x47 x48 x49 x50 x51 x52 v1 x54 x55 x56 x57 x58) h nx:=by kernel_rfl
theorem F3.v53:Arg.ev (.t (.of 53)) ⟨(F3.fr d c f g e p v z H L a b l i q s u w y A D B E F G P M x27 x28 Q U V W Z x34 x35 x36 x37 x38 x39 x40 x41 x42 x43 x44 x45 x46 x47 x48 x49 x50 x51 x52 x53 x54 x55 x56 x57 x58),[]⟩=x53:=by kernel_rfl
theorem F3.zuu:IR.run F3.t102 C N O K (F3.fr d c f g e p v z H L a b l i q s u w y A D B E F G P M x27 x28 Q U V W Z x34 x35 x36 x37 x38 x39 x40 x41 x42 x43 x44 x45 x46 x47 x48 x49 x50 x51 x52 x53 x54 x55 x56 x57 x58) h nx =
 zO 1 x50 x52 fun v1=>zB v1 h fun v2=>K (F3.fr d c f g e p v z H L a b l i q s u w y A D B E F G P v2 x27 x28 Q U V W Z x34 x35 x36 x37 x38 x39 x40 x41 x42 x43 x44 x45 x46 x47 x48 x49 x50 x51 x52 x53 x54 x55 x56 x57 x58) h nx:=by kernel_rfl
theorem F3.zuv:IR.run F3.t103 C N O K (F3.fr d c f g e p v z H L a b l i q s u w y A D B E F G P M x27 x28 Q U V W Z x34 x35 x36 x37 x38 x39 x40 x41 x42 x43 x44 x45 x46 x47 x48 x49 x50 x51 x52 x53 x54 x55 x56 x57 x58) h nx =
 sLen M fun v1=>zf .neq .int v1 e fun v2=>K (F3.fr d c f g e p v z H L a b l i q s u w y A D B E F G P M x27 x28 Q U V W Z x34 x35 x36 x37 x38 x39 x40 x41 x42 x43 x44 x45 x46 x47 x48 x49 x50 x51 x52 x53 v2 x55 x56 x57 x58) h nx:=by kernel_rfl
theorem F3.v54:Arg.ev (.t (.of 54)) ⟨(F3.fr d c f g e p v z H L a b l i q s u w y A D B E F G P M x27 x28 Q U V W Z x34 x35 x36 x37 x38 x39 x40 x41 x42 x43 x44 x45 x46 x47 x48 x49 x50 x51 x52 x53 x54 x55 x56 x57 x58),[]⟩=x54:=by kernel_rfl
theorem F3.zuw:IR.run F3.t108 C N O K (F3.fr d c f g e p v z H L a b l i q s u w y A D B E F G P M x27 x28 Q U V W Z x34 x35 x36 x37 x38 x39 x40 x41 x42 x43 x44 x45 x46 x47 x48 x49 x50 x51 x52 x53 x54 x55 x56 x57 x58) h nx =
 zK 2 f h fun v1=>zJ 0 f fun v2=>zB v2 h fun v3=>kZ 1 M (some v3) none none fun v4=>C.fn 15 (.of 15) [v1,v4] h nx fun v5 h6 n7=>K (F3.fr d c f g e p v z H L a b l i q s u w y A D B E F G P M v5 x28 Q U V W Z x34 x35 x36 x37 x38 x39 x40 x41 x42 x43 x44 x45 x46 x47 x48 x49 x50 x51 x52 x53 x54 x55 x56 x57 x58) h6 n7:=by kernel_rfl
theorem F3.zux:IR.run F3.t109 C N O K (F3.fr d c f g e p v z H L a b l i q s u w y A D B E F G P M x27 x28 Q U V W Z x34 x35 x36 x37 x38 x39 x40 x41 x42 x43 x44 x45 x46 x47 x48 x49 x50 x51 x52 x53 x54 x55 x56 x57 x58) h nx =
 zJ 0 f fun v1=>zB v1 h fun v2=>K (F3.fr d c f g e p v z H L a b l i q s u w y A D B E F G P M x27 x28 Q U V W Z x34 x35 x36 x37 x38 x39 x40 x41 x42 x43 x44 x45 x46 x47 x48 x49 x50 x51 x52 x53 x54 v2 (I 0) x57 x58) h nx:=by kernel_rfl
theorem F3.zuy:IR.run F3.t110 C N O K (F3.fr d c f g e p v z H L a b l i q s u w y A D B E F G P M x27 x28 Q U V W Z x34 x35 x36 x37 x38 x39 x40 x41 x42 x43 x44 x45 x46 x47 x48 x49 x50 x51 x52 x53 x54 x55 x56 x57 x58) h nx =
 zf .lss .int x56 x55 fun v1=>K (F3.fr d c f g e p v z H L a b l i q s u w y A D B E F G P M x27 x28 Q U V W Z x34 x35 x36 x37 x38 x39 x40 x41 x42 x43 x44 x45 x46 x47 x48 x49 x50 x51 x52 x53 x54 x55 x56 v1 x58) h nx:=by kernel_rfl
theorem F3.v57:Arg.ev (.t (.of 57)) ⟨(F3.fr d c f g e p v z H L a b l i q s u w y A D B E F G P M x27 x28 Q U V W Z x34 x35 x36 x37 x38 x39 x40 x41 x42 x43 x44 x45 x46 x47 x48 x49 x50 x51 x52 x53 x54 x55 x56 x57 x58),[]⟩=x57:=by kernel_rfl
theorem F3.zuz:IR.run F3.t112 C N O K (F3.fr d c f g e p v z H L a b l i q s u w y A D B E F G P M x27 x28 Q U V W Z x34 x35 x36 x37 x38 x39 x40 x41 x42 x43 x44 x45 x46 x47 x48 x49 x50 x51 x52 x53 x54 x55 x56 x57 x58) h nx =
 K (F3.fr d c f g e p v z H L a b l i q s u w y A D B E F G P M x27 x56 Q U V W Z x34 x35 x36 x37 x38 x39 x40 x41 x42 x43 x44 x45 x46 x47 x48 x49 x50 x51 x52 x53 x54 x55 x56 x57 x58) h nx:=by kernel_rfl
theorem F3.zu0:IR.run F3.t113 C N O K (F3.fr d c f g e p v z H L a b l i q s u w y A D B E F G P M x27 x28 Q U V W Z x34 x35 x36 x37 x38 x39 x40 x41 x42 x43 x44 x45 x46 x47 x48 x49 x50 x51 x52 x53 x54 x55 x56 x57 x58) h nx =
 zO 1 M x28 fun v1=>zB v1 h fun v2=>zO 1 x27 x28 fun v3=>zB v3 h fun v4=>zf .add .int v2 v4 fun v5=>yR 1 2 F (I 0) fun v6=>zB v6 h fun v7=>zf .neq .int v5 v7 fun v8=>K (F3.fr d c f g e p v z H L a b l i q s u w y A D B E F G P M x27 x28 Q U V W Z x34 x35 x36 x37 x38 x39 x40 x41 x42 x43 x44 x45 x46 x47 x48 x49 x50 x51 x52 x53 x54 x55 x56 x57 v8) h nx:=by kernel_rfl
theorem F3.v58:Arg.ev (.t (.of 58)) ⟨(F3.fr d c f g e p v z H L a b l i q s u w y A D B E F G P M x27 x28 Q U V W Z x34 x35 x36 x37 x38 x39 x40 x41 x42 x43 x44 x45 x46 x47 x48 x49 x50 x51 x52 x53 x54 x55 x56 x57 x58),[]⟩=x58:=by kernel_rfl
theorem F3.zu1:IR.run F3.t120 C N O K (F3.fr d c f g e p v z H L a b l i q s u w y A D B E F G P M x27 x28 Q U V W Z x34 x35 x36 x37 x38 x39 x40 x41 x42 x43 x44 x45 x46 x47 x48 x49 x50 x51 x52 x53 x54 x55 x56 x57 x58) h nx =
 zf .add .int x56 (I 1) fun v1=>K (F3.fr d c f g e p v z H L a b l i q s u w y A D B E F G P M x27 x28 Q U V W Z x34 x35 x36 x37 x38 x39 x40 x41 x42 x43 x44 x45 x46 x47 x48 x49 x50 x51 x52 x53 x54 x55 v1 x57 x58) h nx:=by kernel_rfl
theorem F3.zu3 (Inv:Nat->AV->T Blk->Pa->Prop) {m:Nat} (hm:m<N) (hi:Inv m x56 h nx)
  (step:∀ (m:Nat) (z3 z28 z56 z57 z58:AV) (h:T Blk) (nx:Pa) (R:Ks Prop),Inv m z56 h nx->(∀ (m':Nat) (w3 w28 w56 w57 w58:AV) (h':T Blk) (nx':Pa),m'<m->Inv m' w56 h' nx'->R (F3.fr d c f w3 e p v z H L a b l i q s u w y A D B E F G P M x27 w28 Q U V W Z x34 x35 x36 x37 x38 x39 x40 x41 x42 x43 x44 x45 x46 x47 x48 x49 x50 x51 x52 x53 x54 x55 w56 w57 w58) h' nx'=.ok True)->IR.run F3.t123 C N O R (F3.fr d c f z3 e p v z H L a b l i q s u w y A D B E F G P M x27 z28 Q U V W Z x34 x35 x36 x37 x38 x39 x40 x41 x42 x43 x44 x45 x46 x47 x48 x49 x50 x51 x52 x53 x54 x55 z56 z57 z58) h nx=.ok True) :
  IR.run F3.t124 C N O K (F3.fr d c f g e p v z H L a b l i q s u w y A D B E F G P M x27 x28 Q U V W Z x34 x35 x36 x37 x38 x39 x40 x41 x42 x43 x44 x45 x46 x47 x48 x49 x50 x51 x52 x53 x54 x55 x56 x57 x58) h nx=.ok True:=by
 rw [F3.t124];refine yB (fun m tm h nx=>∃ z3 z28 z56 z57 z58,tm=(F3.fr d c f z3 e p v z H L a b l i q s u w y A D B E F G P M x27 z28 Q U V W Z x34 x35 x36 x37 x38 x39 x40 x41 x42 x43 x44 x45 x46 x47 x48 x49 x50 x51 x52 x53 x54 x55 z56 z57 z58)/\Inv m z56 h nx) ?_ hm ⟨_,_,_,_,_,rfl,hi⟩;rintro m tm h nx R ⟨z3,z28,z56,z57,z58,rfl,hi⟩ hR;exact step m z3 z28 z56 z57 z58 h nx R hi fun m' w3 w28 w56 w57 w58 h' nx' hlt hi'=>hR m' _ h' nx' hlt ⟨_,_,_,_,_,rfl,hi'⟩
theorem F3.zu4:IR.run F3.t131 C N O K (F3.fr d c f g e p v z H L a b l i q s u w y A D B E F G P M x27 x28 Q U V W Z x34 x35 x36 x37 x38 x39 x40 x41 x42 x43 x44 x45 x46 x47 x48 x49 x50 x51 x52 x53 x54 x55 x56 x57 x58) h nx =
 zf .add .int x52 (I 1) fun v1=>K (F3.fr d c f g e p v z H L a b l i q s u w y A D B E F G P M x27 x28 Q U V W Z x34 x35 x36 x37 x38 x39 x40 x41 x42 x43 x44 x45 x46 x47 x48 x49 x50 x51 v1 x53 x54 x55 x56 x57 x58) h nx:=by kernel_rfl
theorem F3.zu5 (Inv:Nat->AV->T Blk->Pa->Prop) {m:Nat} (hm:m<N) (hi:Inv m x52 h nx)
  (step:∀ (m:Nat) (z3 zZ z27 z28 z52 z53 z54 z55 z56 z57 z58:AV) (h:T Blk) (nx:Pa) (R:Ks Prop),Inv m z52 h nx->(∀ (m':Nat) (w3 wQ w27 w28 w52 w53 w54 w55 w56 w57 w58:AV) (h':T Blk) (nx':Pa),m'<m->Inv m' w52 h' nx'->R (F3.fr d c f w3 e p v z H L a b l i q s u w y A D B E F G P wQ w27 w28 Q U V W Z x34 x35 x36 x37 x38 x39 x40 x41 x42 x43 x44 x45 x46 x47 x48 x49 x50 x51 w52 w53 w54 w55 w56 w57 w58) h' nx'=.ok True)->IR.run F3.t134 C N O R (F3.fr d c f z3 e p v z H L a b l i q s u w y A D B E F G P zZ z27 z28 Q U V W Z x34 x35 x36 x37 x38 x39 x40 x41 x42 x43 x44 x45 x46 x47 x48 x49 x50 x51 z52 z53 z54 z55 z56 z57 z58) h nx=.ok True) :
  IR.run F3.t135 C N O K (F3.fr d c f g e p v z H L a b l i q s u w y A D B E F G P M x27 x28 Q U V W Z x34 x35 x36 x37 x38 x39 x40 x41 x42 x43 x44 x45 x46 x47 x48 x49 x50 x51 x52 x53 x54 x55 x56 x57 x58) h nx=.ok True:=by
 rw [F3.t135];refine yB (fun m tm h nx=>∃ z3 zZ z27 z28 z52 z53 z54 z55 z56 z57 z58,tm=(F3.fr d c f z3 e p v z H L a b l i q s u w y A D B E F G P zZ z27 z28 Q U V W Z x34 x35 x36 x37 x38 x39 x40 x41 x42 x43 x44 x45 x46 x47 x48 x49 x50 x51 z52 z53 z54 z55 z56 z57 z58)/\Inv m z52 h nx) ?_ hm ⟨_,_,_,_,_,_,_,_,_,_,_,rfl,hi⟩;rintro m tm h nx R ⟨z3,zZ,z27,z28,z52,z53,z54,z55,z56,z57,z58,rfl,hi⟩ hR;exact step m z3 zZ z27 z28 z52 z53 z54 z55 z56 z57 z58 h nx R hi fun m' w3 wQ w27 w28 w52 w53 w54 w55 w56 w57 w58 h' nx' hlt hi'=>hR m' _ h' nx' hlt ⟨_,_,_,_,_,_,_,_,_,_,_,rfl,hi'⟩
theorem F3.v48:Arg.ev (.t (.of 48)) ⟨(F3.fr d c f g e p v z H L a b l i q s u w y A D B E F G P M x27 x28 Q U V W Z x34 x35 x36 x37 x38 x39 x40 x41 x42 x43 x44 x45 x46 x47 x48 x49 x50 x51 x52 x53 x54 x55 x56 x57 x58),[]⟩=x48:=by kernel_rfl
theorem F3.zu6:IR.run F3.t143 C N O K (F3.fr d c f g e p v z H L a b l i q s u w y A D B E F G P M x27 x28 Q U V W Z x34 x35 x36 x37 x38 x39 x40 x41 x42 x43 x44 x45 x46 x47 x48 x49 x50 x51 x52 x53 x54 x55 x56 x57 x58) h nx =
 C.fn 8 (.of 8) [] h nx fun v1 h2 n3=>K (F3.fr d c f v1 e p v z H L a b l i q s u w y A D B E F G P M x27 x28 Q U V W Z x34 x35 x36 x37 x38 x39 x40 x41 x42 x43 x44 x45 x46 x47 x48 x49 x50 x51 x52 x53 x54 x55 x56 x57 x58) h2 n3:=by kernel_rfl
theorem F3.tab:T.get none (.of 3) tbl=some F3:=by kernel_rfl
theorem F3.bind (k:T AV->OP):gA F3.params [a0,a1] F3.init k=k (F3.fr a0 a1 .undef .undef .undef .undef .undef .undef .undef .undef .undef .undef .undef .undef .undef .undef .undef .undef .undef .undef .undef .undef .undef .undef .undef .undef .undef .undef .undef .undef .undef .undef .undef .undef .undef .undef .undef .undef .undef .undef .undef .undef .undef .undef .undef .undef .undef .undef .undef .undef .undef .undef .undef .undef .undef .undef .undef .undef .undef):=by kernel_rfl
theorem F3.zdu:F3.body=F3.t154:=by kernel_rfl
theorem F3.go:zM tbl N C (.of 3) [a0,a1] h nx K0=IR.run F3.t154 C N (fnO F3.res K0) (xu F3.res K0) (F3.fr a0 a1 .undef .undef .undef .undef .undef .undef .undef .undef .undef .undef .undef .undef .undef .undef .undef .undef .undef .undef .undef .undef .undef .undef .undef .undef .undef .undef .undef .undef .undef .undef .undef .undef .undef .undef .undef .undef .undef .undef .undef .undef .undef .undef .undef .undef .undef .undef .undef .undef .undef .undef .undef .undef .undef .undef .undef .undef .undef) h nx:=by
 rw [zG F3.tab,F3.bind,F3.zdu];kernel_rfl
theorem F3.ret:xu F3.res K0 (F3.fr d c f g e p v z H L a b l i q s u w y A D B E F G P M x27 x28 Q U V W Z x34 x35 x36 x37 x38 x39 x40 x41 x42 x43 x44 x45 x46 x47 x48 x49 x50 x51 x52 x53 x54 x55 x56 x57 x58) h nx=K0 g h nx:=by kernel_rfl
end
end Go.Ev
namespace Go.Ev
open Go Go.Proofs
set_option maxRecDepth 100000
section
variable {N:Nat} {C:Calls Prop} {K0:Kw Prop} {K:Ks Prop} {h:T Blk} {nx:Pa} {d c f g e a0 a1 a2:AV} {O:gu Prop} {tm:T AV} {Kt:KTm} {r:List RO} {s0 s1 s2 s3 s4 s5 s6 s7 s8 s9 s10 s11 s12 s13 s14 s15 s16 s17 s18 s19 s20 s21 s22 s23 s24 s25 s26 s27 s28 s29 s30 s31 s32 s33 s34 s35 s36 s37 s38 s39 s40 s41 s42 s43 s44 s45 s46 s47 s48 s49 s50 s51 s52 s53 s54 s55 s56 s57 s58 s59:AV}
def F7.t0:IR:=.reg [.w (.loc (.of 3)) none (.box (.t (.of 0))),.q (.of 4) (.mv (.c (.bool false)))]
def F7.r1_2:List RO:=.q (.of 4) (.mv (.s 0))::[]
def F7.r1_1:List RO:=.p .push (some ((.s 2),true)) (.bin .eql .int (.s 0) (.c (I 0)))::.s (.pick (.s 3) (.s 0) (.c (.bool false)))::.s (.mv (.s 0))::.p .push (some ((.s 0),true)) (.zx 0 (.t (.of 3)))::.p .push (some ((.s 1),true)) (.load (.s 0))::.p .push (some ((.s 2),true)) (.mv (.t (.of 1)))::.p .push (some ((.s 3),true)) (.bin .leq .int (.s 1) (.s 0))::.s (.pick (.s 4) (.s 0) (.c (.bool false)))::F7.r1_2
def F7.r1_0:List RO:=.s (.zx 1 (.t (.of 3)))::.s (.load (.s 0))::.s (.len (.s 0))::.s (.mv (.t (.of 2)))::.s (.bin .leq .int (.s 1) (.s 0))::.s (.mv (.s 0))::.p .push (some ((.s 0),true)) (.zi 2 (.t (.of 3)))::.w .push (some ((.s 1),true)) (.call (.c (.fn 36 (.of 36) [])) [(.s 0)])::F7.r1_1
def F7.t1:IR:=.reg F7.r1_0
def F7.t2:IR:=.seq F7.t1 .ret
def F7.t3:IR:=.seq F7.t0 F7.t2
theorem F7.t0_s:IR.run F7.t0 C N O K (F7.fr d c f g e) h nx =
 fC d h nx fun v1 h2 n3=>K (F7.fr d c f v1 (.bool false)) h2 n3:=by kernel_rfl
theorem F7.t1_s:IR.run F7.t1 C N O K tm h nx=yO F7.r1_0 C ⟨tm,[]⟩ h nx (fun tm h nx=>K tm.v h nx):=qS ..
theorem F7.zhq:yO (.s (.zx 1 (.t (.of 3)))::.s (.load (.s 0))::.s (.len (.s 0))::.s (.mv (.t (.of 2)))::.s (.bin .leq .int (.s 1) (.s 0))::.s (.mv (.s 0))::.p .push (some ((.s 0),true)) (.zi 2 (.t (.of 3)))::.w .push (some ((.s 1),true)) (.call (.c (.fn 36 (.of 36) [])) [(.s 0)])::r) C ⟨(F7.fr d c f g e),[]⟩ h nx Kt =
 zJ 1 g fun v1=>zB v1 h fun v2=>sLen v2 fun v3=>zf .leq .int v3 f fun v4=>sG v4 true (fun k=>zK 2 g h k) fun v5=>sGW v4 true (fun k=>C.fn 36 (.of 36) [v5] h nx k) h nx fun v6 h7 n8=>yO r C ⟨(F7.fr d c f g e),v6::v5::v4::v4::f::v3::v2::v1::[]⟩ h7 n8 Kt:=by kernel_rfl
theorem F7.zdr:yO (.p .push (some ((.s 2),true)) (.bin .eql .int (.s 0) (.c (I 0)))::.s (.pick (.s 3) (.s 0) (.c (.bool false)))::.s (.mv (.s 0))::.p .push (some ((.s 0),true)) (.zx 0 (.t (.of 3)))::.p .push (some ((.s 1),true)) (.load (.s 0))::.p .push (some ((.s 2),true)) (.mv (.t (.of 1)))::.p .push (some ((.s 3),true)) (.bin .leq .int (.s 1) (.s 0))::.s (.pick (.s 4) (.s 0) (.c (.bool false)))::r) C ⟨(F7.fr d c f g e),s0::s1::s2::s3::s4::s5::s6::s7::[]⟩ h nx Kt =
 sG s2 true (fun k=>zf .eql .int s0 (I 0) k) fun v1=>jN s2 v1 (.bool false) fun v2=>sG v2 true (fun k=>zJ 0 g k) fun v3=>sG v2 true (fun k=>zB v3 h k) fun v4=>sG v2 true (fun k=>k c) fun v5=>sG v2 true (fun k=>zf .leq .int v4 v5 k) fun v6=>jN v2 v6 (.bool false) fun v7=>yO r C ⟨(F7.fr d c f g e),v7::v6::v5::v4::v3::v2::v2::v1::s0::s1::s2::s3::s4::s5::s6::s7::[]⟩ h nx Kt:=by kernel_rfl
theorem F7.zac:yO (.q (.of 4) (.mv (.s 0))::[]) C ⟨(F7.fr d c f g e),s0::s1::s2::s3::s4::s5::s6::s7::s8::s9::s10::s11::s12::s13::s14::s15::[]⟩ h nx Kt =
 Kt ⟨(F7.fr d c f g s0),s0::s1::s2::s3::s4::s5::s6::s7::s8::s9::s10::s11::s12::s13::s14::s15::[]⟩ h nx:=by kernel_rfl
theorem F7.tab:T.get none (.of 7) tbl=some F7:=by kernel_rfl
theorem F7.bind (k:T AV->OP):gA F7.params [a0,a1,a2] F7.init k=k (F7.fr a0 a1 a2 .undef .undef):=by kernel_rfl
theorem F7.zdu:F7.body=F7.t3:=by kernel_rfl
theorem F7.go:zM tbl N C (.of 7) [a0,a1,a2] h nx K0=IR.run F7.t3 C N (fnO F7.res K0) (xu F7.res K0) (F7.fr a0 a1 a2 .undef .undef) h nx:=by
 rw [zG F7.tab,F7.bind,F7.zdu];kernel_rfl
theorem F7.ret:xu F7.res K0 (F7.fr d c f g e) h nx=K0 e h nx:=by kernel_rfl
end
end Go.Ev
