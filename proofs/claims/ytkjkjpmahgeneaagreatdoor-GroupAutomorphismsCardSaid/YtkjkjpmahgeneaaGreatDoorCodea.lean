import Derived.Test.YtkjkjpmahgeneaaGreatDoorIrT
import Derived.KernelRfl
import Derived.Test.YtkjkjpmahgeneaaGreatDoorEvD
set_option linter.unusedSimpArgs false
set_option linter.unusedVariables false
noncomputable section
namespace Go.Ev
open Go Go.Proofs
set_option maxRecDepth 100000
variable {N:Nat} {C:Calls Prop} {K0:Kw Prop} {K R:Ks Prop} {h:T Blk} {nx:Pa} {c b g f d i e a0 a1 a2 l p z a o s q u v w y A B D F E G H:AV}
theorem F82.aZ (X3:IR) (O:uh Prop) (t:T AV):IR.run (F82.g2 X3) C N O K t h nx=IR.run X3 C N (O.blk 0 K) K t h nx:=by kernel_rfl
theorem F82.tab:T.get none (.of 82) tbl=some F82:=by kernel_rfl
theorem F82.go:zX tbl N C (.of 82) [a0,a1] h nx K0 =
 sLen a0 fun v1=>sLen a1 fun v2=>zy .neq .int v1 v2 fun v3=>yC v3 (K0 (.bool false) h nx) (IR.run F82.b2 C N (fnO F82.res K0) (IR.run F82.b9 C N (fnO F82.res K0) (wo F82.res K0)) (F82.fr a0 a1 (.bool false) (I 0) v3 .undef .undef) h nx):=by
 rw [zJ F82.tab];kernel_rfl
theorem F82.L2 (Inv:Nat->AV->T Blk->Pa->Prop) {m:Nat} (hm:m<N) (hi:Inv m f h nx)
  (step:∀ (m:Nat) (z2 z3 z5 z6:AV) (h:T Blk) (nx:Pa) (R:Ks Prop),Inv m z3 h nx->(∀ (m':Nat) (w2 w3 w5 w6:AV) (h':T Blk) (nx':Pa),m'<m->Inv m' w3 h' nx'->R (F82.fr c b w2 w3 d w5 w6) h' nx'=.ok True) ->
   (sLen c fun v1=>zy .lss .int z3 v1 fun v2=>yC v2 (zQ 1 c z3 fun v3=>zE v3 h fun v4=>zQ 1 b z3 fun v5=>zE v5 h fun v6=>zy .neq .int v4 v6 fun v7=>yC v7 (K0 (.bool false) h nx) (zy .add .int z3 (I 1) fun v8=>R (F82.fr c b z2 v8 d v2 v7) h nx)) (K (F82.fr c b z2 z3 d v2 z6) h nx))=.ok True) :
  IR.run F82.b2 C N (fnO F82.res K0) K (F82.fr c b g f d i e) h nx=.ok True:=by
 rw [F82.b2,F82.aZ,F82.b3];refine yH (fun m tm h nx=>∃ z2 z3 z5 z6,tm=(F82.fr c b z2 z3 d z5 z6)/\Inv m z3 h nx) ?_ hm ⟨_,_,_,_,rfl,hi⟩;rintro m tm h nx R ⟨z2,z3,z5,z6,rfl,hi⟩ hR;refine Eq.trans ?_ (step m z2 z3 z5 z6 h nx R hi fun m' w2 w3 w5 w6 h' nx' hlt hi'=>hR m' _ h' nx' hlt ⟨_,_,_,_,rfl,hi'⟩)
 kernel_rfl
theorem F82.k9:IR.run F82.b9 C N (fnO F82.res K0) K (F82.fr c b g f d i e) h nx =
 K0 (.bool true) h nx:=by kernel_rfl
theorem ak.tab:T.get none (.of 106) tbl=some ak:=by kernel_rfl
theorem ak.go:zX tbl N C (.of 106) [a0] h nx K0 =
 zy .eql (.nil .sl) a0 .zf fun v1=>yC v1 (K0 .zf h nx) (yV 1 0 [(I 0)] [] h nx fun v2 h3 n4=>sJ 1 8 v2 a0 h3 n4 fun v5 h6 n7=>K0 v5 h6 n7):=by
 rw [zJ ak.tab];kernel_rfl
theorem oK.tab:T.get none (.of 217) tbl=some oK:=by kernel_rfl
theorem oK.go:zX tbl N C (.of 217) [a0,a1] h nx K0 =
 zE a1 h fun v1=>C.fn 158 (.of 158) [a0,v1] h nx fun v2 h3 n4=>K0 v2 h3 n4:=by
 rw [zJ oK.tab];kernel_rfl
theorem oL.tab:T.get none (.of 216) tbl=some oL:=by kernel_rfl
theorem oL.go:zX tbl N C (.of 216) [a0,a1] h nx K0 =
 C.fn 259 (.of 259) [a0,a1] h nx fun v1 h2 n3=>zy .geq .int v1 (I 0) fun v4=>K0 v4 h2 n3:=by
 rw [zJ oL.tab];kernel_rfl
theorem uj.fJ (X2:IR) (O:uh Prop) (t:T AV):IR.run (uj.g1 X2) C N O K t h nx=IR.run X2 C N (O.blk 0 K) K t h nx:=by kernel_rfl
theorem uj.tab:T.get none (.of 259) tbl=some uj:=by kernel_rfl
theorem uj.go:zX tbl N C (.of 259) [a0,a1] h nx K0 =
 sLen a0 fun v1=>IR.run uj.b1 C N (fnO uj.res K0) (IR.run uj.b8 C N (fnO uj.res K0) (wo uj.res K0)) (uj.fr a0 a1 (I 0) .undef v1 (I 0) .undef .undef) h nx:=by
 rw [zJ uj.tab];kernel_rfl
theorem uj.L1 (Inv:Nat->AV->T Blk->Pa->Prop) {m:Nat} (hm:m<N) (hi:Inv m i h nx)
  (step:∀ (m:Nat) (z2 z3 z5 z6 z7:AV) (h:T Blk) (nx:Pa) (R:Ks Prop),Inv m z5 h nx->(∀ (m':Nat) (w2 w3 w5 w6 w7:AV) (h':T Blk) (nx':Pa),m'<m->Inv m' w5 h' nx'->R (uj.fr c b w2 w3 d w5 w6 w7) h' nx'=.ok True) ->
   (zy .lss .int z5 d fun v1=>yC v1 (zQ 1 c z5 fun v2=>zE v2 h fun v3=>dU C b [v3] h nx fun v4 h5 n6=>yC v4 (K0 z5 h5 n6) (zy .add .int z5 (I 1) fun v7=>R (uj.fr c b z2 z5 d v7 v1 v4) h5 n6)) (K (uj.fr c b z2 z3 d z5 v1 z7) h nx))=.ok True) :
  IR.run uj.b1 C N (fnO uj.res K0) K (uj.fr c b g f d i e l) h nx=.ok True:=by
 rw [uj.b1,uj.fJ,uj.b2];refine yH (fun m tm h nx=>∃ z2 z3 z5 z6 z7,tm=(uj.fr c b z2 z3 d z5 z6 z7)/\Inv m z5 h nx) ?_ hm ⟨_,_,_,_,_,rfl,hi⟩;rintro m tm h nx R ⟨z2,z3,z5,z6,z7,rfl,hi⟩ hR;refine Eq.trans ?_ (step m z2 z3 z5 z6 z7 h nx R hi fun m' w2 w3 w5 w6 w7 h' nx' hlt hi'=>hR m' _ h' nx' hlt ⟨_,_,_,_,_,rfl,hi'⟩)
 kernel_rfl
theorem uj.k8:IR.run uj.b8 C N (fnO uj.res K0) K (uj.fr c b g f d i e l) h nx =
 K0 (I (-1)) h nx:=by kernel_rfl
theorem gq.aZ (X3:IR) (O:uh Prop) (t:T AV):IR.run (gq.g2 X3) C N O K t h nx=IR.run X3 C N (O.blk 0 K) K t h nx:=by kernel_rfl
theorem gq.tab:T.get none (.of 158) tbl=some gq:=by kernel_rfl
theorem gq.go:zX tbl N C (.of 158) [a0,a1] h nx K0 =
 sLen a0 fun v1=>sLen a1 fun v2=>zy .neq .int v1 v2 fun v3=>yC v3 (K0 (.bool false) h nx) (sLen a0 fun v4=>IR.run gq.b2 C N (fnO gq.res K0) (IR.run gq.b9 C N (fnO gq.res K0) (wo gq.res K0)) (gq.fr a0 a1 (.bool false) .undef v3 v4 (I 0) .undef .undef) h nx):=by
 rw [zJ gq.tab];kernel_rfl
theorem gq.L2 (Inv:Nat->AV->T Blk->Pa->Prop) {m:Nat} (hm:m<N) (hi:Inv m e h nx)
  (step:∀ (m:Nat) (z2 z3 z6 z7 z8:AV) (h:T Blk) (nx:Pa) (R:Ks Prop),Inv m z6 h nx->(∀ (m':Nat) (w2 w3 w6 w7 w8:AV) (h':T Blk) (nx':Pa),m'<m->Inv m' w6 h' nx'->R (gq.fr c b w2 w3 d i w6 w7 w8) h' nx'=.ok True) ->
   (zy .lss .int z6 i fun v1=>yC v1 (zQ 1 c z6 fun v2=>zE v2 h fun v3=>zQ 1 b z6 fun v4=>zE v4 h fun v5=>zy .neq .int v3 v5 fun v6=>yC v6 (K0 (.bool false) h nx) (zy .add .int z6 (I 1) fun v7=>R (gq.fr c b z2 z6 d i v7 v1 v6) h nx)) (K (gq.fr c b z2 z3 d i z6 v1 z8) h nx))=.ok True) :
  IR.run gq.b2 C N (fnO gq.res K0) K (gq.fr c b g f d i e l p) h nx=.ok True:=by
 rw [gq.b2,gq.aZ,gq.b3];refine yH (fun m tm h nx=>∃ z2 z3 z6 z7 z8,tm=(gq.fr c b z2 z3 d i z6 z7 z8)/\Inv m z6 h nx) ?_ hm ⟨_,_,_,_,_,rfl,hi⟩;rintro m tm h nx R ⟨z2,z3,z6,z7,z8,rfl,hi⟩ hR;refine Eq.trans ?_ (step m z2 z3 z6 z7 z8 h nx R hi fun m' w2 w3 w6 w7 w8 h' nx' hlt hi'=>hR m' _ h' nx' hlt ⟨_,_,_,_,_,rfl,hi'⟩)
 kernel_rfl
theorem gq.k9:IR.run gq.b9 C N (fnO gq.res K0) K (gq.fr c b g f d i e l p) h nx =
 K0 (.bool true) h nx:=by kernel_rfl
theorem uo.fJ (X2:IR) (O:uh Prop) (t:T AV):IR.run (uo.g1 X2) C N O K t h nx=IR.run X2 C N (O.blk 0 K) K t h nx:=by kernel_rfl
theorem uo.tab:T.get none (.of 102) tbl=some uo:=by kernel_rfl
theorem uo.go:zX tbl N C (.of 102) [a0,a1] h nx K0 =
 IR.run uo.b1 C N (fnO uo.res K0) (IR.run uo.b8 C N (fnO uo.res K0) (wo uo.res K0)) (uo.fr a0 a1 (.bool false) (I 0) .undef .undef) h nx:=by
 rw [zJ uo.tab];kernel_rfl
theorem uo.L1 (Inv:Nat->AV->T Blk->Pa->Prop) {m:Nat} (hm:m<N) (hi:Inv m f h nx)
  (step:∀ (m:Nat) (z2 z3 z4 z5:AV) (h:T Blk) (nx:Pa) (R:Ks Prop),Inv m z3 h nx->(∀ (m':Nat) (w2 w3 w4 w5:AV) (h':T Blk) (nx':Pa),m'<m->Inv m' w3 h' nx'->R (uo.fr c b w2 w3 w4 w5) h' nx'=.ok True) ->
   (sLen c fun v1=>zy .lss .int z3 v1 fun v2=>yC v2 (zQ 1 c z3 fun v3=>zE v3 h fun v4=>C.fn 82 (.of 82) [v4,b] h nx fun v5 h6 n7=>yC v5 (K0 (.bool true) h6 n7) (zy .add .int z3 (I 1) fun v8=>R (uo.fr c b z2 v8 v2 v5) h6 n7)) (K (uo.fr c b z2 z3 v2 z5) h nx))=.ok True) :
  IR.run uo.b1 C N (fnO uo.res K0) K (uo.fr c b g f d i) h nx=.ok True:=by
 rw [uo.b1,uo.fJ,uo.b2];refine yH (fun m tm h nx=>∃ z2 z3 z4 z5,tm=(uo.fr c b z2 z3 z4 z5)/\Inv m z3 h nx) ?_ hm ⟨_,_,_,_,rfl,hi⟩;rintro m tm h nx R ⟨z2,z3,z4,z5,rfl,hi⟩ hR;refine Eq.trans ?_ (step m z2 z3 z4 z5 h nx R hi fun m' w2 w3 w4 w5 h' nx' hlt hi'=>hR m' _ h' nx' hlt ⟨_,_,_,_,rfl,hi'⟩)
 kernel_rfl
theorem uo.k8:IR.run uo.b8 C N (fnO uo.res K0) K (uo.fr c b g f d i) h nx =
 K0 (.bool false) h nx:=by kernel_rfl
theorem uq.fJ (X2:IR) (O:uh Prop) (t:T AV):IR.run (uq.g1 X2) C N O K t h nx=IR.run X2 C N (O.blk 0 K) K t h nx:=by kernel_rfl
theorem uq.tab:T.get none (.of 165) tbl=some uq:=by kernel_rfl
theorem uq.go:zX tbl N C (.of 165) [a0] h nx K0 =
 sLen a0 fun v1=>IR.run uq.b1 C N (fnO uq.res K0) (IR.run uq.b8 C N (fnO uq.res K0) (wo uq.res K0)) (uq.fr a0 (I 0) .undef a0 v1 (I 0) .undef .undef) h nx:=by
 rw [zJ uq.tab];kernel_rfl
theorem uq.L1 (Inv:Nat->AV->T Blk->Pa->Prop) {m:Nat} (hm:m<N) (hi:Inv m i h nx)
  (step:∀ (m:Nat) (z1 z2 z5 z6 z7:AV) (h:T Blk) (nx:Pa) (R:Ks Prop),Inv m z5 h nx->(∀ (m':Nat) (w1 w2 w5 w6 w7:AV) (h':T Blk) (nx':Pa),m'<m->Inv m' w5 h' nx'->R (uq.fr c w1 w2 f d w5 w6 w7) h' nx'=.ok True) ->
   (zy .lss .int z5 d fun v1=>yC v1 (zQ 1 f z5 fun v2=>zE v2 h fun v3=>zy .neq .int v3 (I 0) fun v4=>yC v4 (K0 v3 h nx) (zy .add .int z5 (I 1) fun v5=>R (uq.fr c z1 v3 f d v5 v1 v4) h nx)) (K (uq.fr c z1 z2 f d z5 v1 z7) h nx))=.ok True) :
  IR.run uq.b1 C N (fnO uq.res K0) K (uq.fr c b g f d i e l) h nx=.ok True:=by
 rw [uq.b1,uq.fJ,uq.b2];refine yH (fun m tm h nx=>∃ z1 z2 z5 z6 z7,tm=(uq.fr c z1 z2 f d z5 z6 z7)/\Inv m z5 h nx) ?_ hm ⟨_,_,_,_,_,rfl,hi⟩;rintro m tm h nx R ⟨z1,z2,z5,z6,z7,rfl,hi⟩ hR;refine Eq.trans ?_ (step m z1 z2 z5 z6 z7 h nx R hi fun m' w1 w2 w5 w6 w7 h' nx' hlt hi'=>hR m' _ h' nx' hlt ⟨_,_,_,_,_,rfl,hi'⟩)
 kernel_rfl
theorem uq.k8:IR.run uq.b8 C N (fnO uq.res K0) K (uq.fr c b g f d i e l) h nx =
 K0 (I 0) h nx:=by kernel_rfl
theorem aF.tab:T.get none (.of 167) tbl=some aF:=by kernel_rfl
theorem aF.go:zX tbl N C (.of 167) [a0,a1] h nx K0 =
 yC a0 (K0 a1 h nx) (K0 (I 0) h nx):=by
 rw [zJ aF.tab];kernel_rfl
theorem F32.aZ (X3:IR) (O:uh Prop) (t:T AV):IR.run (F32.g2 X3) C N O K t h nx=IR.run X3 C N (O.blk 0 K) K t h nx:=by kernel_rfl
theorem F32.tab:T.get none (.of 32) tbl=some F32:=by kernel_rfl
theorem F32.go:zX tbl N C (.of 32) [a0,a1,a2] h nx K0 =
 rW a0 h nx fun v1 h2 n3=>zM 1 v1 fun v4=>zE v4 h2 fun v5=>sLen v5 fun v6=>zy .gtr .int v6 a2 fun v7=>yC v7 (K0 (.bool false) h2 n3) (IR.run F32.b2 C N (fnO F32.res K0) (IR.run F32.b9 C N (fnO F32.res K0) (wo F32.res K0)) (F32.fr a0 a1 a2 v1 (.bool false) (I 0) v7 .undef .undef) h2 n3):=by
 rw [zJ F32.tab];kernel_rfl
theorem F32.L2 (Inv:Nat->AV->T Blk->Pa->Prop) {m:Nat} (hm:m<N) (hi:Inv m i h nx)
  (step:∀ (m:Nat) (z4 z5 z7 z8:AV) (h:T Blk) (nx:Pa) (R:Ks Prop),Inv m z5 h nx->(∀ (m':Nat) (w4 w5 w7 w8:AV) (h':T Blk) (nx':Pa),m'<m->Inv m' w5 h' nx'->R (F32.fr c b g f w4 w5 e w7 w8) h' nx'=.ok True) ->
   (zM 1 f fun v1=>zE v1 h fun v2=>sLen v2 fun v3=>zy .lss .int z5 v3 fun v4=>yC v4 (zM 1 f fun v5=>zE v5 h fun v6=>zQ 1 v6 z5 fun v7=>zE v7 h fun v8=>sLen v8 fun v9=>zy .gtr .int v9 b fun vA=>yC vA (K0 (.bool false) h nx) (zy .add .int z5 (I 1) fun vB=>R (F32.fr c b g f z4 vB e v4 vA) h nx)) (K (F32.fr c b g f z4 z5 e v4 z8) h nx))=.ok True) :
  IR.run F32.b2 C N (fnO F32.res K0) K (F32.fr c b g f d i e l p) h nx=.ok True:=by
 rw [F32.b2,F32.aZ,F32.b3];refine yH (fun m tm h nx=>∃ z4 z5 z7 z8,tm=(F32.fr c b g f z4 z5 e z7 z8)/\Inv m z5 h nx) ?_ hm ⟨_,_,_,_,rfl,hi⟩;rintro m tm h nx R ⟨z4,z5,z7,z8,rfl,hi⟩ hR;refine Eq.trans ?_ (step m z4 z5 z7 z8 h nx R hi fun m' w4 w5 w7 w8 h' nx' hlt hi'=>hR m' _ h' nx' hlt ⟨_,_,_,_,rfl,hi'⟩)
 kernel_rfl
theorem F32.k9:IR.run F32.b9 C N (fnO F32.res K0) K (F32.fr c b g f d i e l p) h nx =
 K0 (.bool true) h nx:=by kernel_rfl
theorem F33.zr3 (X11:IR) (O:uh Prop) (t:T AV):IR.run (F33.g10 X11) C N O K t h nx=IR.run X11 C N (O.blk 2 K) K t h nx:=by kernel_rfl
theorem F33.ztv (X4:IR) (O:uh Prop) (t:T AV):IR.run (F33.g3 X4) C N O K t h nx=IR.run X4 C N (O.blk 0 K) K t h nx:=by kernel_rfl
theorem F33.tab:T.get none (.of 33) tbl=some F33:=by kernel_rfl
theorem F33.go:zX tbl N C (.of 33) [a0] h nx K0 =
 rW a0 h nx fun v1 h2 n3=>zM 0 v1 fun v4=>zE v4 h2 fun v5=>zy .lss .int v5 (I 1) fun v6=>sG v6 false (fun k=>zM 0 v1 k) fun v7=>sG v6 false (fun k=>zE v7 h2 k) fun v8=>sG v6 false (fun k=>zy .gtr .int v8 (I 256) k) fun v9=>gY v6 (.bool true) v9 fun vA=>yC vA (K0 (I 3) h2 n3) (zM 1 v1 fun vB=>zE vB h2 fun vC=>sLen vC fun vD=>zy .gtr .int vD (I 128) fun vE=>yC vE (K0 (I 5) h2 n3) (IR.run F33.b3 C N (fnO F33.res K0) (IR.run F33.b20 C N (fnO F33.res K0) (wo F33.res K0)) (F33.fr a0 v1 (I 0) (I 0) .undef .undef vA vE .undef .undef .undef .undef .undef .undef) h2 n3)):=by
 rw [zJ F33.tab];kernel_rfl
theorem F33.L3 (Inv:Nat->AV->T Blk->Pa->Prop) {m:Nat} (hm:m<N) (hi:Inv m f h nx)
  (step:∀ (m:Nat) (z2 z3 z4 z5 z8 z9 zA zB zC zD:AV) (h:T Blk) (nx:Pa) (R:Ks Prop),Inv m z3 h nx->(∀ (m':Nat) (w2 w3 w4 w5 w8 w9 wA wD wE wF:AV) (h':T Blk) (nx':Pa),m'<m->Inv m' w3 h' nx'->R (F33.fr c b w2 w3 w4 w5 e l w8 w9 wA wD wE wF) h' nx'=.ok True) ->
   (zM 1 b fun v1=>zE v1 h fun v2=>sLen v2 fun v3=>zy .lss .int z3 v3 fun v4=>yC v4 (zM 1 b fun v5=>zE v5 h fun v6=>zQ 1 v6 z3 fun v7=>zE v7 h fun v8=>sLen v8 fun v9=>zy .eql .int v9 (I 0) fun vA=>yC vA (K0 (I 12) h nx) (IR.run F33.b10 C N (((fnO F33.res K0).blk 0 K).blk 1 (IR.run F33.b19 C N ((fnO F33.res K0).blk 0 K) R)) (IR.run F33.b18 C N (((fnO F33.res K0).blk 0 K).blk 1 (IR.run F33.b19 C N ((fnO F33.res K0).blk 0 K) R)) (IR.run F33.b19 C N ((fnO F33.res K0).blk 0 K) R)) (F33.fr c b z2 z3 v8 (I 0) e l v4 vA zA zB zC zD) h nx)) (K (F33.fr c b z2 z3 z4 z5 e l v4 z9 zA zB zC zD) h nx))=.ok True) :
  IR.run F33.b3 C N (fnO F33.res K0) K (F33.fr c b g f d i e l p z a o s q) h nx=.ok True:=by
 rw [F33.b3,F33.ztv,F33.b4];refine yH (fun m tm h nx=>∃ z2 z3 z4 z5 z8 z9 zA zB zC zD,tm=(F33.fr c b z2 z3 z4 z5 e l z8 z9 zA zB zC zD)/\Inv m z3 h nx) ?_ hm ⟨_,_,_,_,_,_,_,_,_,_,rfl,hi⟩;rintro m tm h nx R ⟨z2,z3,z4,z5,z8,z9,zA,zB,zC,zD,rfl,hi⟩ hR;refine Eq.trans ?_ (step m z2 z3 z4 z5 z8 z9 zA zB zC zD h nx R hi fun m' w2 w3 w4 w5 w8 w9 wA wD wE wF h' nx' hlt hi'=>hR m' _ h' nx' hlt ⟨_,_,_,_,_,_,_,_,_,_,rfl,hi'⟩)
 kernel_rfl
theorem F33.k20:IR.run F33.b20 C N (fnO F33.res K0) K (F33.fr c b g f d i e l p z a o s q) h nx =
 K0 (I 0) h nx:=by kernel_rfl
theorem F33.k19 {E0:Ks Prop}:IR.run F33.b19 C N ((fnO F33.res K0).blk 0 E0) K (F33.fr c b g f d i e l p z a o s q) h nx =
 zy .add .int f (I 1) fun v1=>K (F33.fr c b g v1 d i e l p z a o s q) h nx:=by kernel_rfl
theorem F33.L10 {E0 E1:Ks Prop} (Inv:Nat->AV->T Blk->Pa->Prop) {m:Nat} (hm:m<N) (hi:Inv m i h nx)
  (step:∀ (m:Nat) (z2 z5 zA zB zC:AV) (h:T Blk) (nx:Pa) (R:Ks Prop),Inv m z5 h nx->(∀ (m':Nat) (w2 w5 wA wD wE:AV) (h':T Blk) (nx':Pa),m'<m->Inv m' w5 h' nx'->R (F33.fr c b w2 f d w5 e l p z wA wD wE q) h' nx'=.ok True) ->
   (sLen d fun v1=>zy .lss .int z5 v1 fun v2=>yC v2 (zQ 1 d z5 fun v3=>zE v3 h fun v4=>zy .lss .int v4 (I 0) fun v5=>sG v5 false (fun k=>k d) fun v6=>sG v5 false (fun k=>k z5) fun v7=>sG v5 false (fun k=>zQ 1 v6 v7 k) fun v8=>sG v5 false (fun k=>zE v8 h k) fun v9=>sG v5 false (fun k=>zM 0 b k) fun vA=>sG v5 false (fun k=>zE vA h k) fun vB=>sG v5 false (fun k=>zy .geq .int v9 vB k) fun vC=>gY v5 (.bool true) vC fun vD=>yC vD (K0 (I 10) h nx) ((IR.run F33.b16 C N (((((fnO F33.res K0).blk 0 E0).blk 1 E1).blk 2 K).blk 3 (IR.run F33.b17 C N ((((fnO F33.res K0).blk 0 E0).blk 1 E1).blk 2 K) R)) (IR.run F33.b17 C N ((((fnO F33.res K0).blk 0 E0).blk 1 E1).blk 2 K) R)) (F33.fr c b z2 f d z5 e l p z v2 vD zC q) h nx)) (K (F33.fr c b z2 f d z5 e l p z v2 zB zC q) h nx))=.ok True) :
  IR.run F33.b10 C N (((fnO F33.res K0).blk 0 E0).blk 1 E1) K (F33.fr c b g f d i e l p z a o s q) h nx=.ok True:=by
 rw [F33.b10,F33.zr3,F33.b11];refine yH (fun m tm h nx=>∃ z2 z5 zA zB zC,tm=(F33.fr c b z2 f d z5 e l p z zA zB zC q)/\Inv m z5 h nx) ?_ hm ⟨_,_,_,_,_,rfl,hi⟩;rintro m tm h nx R ⟨z2,z5,zA,zB,zC,rfl,hi⟩ hR;refine Eq.trans ?_ (step m z2 z5 zA zB zC h nx R hi fun m' w2 w5 wA wD wE h' nx' hlt hi'=>hR m' _ h' nx' hlt ⟨_,_,_,_,_,rfl,hi'⟩)
 kernel_rfl
theorem F33.k18 {E0 E1:Ks Prop}:IR.run F33.b18 C N (((fnO F33.res K0).blk 0 E0).blk 1 E1) K (F33.fr c b g f d i e l p z a o s q) h nx =
 zM 1 b fun v1=>zE v1 h fun v2=>gG 1 v2 none (some f) none fun v3=>C.fn 102 (.of 102) [v3,d] h nx fun v4 h5 n6=>yC v4 (K0 (I 9) h5 n6) (K (F33.fr c b g f d i e l p z a o s v4) h5 n6):=by kernel_rfl
theorem F33.k17 {E0 E1 E2:Ks Prop}:IR.run F33.b17 C N ((((fnO F33.res K0).blk 0 E0).blk 1 E1).blk 2 E2) K (F33.fr c b g f d i e l p z a o s q) h nx =
 zy .add .int i (I 1) fun v1=>K (F33.fr c b g f d v1 e l p z a o s q) h nx:=by kernel_rfl
theorem F33.k16 {E0 E1 E2 E3:Ks Prop}:IR.run F33.b16 C N (((((fnO F33.res K0).blk 0 E0).blk 1 E1).blk 2 E2).blk 3 E3) K (F33.fr c b g f d i e l p z a o s q) h nx =
 zy .gtr .int i (I 0) fun v1=>sG v1 true (fun k=>k d) fun v2=>sG v1 true (fun k=>k i) fun v3=>sG v1 true (fun k=>zQ 1 v2 v3 k) fun v4=>sG v1 true (fun k=>zE v4 h k) fun v5=>sG v1 true (fun k=>k d) fun v6=>sG v1 true (fun k=>k i) fun v7=>sG v1 true (fun k=>zy .sub .int v7 (I 1) k) fun v8=>sG v1 true (fun k=>zQ 1 v6 v8 k) fun v9=>sG v1 true (fun k=>zE v9 h k) fun vA=>sG v1 true (fun k=>zy .leq .int v5 vA k) fun vB=>gY v1 vB (.bool false) fun vC=>yC vC (K0 (I 11) h nx) (K (F33.fr c b g f d i e l p z a o vC q) h nx):=by kernel_rfl
theorem oM.tab:T.get none (.of 166) tbl=some oM:=by kernel_rfl
theorem oM.go:zX tbl N C (.of 166) [a0,a1,a2] h nx K0 =
 rW a0 h nx fun v1 h2 n3=>rW a1 h2 n3 fun v4 h5 n6=>C.fn 136 (.of 136) [a2,(.fn 215 (.of 215) [v1,v4])] h5 n6 fun v7 h8 n9=>C.fn 167 (.of 167) [v7,(I 3)] h8 n9 fun vA hA nA=>K0 vA hA nA:=by
 rw [zJ oM.tab];kernel_rfl
theorem oN.tab:T.get none (.of 215) tbl=some oN:=by kernel_rfl
theorem oN.go:zX tbl N C (.of 215) [a0,a1,a2] h nx K0 =
 zE a1 h fun v1=>zy .lss .int a0 v1 fun v2=>sG v2 false (fun k=>k a0) fun v3=>sG v2 false (fun k=>zE a2 h k) fun v4=>sG v2 false (fun k=>zy .gtr .int v3 v4 k) fun v5=>gY v2 (.bool true) v5 fun v6=>K0 v6 h nx:=by
 rw [zJ oN.tab];kernel_rfl
theorem oO.tab:T.get none (.of 136) tbl=some oO:=by kernel_rfl
theorem oO.go:zX tbl N C (.of 136) [a0,a1] h nx K0 =
 C.fn 197 (.of 197) [a0,a1] h nx fun v1 h2 n3=>zy .geq .int v1 (I 0) fun v4=>K0 v4 h2 n3:=by
 rw [zJ oO.tab];kernel_rfl
theorem uw.fJ (X2:IR) (O:uh Prop) (t:T AV):IR.run (uw.g1 X2) C N O K t h nx=IR.run X2 C N (O.blk 0 K) K t h nx:=by kernel_rfl
theorem uw.tab:T.get none (.of 197) tbl=some uw:=by kernel_rfl
theorem uw.go:zX tbl N C (.of 197) [a0,a1] h nx K0 =
 sLen a0 fun v1=>IR.run uw.b1 C N (fnO uw.res K0) (IR.run uw.b8 C N (fnO uw.res K0) (wo uw.res K0)) (uw.fr a0 a1 (I 0) .undef v1 (I 0) .undef .undef) h nx:=by
 rw [zJ uw.tab];kernel_rfl
theorem uw.L1 (Inv:Nat->AV->T Blk->Pa->Prop) {m:Nat} (hm:m<N) (hi:Inv m i h nx)
  (step:∀ (m:Nat) (z2 z3 z5 z6 z7:AV) (h:T Blk) (nx:Pa) (R:Ks Prop),Inv m z5 h nx->(∀ (m':Nat) (w2 w3 w5 w6 w7:AV) (h':T Blk) (nx':Pa),m'<m->Inv m' w5 h' nx'->R (uw.fr c b w2 w3 d w5 w6 w7) h' nx'=.ok True) ->
   (zy .lss .int z5 d fun v1=>yC v1 (zQ 1 c z5 fun v2=>zE v2 h fun v3=>dU C b [v3] h nx fun v4 h5 n6=>yC v4 (K0 z5 h5 n6) (zy .add .int z5 (I 1) fun v7=>R (uw.fr c b z2 z5 d v7 v1 v4) h5 n6)) (K (uw.fr c b z2 z3 d z5 v1 z7) h nx))=.ok True) :
  IR.run uw.b1 C N (fnO uw.res K0) K (uw.fr c b g f d i e l) h nx=.ok True:=by
 rw [uw.b1,uw.fJ,uw.b2];refine yH (fun m tm h nx=>∃ z2 z3 z5 z6 z7,tm=(uw.fr c b z2 z3 d z5 z6 z7)/\Inv m z5 h nx) ?_ hm ⟨_,_,_,_,_,rfl,hi⟩;rintro m tm h nx R ⟨z2,z3,z5,z6,z7,rfl,hi⟩ hR;refine Eq.trans ?_ (step m z2 z3 z5 z6 z7 h nx R hi fun m' w2 w3 w5 w6 w7 h' nx' hlt hi'=>hR m' _ h' nx' hlt ⟨_,_,_,_,_,rfl,hi'⟩)
 kernel_rfl
theorem uw.k8:IR.run uw.b8 C N (fnO uw.res K0) K (uw.fr c b g f d i e l) h nx =
 K0 (I (-1)) h nx:=by kernel_rfl
theorem gu.aZ (X3:IR) (O:uh Prop) (t:T AV):IR.run (gu.g2 X3) C N O K t h nx=IR.run X3 C N (O.blk 0 K) K t h nx:=by kernel_rfl
theorem gu.tab:T.get none (.of 103) tbl=some gu:=by kernel_rfl
theorem gu.go:zX tbl N C (.of 103) [a0] h nx K0 =
 rW a0 h nx fun v1 h2 n3=>zM 0 v1 fun v4=>zE v4 h2 fun v5=>zM 1 v1 fun v6=>zE v6 h2 fun v7=>sLen v7 fun v8=>zy .gtr .int v8 (I 128) fun v9=>yV 1 1 [(I 0)] [(0,1,v5)] h2 n3 fun vA hA nA=>(zy .gtr .int v8 (I 128) fun vF=>zI vF v9 ((sLen v7 fun vG=>zI vG v8 ((zE v6 hA fun vH=>zI vH v7 ((zM 1 v1 fun vI=>zI vI v6 (C.fn 166 (.of 166) [(I 1),(I 256),vA] hA nA fun vD hB nB=>(zy .gtr .int v8 (I 128) fun vJ=>zI vJ v9 ((sLen v7 fun vK=>zI vK v8 ((zE v6 hB fun vL=>zI vL v7 ((zM 1 v1 fun vM=>zI vM v6 (C.fn 167 (.of 167) [v9,(I 5)] hB nB fun vN hC nC=>yV 1 2 [(I 0)] [(0,1,vD),(1,1,vN)] hC nC fun vO hD nD=>C.fn 165 (.of 165) [vO] hD nD fun vP hE nE=>zy .neq .int vP (I 0) fun vQ=>yC vQ (K0 vP hE nE) (zM 1 v1 fun vR=>zE vR hE fun vS=>sLen vS fun vT=>IR.run gu.b2 C N (fnO gu.res K0) (IR.run gu.b9 C N (fnO gu.res K0) (wo gu.res K0)) (gu.fr a0 v1 (I 0) vP .undef .undef vQ vT (I 0) .undef .undef) hE nE))))))))))))))))):=by
 rw [zJ gu.tab];kernel_rfl
theorem gu.L2 (Inv:Nat->AV->T Blk->Pa->Prop) {m:Nat} (hm:m<N) (hi:Inv m p h nx)
  (step:∀ (m:Nat) (z2 z4 z5 z8 z9 zA:AV) (h:T Blk) (nx:Pa) (R:Ks Prop),Inv m z8 h nx->(∀ (m':Nat) (w2 w4 w5 w8 w9 wA:AV) (h':T Blk) (nx':Pa),m'<m->Inv m' w8 h' nx'->R (gu.fr c b w2 f w4 w5 e l w8 w9 wA) h' nx'=.ok True) ->
   (zy .lss .int z8 l fun v1=>yC v1 (zK 2 b h fun v2=>C.fn 168 (.of 168) [v2,z8] h nx fun v3 h4 n5=>zy .neq .int v3 (I 0) fun v6=>yC v6 (K0 v3 h4 n5) (zy .add .int z8 (I 1) fun v7=>R (gu.fr c b z2 f z8 v3 e l v7 v1 v6) h4 n5)) (K (gu.fr c b z2 f z4 z5 e l z8 v1 zA) h nx))=.ok True) :
  IR.run gu.b2 C N (fnO gu.res K0) K (gu.fr c b g f d i e l p z a) h nx=.ok True:=by
 rw [gu.b2,gu.aZ,gu.b3];refine yH (fun m tm h nx=>∃ z2 z4 z5 z8 z9 zA,tm=(gu.fr c b z2 f z4 z5 e l z8 z9 zA)/\Inv m z8 h nx) ?_ hm ⟨_,_,_,_,_,_,rfl,hi⟩;rintro m tm h nx R ⟨z2,z4,z5,z8,z9,zA,rfl,hi⟩ hR;refine Eq.trans ?_ (step m z2 z4 z5 z8 z9 zA h nx R hi fun m' w2 w4 w5 w8 w9 wA h' nx' hlt hi'=>hR m' _ h' nx' hlt ⟨_,_,_,_,_,_,rfl,hi'⟩)
 kernel_rfl
theorem gu.k9:IR.run gu.b9 C N (fnO gu.res K0) K (gu.fr c b g f d i e l p z a) h nx =
 K0 (I 0) h nx:=by kernel_rfl
theorem jo.aZ (X3:IR) (O:uh Prop) (t:T AV):IR.run (jo.g2 X3) C N O K t h nx=IR.run X3 C N (O.blk 0 K) K t h nx:=by kernel_rfl
theorem jo.tab:T.get none (.of 168) tbl=some jo:=by kernel_rfl
theorem jo.go:zX tbl N C (.of 168) [a0,a1] h nx K0 =
 rW a0 h nx fun v1 h2 n3=>zM 1 v1 fun v4=>zE v4 h2 fun v5=>zQ 1 v5 a1 fun v6=>zE v6 h2 fun v7=>yJ [.zf] h2 n3 fun v8 h9 nF=>zL 1 v8 v7 h9 nF fun vB hF nG=>zE v8 hF fun vE=>sLen vE fun vU=>zy .eql .int vU (I 0) fun vN=>yC vN (K0 (I 12) hF nG) (zE v8 hF fun vV=>sLen vV fun vW=>IR.run jo.b2 C N (fnO jo.res K0) (IR.run jo.b9 C N (fnO jo.res K0) (wo jo.res K0)) (jo.fr a0 a1 v1 (I 0) v8 .undef .undef .undef vN vV vW (I 0) .undef .undef) hF nG):=by
 rw [zJ jo.tab];kernel_rfl
theorem jo.L2 (Inv:Nat->AV->T Blk->Pa->Prop) {m:Nat} (hm:m<N) (hi:Inv m o h nx)
  (step:∀ (m:Nat) (z3 z5 z6 z7 zB zC zD:AV) (h:T Blk) (nx:Pa) (R:Ks Prop),Inv m zB h nx->(∀ (m':Nat) (w3 w5 w6 w7 wD wE wF:AV) (h':T Blk) (nx':Pa),m'<m->Inv m' wD h' nx'->R (jo.fr c b g w3 d w5 w6 w7 p z a wD wE wF) h' nx'=.ok True) ->
   (zy .lss .int zB a fun v1=>yC v1 (zQ 1 z zB fun v2=>zE v2 h fun v3=>zy .lss .int v3 (I 0) fun v4=>sG v4 false (fun k=>k v3) fun v5=>sG v4 false (fun k=>zM 0 g k) fun v6=>sG v4 false (fun k=>zE v6 h k) fun v7=>sG v4 false (fun k=>zy .geq .int v5 v7 k) fun v8=>gY v4 (.bool true) v8 fun v9=>C.fn 167 (.of 167) [v9,(I 10)] h nx fun vA hA nA=>zy .gtr .int zB (I 0) fun vD=>sG vD true (fun k=>zE d hA k) fun vE=>sG vD true (fun k=>k zB) fun vU=>sG vD true (fun k=>zy .sub .int vU (I 1) k) fun vN=>sG vD true (fun k=>zQ 1 vE vN k) fun vV=>sG vD true (fun k=>zE vV hA k) fun vW=>sG vD true (fun k=>k v3) fun vO=>sG vD true (fun k=>zy .geq .int vW vO k) fun vX=>gY vD vX (.bool false) fun vY=>C.fn 167 (.of 167) [vY,(I 11)] hA nA fun vP hE nE=>yV 1 2 [(I 0)] [(0,1,vA),(1,1,vP)] hE nE fun vQ hG nH=>C.fn 165 (.of 165) [vQ] hG nH fun vT hH nI=>zy .neq .int vT (I 0) fun vK=>yC vK (K0 vT hH nI) (zy .add .int zB (I 1) fun vJ=>R (jo.fr c b g z3 d zB v3 vT p z a vJ v1 vK) hH nI)) (K (jo.fr c b g z3 d z5 z6 z7 p z a zB v1 zD) h nx))=.ok True) :
  IR.run jo.b2 C N (fnO jo.res K0) K (jo.fr c b g f d i e l p z a o s q) h nx=.ok True:=by
 rw [jo.b2,jo.aZ,jo.b3];refine yH (fun m tm h nx=>∃ z3 z5 z6 z7 zB zC zD,tm=(jo.fr c b g z3 d z5 z6 z7 p z a zB zC zD)/\Inv m zB h nx) ?_ hm ⟨_,_,_,_,_,_,_,rfl,hi⟩;rintro m tm h nx R ⟨z3,z5,z6,z7,zB,zC,zD,rfl,hi⟩ hR;refine Eq.trans ?_ (step m z3 z5 z6 z7 zB zC zD h nx R hi fun m' w3 w5 w6 w7 wD wE wF h' nx' hlt hi'=>hR m' _ h' nx' hlt ⟨_,_,_,_,_,_,_,rfl,hi'⟩)
 kernel_rfl
theorem jo.k9:IR.run jo.b9 C N (fnO jo.res K0) K (jo.fr c b g f d i e l p z a o s q) h nx =
 zM 1 g fun v1=>zE v1 h fun v2=>gG 1 v2 none (some b) none fun v3=>C.fn 216 (.of 216) [v3,(.fn 217 (.of 217) [d])] h nx fun v4 h5 n6=>C.fn 167 (.of 167) [v4,(I 9)] h5 n6 fun v7 h8 n9=>K0 v7 h8 n9:=by kernel_rfl
theorem F30.tab:T.get none (.of 30) tbl=some F30:=by kernel_rfl
theorem F30.go:zX tbl N C (.of 30) [a0,a1] h nx K0 =
 rW a0 h nx fun v1 h2 n3=>rW a1 h2 n3 fun v4 h5 n6=>zM 1 v1 fun v7=>zE v7 h5 fun v8=>zM 1 v4 fun v9=>zE v9 h5 fun vA=>zy .eql .bool v8 vA fun vB=>sG vB true (fun k=>zM 0 v1 k) fun vC=>sG vB true (fun k=>zE vC h5 k) fun vD=>sG vB true (fun k=>zM 0 v4 k) fun vE=>sG vB true (fun k=>zE vE h5 k) fun vU=>sGW vB true (fun k=>C.fn 82 (.of 82) [vD,vU] h5 n6 k) h5 n6 fun vN hC nC=>gY vB vN (.bool false) fun vO=>K0 vO hC nC:=by
 rw [zJ F30.tab];kernel_rfl
theorem jl.fJ (X2:IR) (O:uh Prop) (t:T AV):IR.run (jl.g1 X2) C N O K t h nx=IR.run X2 C N (O.blk 0 K) K t h nx:=by kernel_rfl
theorem jl.tab:T.get none (.of 201) tbl=some jl:=by kernel_rfl
theorem jl.go:zX tbl N C (.of 201) [a0,a1] h nx K0 =
 sLen a0 fun v1=>IR.run jl.b1 C N (fnO jl.res K0) (IR.run jl.b9 C N (fnO jl.res K0) (wo jl.res K0)) (jl.fr a0 a1 (I 0) .undef .undef .undef .undef a0 v1 (I 0) .undef .undef .undef .undef) h nx:=by
 rw [zJ jl.tab];kernel_rfl
theorem jl.L1 (Inv:Nat->AV->T Blk->Pa->Prop) {m:Nat} (hm:m<N) (hi:Inv m z h nx)
  (step:∀ (m:Nat) (z2 z3 z4 z5 z6 z9 zA zB zC:AV) (h:T Blk) (nx:Pa) (R:Ks Prop),Inv m z9 h nx->(∀ (m':Nat) (w2 w3 w4 w5 w6 w9 wA wD wE:AV) (h':T Blk) (nx':Pa),m'<m->Inv m' w9 h' nx'->R (jl.fr c b w2 w3 w4 w5 w6 l p w9 wA wD wE q) h' nx'=.ok True) ->
   (zy .lss .int z9 p fun v1=>yC v1 (zQ 1 l z9 fun v2=>zE v2 h fun v3=>sLen b fun v4=>zy .geq .int z9 v4 fun v5=>yC v5 (K0 (I 1) h nx) (zQ 1 b z9 fun v6=>zE v6 h fun v7=>C.fn 244 (.of 244) [v3,v7] h nx fun v8 h9 nF=>zy .neq .int v8 (I 0) fun vB=>yC vB (K0 v8 h9 nF) (zy .add .int z9 (I 1) fun vC=>R (jl.fr c b z2 z9 v3 v7 v8 l p vC v1 v5 vB q) h9 nF))) (K (jl.fr c b z2 z3 z4 z5 z6 l p z9 v1 zB zC q) h nx))=.ok True) :
  IR.run jl.b1 C N (fnO jl.res K0) K (jl.fr c b g f d i e l p z a o s q) h nx=.ok True:=by
 rw [jl.b1,jl.fJ,jl.b2];refine yH (fun m tm h nx=>∃ z2 z3 z4 z5 z6 z9 zA zB zC,tm=(jl.fr c b z2 z3 z4 z5 z6 l p z9 zA zB zC q)/\Inv m z9 h nx) ?_ hm ⟨_,_,_,_,_,_,_,_,_,rfl,hi⟩;rintro m tm h nx R ⟨z2,z3,z4,z5,z6,z9,zA,zB,zC,rfl,hi⟩ hR;refine Eq.trans ?_ (step m z2 z3 z4 z5 z6 z9 zA zB zC h nx R hi fun m' w2 w3 w4 w5 w6 w9 wA wD wE h' nx' hlt hi'=>hR m' _ h' nx' hlt ⟨_,_,_,_,_,_,_,_,_,rfl,hi'⟩)
 kernel_rfl
theorem jl.k9:IR.run jl.b9 C N (fnO jl.res K0) K (jl.fr c b g f d i e l p z a o s q) h nx =
 sLen c fun v1=>sLen b fun v2=>zy .lss .int v1 v2 fun v3=>yC v3 (K0 (I (-1)) h nx) (K0 (I 0) h nx):=by kernel_rfl
theorem fP.tab:T.get none (.of 244) tbl=some fP:=by kernel_rfl
theorem fP.go:zX tbl N C (.of 244) [a0,a1] h nx K0 =
 C.fn 250 (.of 250) [a0] h nx fun v1 h2 n3=>C.fn 250 (.of 250) [a1] h2 n3 fun v4 h5 n6=>yC v1 (yC v4 (K0 (I 0) h5 n6) (K0 (I (-1)) h5 n6)) (yC v4 (K0 (I 1) h5 n6) (zy .lss .int a0 a1 fun v7=>yC v7 (K0 (I (-1)) h5 n6) (zy .gtr .int a0 a1 fun v8=>yC v8 (K0 (I 1) h5 n6) (K0 (I 0) h5 n6)))):=by
 rw [zJ fP.tab];kernel_rfl
theorem oP.tab:T.get none (.of 250) tbl=some oP:=by kernel_rfl
theorem oP.go:zX tbl N C (.of 250) [a0] h nx K0 =
 zy .neq .int a0 a0 fun v1=>K0 v1 h nx:=by
 rw [zJ oP.tab];kernel_rfl
theorem F97.fJ (X2:IR) (O:uh Prop) (t:T AV):IR.run (F97.g1 X2) C N O K t h nx=IR.run X2 C N (O.blk 0 K) K t h nx:=by kernel_rfl
theorem F97.tab:T.get none (.of 97) tbl=some F97:=by kernel_rfl
theorem F97.go:zX tbl N C (.of 97) [a0,a1] h nx K0 =
 sLen a0 fun v1=>IR.run F97.b1 C N (fnO F97.res K0) (IR.run F97.b8 C N (fnO F97.res K0) (wo F97.res K0)) (F97.fr a0 a1 (I 0) .undef .undef a0 v1 (I 0) .undef .undef) h nx:=by
 rw [zJ F97.tab];kernel_rfl
theorem F97.L1 (Inv:Nat->AV->T Blk->Pa->Prop) {m:Nat} (hm:m<N) (hi:Inv m l h nx)
  (step:∀ (m:Nat) (z2 z3 z4 z7 z8 z9:AV) (h:T Blk) (nx:Pa) (R:Ks Prop),Inv m z7 h nx->(∀ (m':Nat) (w2 w3 w4 w7 w8 w9:AV) (h':T Blk) (nx':Pa),m'<m->Inv m' w7 h' nx'->R (F97.fr c b w2 w3 w4 i e w7 w8 w9) h' nx'=.ok True) ->
   (zy .lss .int z7 e fun v1=>yC v1 (zQ 2 i z7 fun v2=>zK 2 v2 h fun v3=>yJ [.zf,(.bool false)] h nx fun v4 h5 n6=>zL 2 v4 v3 h5 n6 fun v7 h8 n9=>zK 2 v4 h8 fun vA=>C.fn 56 (.of 56) [vA,b] h8 n9 fun vB hF nG=>zy .neq .int vB (I 0) fun vE=>yC vE (K0 vB hF nG) (zy .add .int z7 (I 1) fun vU=>R (F97.fr c b z2 v4 vB i e vU v1 vE) hF nG)) (K (F97.fr c b z2 z3 z4 i e z7 v1 z9) h nx))=.ok True) :
  IR.run F97.b1 C N (fnO F97.res K0) K (F97.fr c b g f d i e l p z) h nx=.ok True:=by
 rw [F97.b1,F97.fJ,F97.b2];refine yH (fun m tm h nx=>∃ z2 z3 z4 z7 z8 z9,tm=(F97.fr c b z2 z3 z4 i e z7 z8 z9)/\Inv m z7 h nx) ?_ hm ⟨_,_,_,_,_,_,rfl,hi⟩;rintro m tm h nx R ⟨z2,z3,z4,z7,z8,z9,rfl,hi⟩ hR;refine Eq.trans ?_ (step m z2 z3 z4 z7 z8 z9 h nx R hi fun m' w2 w3 w4 w7 w8 w9 h' nx' hlt hi'=>hR m' _ h' nx' hlt ⟨_,_,_,_,_,_,rfl,hi'⟩)
 kernel_rfl
theorem F97.k8:IR.run F97.b8 C N (fnO F97.res K0) K (F97.fr c b g f d i e l p z) h nx =
 K0 (I 0) h nx:=by kernel_rfl
theorem F90.tab:T.get none (.of 90) tbl=some F90:=by kernel_rfl
theorem F90.go:zX tbl N C (.of 90) [a0] h nx K0 =
 rW a0 h nx fun v1 h2 n3=>K0 (.fn 159 (.of 159) [v1]) h2 n3:=by
 rw [zJ F90.tab];kernel_rfl
theorem fQ.tab:T.get none (.of 162) tbl=some fQ:=by kernel_rfl
theorem fQ.go:zX tbl N C (.of 162) [a0,a1] h nx K0 =
 rW a0 h nx fun v1 h2 n3=>rW a1 h2 n3 fun v4 h5 n6=>zM 0 v1 fun v7=>zE v7 h5 fun v8=>zM 0 v4 fun v9=>zE v9 h5 fun vA=>C.fn 201 (.of 201) [v8,vA] h5 n6 fun vB hF nG=>zy .neq .int vB (I 0) fun vE=>sG vE false (fun k=>zM 1 v1 k) fun vU=>sG vE false (fun k=>zE vU hF k) fun vN=>sG vE false (fun k=>zM 1 v4 k) fun vV=>sG vE false (fun k=>zE vV hF k) fun vW=>sG vE false (fun k=>zy .eql .bool vN vW k) fun vO=>gY vE (.bool true) vO fun vX=>yC vX (K0 vB hF nG) ((IR.run fQ.b1 C N (fnO fQ.res K0) (wo fQ.res K0)) (fQ.fr a0 a1 v1 v4 (I 0) vB vX .undef) hF nG):=by
 rw [zJ fQ.tab];kernel_rfl
theorem fQ.k1:IR.run fQ.b1 C N (fnO fQ.res K0) K (fQ.fr c b g f d i e l) h nx =
 zM 1 g fun v1=>zE v1 h fun v2=>yC v2 (K0 (I 1) h nx) (K0 (I (-1)) h nx):=by kernel_rfl
theorem F56.tab:T.get none (.of 56) tbl=some F56:=by kernel_rfl
theorem F56.go:zX tbl N C (.of 56) [a0,a1] h nx K0 =
 rW a0 h nx fun v1 h2 n3=>zM 0 v1 fun v4=>zE v4 h2 fun v5=>sLen v5 fun v6=>zy .neq .int v6 a1 fun v7=>zM 0 v1 fun v8=>zE v8 h2 fun v9=>C.fn 95 (.of 95) [a1] h2 n3 fun vA hA nA=>(zE v8 hA fun vF=>zI vF v9 ((zM 0 v1 fun vG=>zI vG v8 ((zy .neq .int v6 a1 fun vH=>zI vH v7 (zI a1 a1 ((sLen v5 fun vI=>zI vI v6 ((zE v4 hA fun vJ=>zI vJ v5 ((zM 0 v1 fun vK=>zI vK v4 (C.fn 96 (.of 96) [v7,(I 2)] hA nA fun vD hB nB=>(zE v8 hB fun vL=>zI vL v9 ((zM 0 v1 fun vM=>zI vM v8 (C.fn 140 (.of 140) [v9] hB nB fun vN hC nC=>oQ vN fun vO=>C.fn 96 (.of 96) [vO,(I 14)] hC nC fun vX hI nJ=>yV 1 3 [(I 0)] [(0,1,vA),(1,1,vD),(2,1,vX)] hI nJ fun vZ hJ nK=>C.fn 94 (.of 94) [vZ] hJ nK fun vR hK nL=>K0 vR hK nL))))))))))))))))):=by
 rw [zJ F56.tab];kernel_rfl
theorem wu.fJ (X2:IR) (O:uh Prop) (t:T AV):IR.run (wu.g1 X2) C N O K t h nx=IR.run X2 C N (O.blk 0 K) K t h nx:=by kernel_rfl
theorem wu.tab:T.get none (.of 159) tbl=some wu:=by kernel_rfl
theorem wu.go:zX tbl N C (.of 159) [a0,a1] h nx K0 =
 zE a1 h fun v1=>sLen v1 fun v2=>IR.run wu.b1 C N (fnO wu.res K0) (wo wu.res K0) (wu.fr a0 a1 .undef .undef v1 v2 (I 0) .undef .undef) h nx:=by
 rw [zJ wu.tab];kernel_rfl
theorem wu.L1 (Inv:Nat->AV->T Blk->Pa->Prop) {m:Nat} (hm:m<N) (hi:Inv m e h nx)
  (step:∀ (m:Nat) (z2 z3 z6 z7 z8:AV) (h:T Blk) (nx:Pa) (R:Ks Prop),Inv m z6 h nx->(∀ (m':Nat) (w2 w3 w6 w7 w8:AV) (h':T Blk) (nx':Pa),m'<m->Inv m' w6 h' nx'->R (wu.fr c b w2 w3 d i w6 w7 w8) h' nx'=.ok True) ->
   (zy .lss .int z6 i fun v1=>yC v1 (zQ 2 d z6 fun v2=>zK 2 v2 h fun v3=>yJ [.zf,(.bool false)] h nx fun v4 h5 n6=>zL 2 v4 v3 h5 n6 fun v7 h8 n9=>zK 2 v4 h8 fun vA=>dU C c [z6,vA] h8 n9 fun vB hF nG=>oQ vB fun vE=>yC vE (K0 (.tup []) hF nG) (zy .add .int z6 (I 1) fun vU=>R (wu.fr c b z6 v4 d i vU v1 vE) hF nG)) (K (wu.fr c b z2 z3 d i z6 v1 z8) h nx))=.ok True) :
  IR.run wu.b1 C N (fnO wu.res K0) K (wu.fr c b g f d i e l p) h nx=.ok True:=by
 rw [wu.b1,wu.fJ,wu.b2];refine yH (fun m tm h nx=>∃ z2 z3 z6 z7 z8,tm=(wu.fr c b z2 z3 d i z6 z7 z8)/\Inv m z6 h nx) ?_ hm ⟨_,_,_,_,_,rfl,hi⟩;rintro m tm h nx R ⟨z2,z3,z6,z7,z8,rfl,hi⟩ hR;refine Eq.trans ?_ (step m z2 z3 z6 z7 z8 h nx R hi fun m' w2 w3 w6 w7 w8 h' nx' hlt hi'=>hR m' _ h' nx' hlt ⟨_,_,_,_,_,rfl,hi'⟩)
 kernel_rfl
theorem uy.fJ (X2:IR) (O:uh Prop) (t:T AV):IR.run (uy.g1 X2) C N O K t h nx=IR.run X2 C N (O.blk 0 K) K t h nx:=by kernel_rfl
theorem uy.tab:T.get none (.of 163) tbl=some uy:=by kernel_rfl
theorem uy.go:zX tbl N C (.of 163) [a0] h nx K0 =
 yJ [.zf,(.bool false)] h nx fun v1 h2 n3=>uC 1 8 [(I 0)] a0 a0 h2 n3 fun v4 h5 n6=>uP [.zf,(.bool false)] [(0,1,v4)] fun v7=>yJ [.zf,(.bool false)] h5 n6 fun v8 h9 nF=>zL 2 v8 v7 h9 nF fun vB hF nG=>zM 0 v8 fun vE=>zE vE hF fun vU=>sLen vU fun vN=>IR.run uy.b1 C N (fnO uy.res K0) (IR.run uy.b8 C N (fnO uy.res K0) (wo uy.res K0)) (uy.fr a0 v1 v8 .undef vN (I 0) .undef) hF nG:=by
 rw [zJ uy.tab];kernel_rfl
theorem uy.L1 (Inv:Nat->AV->T Blk->Pa->Prop) {m:Nat} (hm:m<N) (hi:Inv m i h nx)
  (step:∀ (m:Nat) (z3 z5 z6:AV) (h:T Blk) (nx:Pa) (R:Ks Prop),Inv m z5 h nx->(∀ (m':Nat) (w3 w5 w6:AV) (h':T Blk) (nx':Pa),m'<m->Inv m' w5 h' nx'->R (uy.fr c b g w3 d w5 w6) h' nx'=.ok True) ->
   (zy .lss .int z5 d fun v1=>yC v1 (zM 0 g fun v2=>zE v2 h fun v3=>zQ 1 v3 z5 fun v4=>zL 1 v4 z5 h nx fun v5 h6 n7=>zy .add .int z5 (I 1) fun v8=>R (uy.fr c b g z5 d v8 v1) h6 n7) (K (uy.fr c b g z3 d z5 v1) h nx))=.ok True) :
  IR.run uy.b1 C N (fnO uy.res K0) K (uy.fr c b g f d i e) h nx=.ok True:=by
 rw [uy.b1,uy.fJ,uy.b2];refine yH (fun m tm h nx=>∃ z3 z5 z6,tm=(uy.fr c b g z3 d z5 z6)/\Inv m z5 h nx) ?_ hm ⟨_,_,_,rfl,hi⟩;rintro m tm h nx R ⟨z3,z5,z6,rfl,hi⟩ hR;refine Eq.trans ?_ (step m z3 z5 z6 h nx R hi fun m' w3 w5 w6 h' nx' hlt hi'=>hR m' _ h' nx' hlt ⟨_,_,_,rfl,hi'⟩)
 kernel_rfl
theorem uy.k8:IR.run uy.b8 C N (fnO uy.res K0) K (uy.fr c b g f d i e) h nx =
 zK 2 g h fun v1=>zL 2 b v1 h nx fun v2 h3 n4=>zK 2 b h3 fun v5=>K0 v5 h3 n4:=by kernel_rfl
theorem gy.fJ (X2:IR) (O:uh Prop) (t:T AV):IR.run (gy.g1 X2) C N O K t h nx=IR.run X2 C N (O.blk 0 K) K t h nx:=by kernel_rfl
theorem gy.tab:T.get none (.of 123) tbl=some gy:=by kernel_rfl
theorem gy.go:zX tbl N C (.of 123) [a0] h nx K0 =
 rW a0 h nx fun v1 h2 n3=>zM 0 v1 fun v4=>zE v4 h2 fun v5=>sLen v5 fun v6=>zy .add .int v6 (I 1) fun v7=>uC 1 1 [(.int .u8 0)] (I 0) v7 h2 n3 fun v8 h9 nF=>zM 0 v1 fun vB=>zE vB h9 fun vC=>sLen vC fun vD=>IR.run gy.b1 C N (fnO gy.res K0) (IR.run gy.b8 C N (fnO gy.res K0) (wo gy.res K0)) (gy.fr a0 v1 (.str []) v8 .undef vC vD (I 0) .undef .undef) h9 nF:=by
 rw [zJ gy.tab];kernel_rfl
theorem gy.L1 (Inv:Nat->AV->AV->T Blk->Pa->Prop) {m:Nat} (hm:m<N) (hi:Inv m f l h nx)
  (step:∀ (m:Nat) (z3 z4 z7 z8:AV) (h:T Blk) (nx:Pa) (R:Ks Prop),Inv m z3 z7 h nx->(∀ (m':Nat) (w3 w4 w7 w8:AV) (h':T Blk) (nx':Pa),m'<m->Inv m' w3 w7 h' nx'->R (gy.fr c b g w3 w4 i e w7 w8 z) h' nx'=.ok True) ->
   (zy .lss .int z7 e fun v1=>yC v1 (zQ 1 i z7 fun v2=>zE v2 h fun v3=>zli .u8 v3 fun v4=>yV 1 1 [(.int .u8 0)] [(0,1,v4)] h nx fun v5 h6 n7=>sJ 1 1 z3 v5 h6 n7 fun v8 h9 nF=>zy .add .int z7 (I 1) fun vB=>R (gy.fr c b g v8 v3 i e vB v1 z) h9 nF) (K (gy.fr c b g z3 z4 i e z7 v1 z) h nx))=.ok True) :
  IR.run gy.b1 C N (fnO gy.res K0) K (gy.fr c b g f d i e l p z) h nx=.ok True:=by
 rw [gy.b1,gy.fJ,gy.b2];refine yH (fun m tm h nx=>∃ z3 z4 z7 z8,tm=(gy.fr c b g z3 z4 i e z7 z8 z)/\Inv m z3 z7 h nx) ?_ hm ⟨_,_,_,_,rfl,hi⟩;rintro m tm h nx R ⟨z3,z4,z7,z8,rfl,hi⟩ hR;refine Eq.trans ?_ (step m z3 z4 z7 z8 h nx R hi fun m' w3 w4 w7 w8 h' nx' hlt hi'=>hR m' _ h' nx' hlt ⟨_,_,_,_,rfl,hi'⟩)
 kernel_rfl
theorem gy.k8:IR.run gy.b8 C N (fnO gy.res K0) K (gy.fr c b g f d i e l p z) h nx =
 zM 1 b fun v1=>zE v1 h fun v2=>yC v2 (yV 1 1 [(.int .u8 0)] [(0,1,(.int .u8 1))] h nx fun v3 h4 n5=>sJ 1 1 f v3 h4 n5 fun v6 h7 n8=>sB2s v6 h7 fun v9=>K0 v9 h7 n8) (sB2s f h fun vA=>K0 vA h nx):=by kernel_rfl
theorem oU.tab:T.get none (.of 121) tbl=some oU:=by kernel_rfl
theorem oU.go:zX tbl N C (.of 121) [a0,a1] h nx K0 =
 rW a1 h nx fun v1 h2 n3=>zK 2 v1 h2 fun v4=>C.fn 123 (.of 123) [v4] h2 n3 fun v5 h6 n7=>zel .str (.agg [.zf,(.bool false)]) true a0 v5 h6 fun v8=>fF 0 v8 fun v9=>fF 1 v8 fun vA=>yJ [.zf,(.bool false)] h6 n7 fun vB hF nG=>zL 2 vB v9 hF nG fun vE hL nM=>K0 vA hL nM:=by
 rw [zJ oU.tab];kernel_rfl
theorem uz.fJ (X2:IR) (O:uh Prop) (t:T AV):IR.run (uz.g1 X2) C N O K t h nx=IR.run X2 C N (O.blk 0 K) K t h nx:=by kernel_rfl
theorem uz.tab:T.get none (.of 122) tbl=some uz:=by kernel_rfl
theorem uz.go:zX tbl N C (.of 122) [a0,a1] h nx K0 =
 rW a0 h nx fun v1 h2 n3=>rW a1 h2 n3 fun v4 h5 n6=>yJ [.zf,(.bool false)] h5 n6 fun v7 h8 n9=>sChk (true&&true) (zM 0 v4 fun vA=>zE vA h8 fun vB=>sLen vB fun vC=>sChk (mkSl 8 vC vC&&true) (zM 1 v1 fun vD=>zE vD h8 fun vE=>zM 1 v4 fun vU=>zE vU h8 fun vN=>zy .neq .bool vE vN fun vV=>uC 1 8 [(I 0)] vC vC h8 n9 fun vW hM nN=>(zy .neq .bool vE vN fun v47=>zI v47 vV ((zE vU hM fun v46=>zI v46 vN ((zM 1 v4 fun v45=>zI v45 vU ((zE vD hM fun v44=>zI v44 vE ((zM 1 v1 fun v43=>zI v43 vD ((sLen vB fun v42=>zI v42 vC ((zE vA hM fun v41=>zI v41 vB ((zM 0 v4 fun v40=>zI v40 vA (uP [.zf,(.bool false)] [(0,1,vW),(1,1,vV)] fun vY=>yJ [.zf,(.bool false)] hM nN fun vP hE nE=>(uP [.zf,(.bool false)] [(0,1,vW),(1,1,vV)] fun v39=>zI v39 vY ((zy .neq .bool vE vN fun v38=>zI v38 vV ((zE vU hE fun v37=>zI v37 vN ((zM 1 v4 fun vF=>zI vF vU ((zE vD hE fun vG=>zI vG vE ((zM 1 v1 fun vH=>zI vH vD ((sLen vB fun vI=>zI vI vC ((zE vA hE fun vJ=>zI vJ vB ((zM 0 v4 fun vK=>zI vK vA (zL 2 vP vY hE nE fun vQ hG nH=>zM 0 v4 fun vT=>zE vT hG fun vM=>sLen vM fun vL=>IR.run uz.b1 C N (fnO uz.res K0) (IR.run uz.b8 C N (fnO uz.res K0) (wo uz.res K0)) (uz.fr a0 a1 v1 v4 v7 vP .undef .undef vM vL (I 0) .undef) hG nH)))))))))))))))))))))))))))))))))))):=by
 rw [zJ uz.tab];kernel_rfl
theorem uz.L1 (Inv:Nat->AV->T Blk->Pa->Prop) {m:Nat} (hm:m<N) (hi:Inv m a h nx)
  (step:∀ (m:Nat) (z6 z7 zA zB:AV) (h:T Blk) (nx:Pa) (R:Ks Prop),Inv m zA h nx->(∀ (m':Nat) (w6 w7 wA wD:AV) (h':T Blk) (nx':Pa),m'<m->Inv m' wA h' nx'->R (uz.fr c b g f d i w6 w7 p z wA wD) h' nx'=.ok True) ->
   (zy .lss .int zA z fun v1=>yC v1 (zQ 1 p zA fun v2=>zE v2 h fun v3=>zM 0 i fun v4=>zE v4 h fun v5=>zM 0 g fun v6=>zE v6 h fun v7=>zQ 1 v7 v3 fun v8=>zE v8 h fun v9=>zQ 1 v5 zA fun vA=>zL 1 vA v9 h nx fun vB hF nG=>zy .add .int zA (I 1) fun vE=>R (uz.fr c b g f d i zA v3 p z vE v1) hF nG) (K (uz.fr c b g f d i z6 z7 p z zA v1) h nx))=.ok True) :
  IR.run uz.b1 C N (fnO uz.res K0) K (uz.fr c b g f d i e l p z a o) h nx=.ok True:=by
 rw [uz.b1,uz.fJ,uz.b2];refine yH (fun m tm h nx=>∃ z6 z7 zA zB,tm=(uz.fr c b g f d i z6 z7 p z zA zB)/\Inv m zA h nx) ?_ hm ⟨_,_,_,_,rfl,hi⟩;rintro m tm h nx R ⟨z6,z7,zA,zB,rfl,hi⟩ hR;refine Eq.trans ?_ (step m z6 z7 zA zB h nx R hi fun m' w6 w7 wA wD h' nx' hlt hi'=>hR m' _ h' nx' hlt ⟨_,_,_,_,rfl,hi'⟩)
 kernel_rfl
theorem uz.k8:IR.run uz.b8 C N (fnO uz.res K0) K (uz.fr c b g f d i e l p z a o) h nx =
 zK 2 i h fun v1=>zL 2 d v1 h nx fun v2 h3 n4=>zK 2 d h3 fun v5=>K0 v5 h3 n4:=by kernel_rfl
theorem oV.tab:T.get none (.of 140) tbl=some oV:=by kernel_rfl
theorem oV.go:zX tbl N C (.of 140) [a0] h nx K0 =
 C.fn 198 (.of 198) [a0] h nx fun v1 h2 n3=>zy .eql .int v1 (I 0) fun v4=>K0 v4 h2 n3:=by
 rw [zJ oV.tab];kernel_rfl
theorem je.aZ (X3:IR) (O:uh Prop) (t:T AV):IR.run (je.g2 X3) C N O K t h nx=IR.run X3 C N (O.blk 0 K) K t h nx:=by kernel_rfl
theorem je.tab:T.get none (.of 198) tbl=some je:=by kernel_rfl
theorem je.go:zX tbl N C (.of 198) [a0] h nx K0 =
 sLen a0 fun v1=>zy .gtr .int v1 (I 256) fun v2=>yC v2 (K0 (I 5) h nx) (sLen a0 fun v3=>uC 1 1 [(.bool false)] v3 v3 h nx fun v4 h5 n6=>sLen a0 fun v7=>IR.run je.b2 C N (fnO je.res K0) (IR.run je.b10 C N (fnO je.res K0) (wo je.res K0)) (je.fr a0 (I 0) v4 .undef v2 a0 v7 (I 0) .undef .undef) h5 n6):=by
 rw [zJ je.tab];kernel_rfl
theorem je.L2 (Inv:Nat->AV->T Blk->Pa->Prop) {m:Nat} (hm:m<N) (hi:Inv m l h nx)
  (step:∀ (m:Nat) (z1 z3 z7 z8 z9:AV) (h:T Blk) (nx:Pa) (R:Ks Prop),Inv m z7 h nx->(∀ (m':Nat) (w1 w3 w7 w8 w9:AV) (h':T Blk) (nx':Pa),m'<m->Inv m' w7 h' nx'->R (je.fr c w1 g w3 d i e w7 w8 w9) h' nx'=.ok True) ->
   (zy .lss .int z7 e fun v1=>yC v1 (zQ 1 i z7 fun v2=>zE v2 h fun v3=>zy .lss .int v3 (I 0) fun v4=>sG v4 false (fun k=>k v3) fun v5=>sG v4 false (fun k=>k c) fun v6=>sG v4 false (fun k=>sLen v6 k) fun v7=>sG v4 false (fun k=>zy .geq .int v5 v7 k) fun v8=>gY v4 (.bool true) v8 fun v9=>sG v9 false (fun k=>k g) fun vA=>sG v9 false (fun k=>k v3) fun vB=>sG v9 false (fun k=>zQ 1 vA vB k) fun vC=>sG v9 false (fun k=>zE vC h k) fun vD=>gY v9 (.bool true) vD fun vE=>yC vE (K0 (I 14) h nx) ((IR.run je.b8 C N (((fnO je.res K0).blk 0 K).blk 1 (IR.run je.b9 C N ((fnO je.res K0).blk 0 K) R)) (IR.run je.b9 C N ((fnO je.res K0).blk 0 K) R)) (je.fr c z1 g v3 d i e z7 v1 vE) h nx)) (K (je.fr c z1 g z3 d i e z7 v1 z9) h nx))=.ok True) :
  IR.run je.b2 C N (fnO je.res K0) K (je.fr c b g f d i e l p z) h nx=.ok True:=by
 rw [je.b2,je.aZ,je.b3];refine yH (fun m tm h nx=>∃ z1 z3 z7 z8 z9,tm=(je.fr c z1 g z3 d i e z7 z8 z9)/\Inv m z7 h nx) ?_ hm ⟨_,_,_,_,_,rfl,hi⟩;rintro m tm h nx R ⟨z1,z3,z7,z8,z9,rfl,hi⟩ hR;refine Eq.trans ?_ (step m z1 z3 z7 z8 z9 h nx R hi fun m' w1 w3 w7 w8 w9 h' nx' hlt hi'=>hR m' _ h' nx' hlt ⟨_,_,_,_,_,rfl,hi'⟩)
 kernel_rfl
theorem je.k10:IR.run je.b10 C N (fnO je.res K0) K (je.fr c b g f d i e l p z) h nx =
 K0 (I 0) h nx:=by kernel_rfl
theorem je.k9 {E0:Ks Prop}:IR.run je.b9 C N ((fnO je.res K0).blk 0 E0) K (je.fr c b g f d i e l p z) h nx =
 zy .add .int l (I 1) fun v1=>K (je.fr c b g f d i e v1 p z) h nx:=by kernel_rfl
theorem je.k8 {E0 E1:Ks Prop}:IR.run je.b8 C N (((fnO je.res K0).blk 0 E0).blk 1 E1) K (je.fr c b g f d i e l p z) h nx =
 zQ 1 g f fun v1=>zL 1 v1 (.bool true) h nx fun v2 h3 n4=>K (je.fr c b g f d i e l p z) h3 n4:=by kernel_rfl
theorem F94.fJ (X2:IR) (O:uh Prop) (t:T AV):IR.run (F94.g1 X2) C N O K t h nx=IR.run X2 C N (O.blk 0 K) K t h nx:=by kernel_rfl
theorem F94.tab:T.get none (.of 94) tbl=some F94:=by kernel_rfl
theorem F94.go:zX tbl N C (.of 94) [a0] h nx K0 =
 sLen a0 fun v1=>IR.run F94.b1 C N (fnO F94.res K0) (IR.run F94.b8 C N (fnO F94.res K0) (wo F94.res K0)) (F94.fr a0 (I 0) .undef a0 v1 (I 0) .undef .undef) h nx:=by
 rw [zJ F94.tab];kernel_rfl
theorem F94.L1 (Inv:Nat->AV->T Blk->Pa->Prop) {m:Nat} (hm:m<N) (hi:Inv m i h nx)
  (step:∀ (m:Nat) (z1 z2 z5 z6 z7:AV) (h:T Blk) (nx:Pa) (R:Ks Prop),Inv m z5 h nx->(∀ (m':Nat) (w1 w2 w5 w6 w7:AV) (h':T Blk) (nx':Pa),m'<m->Inv m' w5 h' nx'->R (F94.fr c w1 w2 f d w5 w6 w7) h' nx'=.ok True) ->
   (zy .lss .int z5 d fun v1=>yC v1 (zQ 1 f z5 fun v2=>zE v2 h fun v3=>zy .neq .int v3 (I 0) fun v4=>yC v4 (K0 v3 h nx) (zy .add .int z5 (I 1) fun v5=>R (F94.fr c z1 v3 f d v5 v1 v4) h nx)) (K (F94.fr c z1 z2 f d z5 v1 z7) h nx))=.ok True) :
  IR.run F94.b1 C N (fnO F94.res K0) K (F94.fr c b g f d i e l) h nx=.ok True:=by
 rw [F94.b1,F94.fJ,F94.b2];refine yH (fun m tm h nx=>∃ z1 z2 z5 z6 z7,tm=(F94.fr c z1 z2 f d z5 z6 z7)/\Inv m z5 h nx) ?_ hm ⟨_,_,_,_,_,rfl,hi⟩;rintro m tm h nx R ⟨z1,z2,z5,z6,z7,rfl,hi⟩ hR;refine Eq.trans ?_ (step m z1 z2 z5 z6 z7 h nx R hi fun m' w1 w2 w5 w6 w7 h' nx' hlt hi'=>hR m' _ h' nx' hlt ⟨_,_,_,_,_,rfl,hi'⟩)
 kernel_rfl
theorem F94.k8:IR.run F94.b8 C N (fnO F94.res K0) K (F94.fr c b g f d i e l) h nx =
 K0 (I 0) h nx:=by kernel_rfl
theorem F95.tab:T.get none (.of 95) tbl=some F95:=by kernel_rfl
theorem F95.go:zX tbl N C (.of 95) [a0] h nx K0 =
 zy .lss .int a0 (I 0) fun v1=>sG v1 false (fun k=>k a0) fun v2=>sG v1 false (fun k=>zy .gtr .int v2 (I 256) k) fun v3=>gY v1 (.bool true) v3 fun v4=>C.fn 96 (.of 96) [v4,(I 3)] h nx fun v5 h6 n7=>K0 v5 h6 n7:=by
 rw [zJ F95.tab];kernel_rfl
theorem F96.tab:T.get none (.of 96) tbl=some F96:=by kernel_rfl
theorem F96.go:zX tbl N C (.of 96) [a0,a1] h nx K0 =
 yC a0 (K0 a1 h nx) (K0 (I 0) h nx):=by
 rw [zJ F96.tab];kernel_rfl
theorem F98.zr4 (X14:IR) (O:uh Prop) (t:T AV):IR.run (F98.g13 X14) C N O K t h nx=IR.run X14 C N (O.blk 4 K) K t h nx:=by kernel_rfl
theorem F98.zlj (X8:IR) (O:uh Prop) (t:T AV):IR.run (F98.g7 X8) C N O K t h nx=IR.run X8 C N (O.blk 2 K) K t h nx:=by kernel_rfl
theorem F98.tab:T.get none (.of 98) tbl=some F98:=by kernel_rfl
theorem F98.go:zX tbl N C (.of 98) [a0,a1,a2] h nx K0 =
 rW a2 h nx fun v1 h2 n3=>yJ [.jk] h2 n3 fun v4 h5 n6=>yJ [.zf] h5 n6 fun v7 h8 n9=>yJ [(.bool false)] h8 n9 fun vA hA nA=>C.fn 163 (.of 163) [a1] hA nA fun vD hB nB=>yJ [.zf,(.bool false)] hB nB fun vN hC nC=>zL 2 vN vD hC nC fun vO hD nD=>sChk (true&&(true&&true)) (zK 2 vN hD fun vP=>zK 2 vN hD fun vZ=>C.fn 123 (.of 123) [vP] hD nD fun v24 hN nO=>(zK 2 vN hN fun v52=>zI v52 vZ ((zK 2 vN hN fun v51=>zI v51 vP (mB hN nO fun vS hO nP=>(zK 2 vN hO fun v50=>zI v50 vZ ((zK 2 vN hO fun v49=>zI v49 vP (xO .str vS v24 vZ hO nP fun vL hP nQ=>(zK 2 vN hP fun v48=>zI v48 vZ ((zK 2 vN hP fun v47=>zI v47 vP (yJ [.jk] hP nQ fun vI hQ nR=>zI vS vS ((zK 2 vN hQ fun v46=>zI v46 vZ ((zK 2 vN hQ fun v45=>zI v45 vP (zL 1 vI vS hQ nR fun vF hS nS=>yJ [.zf] hS nS fun v39 hT nT=>C.fn 90 (.of 90) [a0] hT nT fun v42 hU nU=>IR.run (.rf (.t (.of 14)) [(.of 15),(.of 16)] F98.b3 F98.b4) C N ((fnO F98.res K0).blk 0 (IR.run F98.b23 C N (fnO F98.res K0) (wo F98.res K0))) (IR.run F98.b23 C N (fnO F98.res K0) (wo F98.res K0)) (F98.fr a0 a1 a2 v1 v4 v7 vA vN vI v39 .undef .undef .undef .undef v42 .undef .undef .undef .undef .undef .undef .undef .undef .undef .undef) hU nU)))))))))))))))))):=by
 rw [zJ F98.tab];kernel_rfl
theorem F98.k23:IR.run F98.b23 C N (fnO F98.res K0) K (F98.fr c b g f d i e l p z a o s q u v w y A B D F E G H) h nx =
 zE p h fun v1=>zE z h fun v2=>zL 1 d v1 h nx fun v3 h4 n5=>(zE z h4 fun vU=>zI vU v2 (zL 1 i v2 h4 n5 fun v6 h7 n8=>zL 1 e (.bool true) h7 n8 fun v9 hV nV=>zE d hV fun vC=>zE i hV fun vD=>zE e hV fun vE=>K0 (.tup [vC,vD,vE]) hV nV)):=by kernel_rfl
theorem F98.p4 {N:Nat} {C:Calls Prop} {K0:Kw Prop} {id nx:Pa} {j:Jump} {h:T Blk} {c b g f d i e l p z a o s q u v w y A B D F E G H z0 z1:AV} (hl:T.get .no id h=.loop .ready j (F98.fr c b g f d i e l p z a o s q u v w y A B D F E G H) [.of 15,.of 16] F98.b3 F98.b4) :
 wC N C id [z0,z1] h nx K0 =
 yJ [.zf,(.bool false)] h nx fun v1 h2 n3=>zL 2 v1 z1 h2 n3 fun v4 h5 n6=>rMid N C id K0 F98.b4 (F98.fr c b g f d i e l p z v1 o s q u z0 z1 y A B D F E G H) h5 n6:=by
 rw [zdh hl (tm1:=(F98.fr c b g f d i e l p z a o s q u z0 z1 y A B D F E G H)) (by intro k;kernel_rfl)];kernel_rfl
theorem F98.y4 {N:Nat} {C:Calls Prop} {K0:Kw Prop} {id nx:Pa} {h:T Blk} {c b g f d i e l p z a o s q u v w y A B D F E G H:AV} :
 IR.run F98.b4 C N (rO id K0) (yY id K0 .none true) (F98.fr c b g f d i e l p z a o s q u v w y A B D F E G H) h nx =
 zE p h fun v1=>zK 2 a h fun v2=>C.fn 121 (.of 121) [v1,v2] h nx fun v3 h4 n5=>yC v3 (yY id K0 .none true .e h4 n5) (zE z h4 fun v6=>zK 2 a h4 fun v7=>yV 2 1 [.zf,(.bool false)] [(0,2,v7)] h4 n5 fun v8 h9 nF=>xL C 2 32 v6 v8 h9 nF fun vB hF nG=>zL 1 z vB hF nG fun vE hL nM=>sChk (true&&true) (zK 2 l hL fun vV=>zK 2 l hL fun vW=>C.fn 123 (.of 123) [vV] hL nM fun vO hD nD=>(zK 2 l hD fun v38=>zI v38 vW ((zK 2 l hD fun v37=>zI v37 vV (mB hD nD fun vP hE nE=>(zK 2 l hE fun vF=>zI vF vW ((zK 2 l hE fun vG=>zI vG vV (xO .str vP vO vW hE nE fun vQ hG nH=>zL 1 p vP hG nH fun vT hH nI=>zK 2 l hH fun vK=>yV 2 1 [.zf,(.bool false)] [(0,2,vK)] hH nI fun vJ hW nW=>IR.run F98.b7 C N ((rO id K0).blk 1 (yY id K0 .none true)) (yY id K0 .none true) (F98.fr c b g f d i e l p z a vJ s q u v w v3 A B D F E G H) hW nW)))))))))):=by kernel_rfl
theorem F98.L7 {id:Pa} {E1:Ks Prop} (Inv:Nat->AV->T Blk->Pa->Prop) {m:Nat} (hm:m<N) (hi:Inv m o h nx)
  (step:∀ (m:Nat) (zB zC zD zF zG zH zN zO zP zR:AV) (h:T Blk) (nx:Pa) (R:Ks Prop),Inv m zB h nx->(∀ (m':Nat) (wD wE wF wG wH wI wJ wK wL wM:AV) (h':T Blk) (nx':Pa),m'<m->Inv m' wD h' nx'->R (F98.fr c b g f d i e l p z a wD wE wF u v w y wG wH wI wJ wK wL wM) h' nx'=.ok True) ->
   (sLen zB fun v1=>zy .gtr .int v1 (I 0) fun v2=>yC v2 (zE z h fun v3=>sLen v3 fun v4=>IR.run F98.b13 C N ((((rO id K0).blk 1 E1).blk 2 K).blk 3 (IR.run F98.b22 C N (((rO id K0).blk 1 E1).blk 2 K) R)) (IR.run F98.b22 C N (((rO id K0).blk 1 E1).blk 2 K) R) (F98.fr c b g f d i e l p z a zB zC zD u v w y v2 v3 v4 (I 0) zO zP zR) h nx) (K (F98.fr c b g f d i e l p z a zB zC zD u v w y v2 zG zH zN zO zP zR) h nx))=.ok True) :
  IR.run F98.b7 C N ((rO id K0).blk 1 E1) K (F98.fr c b g f d i e l p z a o s q u v w y A B D F E G H) h nx=.ok True:=by
 rw [F98.b7,F98.zlj,F98.b8];refine yH (fun m tm h nx=>∃ zB zC zD zF zG zH zN zO zP zR,tm=(F98.fr c b g f d i e l p z a zB zC zD u v w y zF zG zH zN zO zP zR)/\Inv m zB h nx) ?_ hm ⟨_,_,_,_,_,_,_,_,_,_,rfl,hi⟩;rintro m tm h nx R ⟨zB,zC,zD,zF,zG,zH,zN,zO,zP,zR,rfl,hi⟩ hR;refine Eq.trans ?_ (step m zB zC zD zF zG zH zN zO zP zR h nx R hi fun m' wD wE wF wG wH wI wJ wK wL wM h' nx' hlt hi'=>hR m' _ h' nx' hlt ⟨_,_,_,_,_,_,_,_,_,_,rfl,hi'⟩)
 kernel_rfl
theorem F98.k22 {id:Pa} {E1 E2:Ks Prop}:IR.run F98.b22 C N (((rO id K0).blk 1 E1).blk 2 E2) K (F98.fr c b g f d i e l p z a o s q u v w y A B D F E G H) h nx =
 gG 2 o (some (I 1)) none none fun v1=>K (F98.fr c b g f d i e l p z a v1 s q u v w y A B D F E G H) h nx:=by kernel_rfl
theorem F98.L13 {id:Pa} {E1 E2 E3:Ks Prop} (Inv:Nat->AV->AV->T Blk->Pa->Prop) {m:Nat} (hm:m<N) (hi:Inv m o F h nx)
  (step:∀ (m:Nat) (zB zC zD zN zO zP zR:AV) (h:T Blk) (nx:Pa) (R:Ks Prop),Inv m zB zN h nx->(∀ (m':Nat) (wD wE wF wJ wK wL wM:AV) (h':T Blk) (nx':Pa),m'<m->Inv m' wD wJ h' nx'->R (F98.fr c b g f d i e l p z a wD wE wF u v w y A B D wJ wK wL wM) h' nx'=.ok True) ->
   (zy .lss .int zN D fun v1=>yC v1 (zQ 2 B zN fun v2=>zK 2 v2 h fun v3=>yJ [.zf,(.bool false)] h nx fun v4 h5 n6=>zL 2 v4 v3 h5 n6 fun v7 h8 n9=>sChk (true&&true) (zK 2 v4 h8 fun vA=>zQ 2 zB (I 0) fun vB=>zK 2 vB h8 fun vC=>C.fn 122 (.of 122) [vA,vC] h8 n9 fun vD hB nB=>(zK 2 vB hB fun v65=>zI v65 vC ((zQ 2 zB (I 0) fun v64=>zI v64 vB (zI zB zB ((zK 2 v4 hB fun v63=>zI v63 vA (yJ [.zf,(.bool false)] hB nB fun vN hC nC=>(zK 2 vB hC fun v62=>zI v62 vC ((zQ 2 zB (I 0) fun v61=>zI v61 vB (zI zB zB ((zK 2 v4 hC fun v60=>zI v60 vA (zL 2 vN vD hC nC fun vO hD nD=>zE p hD fun vP=>zK 2 vN hD fun vZ=>C.fn 121 (.of 121) [vP,vZ] hD nD fun v24 hN nO=>yC v24 (zy .add .int zN (I 1) fun vS=>R (F98.fr c b g f d i e l p z a zB v4 vN u v w y A B D vS v1 v24 zR) hN nO) (zE p hN fun vT=>zid vT hN fun vM=>zE f hN fun vL=>zy .eql .int vM vL fun vK=>yC vK (zL 1 d .jk hN nO fun vJ hW nW=>zL 1 i .zf hW nW fun vG hX nX=>zL 1 e (.bool false) hX nX fun v38 hY nY=>yY id K0 .ret false .e hY nY) (zE p hN fun v41=>zK 2 vN hN fun v42=>zK 2 vN hN fun v43=>C.fn 123 (.of 123) [v42] hN nO fun v44 hZ nZ=>(zK 2 vN hZ fun v59=>zI v59 v43 ((zE p hZ fun v58=>zI v58 v41 (xO .str v41 v44 v43 hZ nZ fun v47 h48 n49=>zK 2 vN h48 fun v50=>yV 2 1 [.zf,(.bool false)] [(0,2,v50)] h48 n49 fun v51 h52 n53=>xL C 2 32 zB v51 h52 n53 fun v54 h55 n56=>zy .add .int zN (I 1) fun v57=>R (F98.fr c b g f d i e l p z a v54 v4 vN u v w y A B D v57 v1 v24 vK) h55 n56)))))))))))))))))))))) (K (F98.fr c b g f d i e l p z a zB zC zD u v w y A B D zN v1 zP zR) h nx))=.ok True) :
  IR.run F98.b13 C N ((((rO id K0).blk 1 E1).blk 2 E2).blk 3 E3) K (F98.fr c b g f d i e l p z a o s q u v w y A B D F E G H) h nx=.ok True:=by
 rw [F98.b13,F98.zr4,F98.b14];refine yH (fun m tm h nx=>∃ zB zC zD zN zO zP zR,tm=(F98.fr c b g f d i e l p z a zB zC zD u v w y A B D zN zO zP zR)/\Inv m zB zN h nx) ?_ hm ⟨_,_,_,_,_,_,_,rfl,hi⟩;rintro m tm h nx R ⟨zB,zC,zD,zN,zO,zP,zR,rfl,hi⟩ hR;refine Eq.trans ?_ (step m zB zC zD zN zO zP zR h nx R hi fun m' wD wE wF wJ wK wL wM h' nx' hlt hi'=>hR m' _ h' nx' hlt ⟨_,_,_,_,_,_,_,rfl,hi'⟩)
 kernel_rfl
theorem F92.tab:T.get none (.of 92) tbl=some F92:=by kernel_rfl
theorem F92.go:zX tbl N C (.of 92) [a0,a1] h nx K0 =
 rW a0 h nx fun v1 h2 n3=>yJ [.jk] h2 n3 fun v4 h5 n6=>yJ [.zf] h5 n6 fun v7 h8 n9=>yJ [(I 0)] h8 n9 fun vA hA nA=>zE v1 hA fun vD=>sLen vD fun vE=>zy .eql .int vE (I 0) fun vU=>zE v1 hA fun vN=>sLen vN fun vV=>zy .gtr .int vV (I 1536) fun vW=>C.fn 95 (.of 95) [a1] hA nA fun vO hD nD=>(zy .gtr .int vV (I 1536) fun v76=>zI v76 vW ((sLen vN fun v75=>zI v75 vV ((zE v1 hD fun v74=>zI v74 vN ((zy .eql .int vE (I 0) fun v73=>zI v73 vU ((sLen vD fun v72=>zI v72 vE ((zE v1 hD fun v71=>zI v71 vD (C.fn 96 (.of 96) [vU,(I 12)] hD nD fun vP hE nE=>(zy .gtr .int vV (I 1536) fun v70=>zI v70 vW ((sLen vN fun v69=>zI v69 vV ((zE v1 hE fun v68=>zI v68 vN (C.fn 96 (.of 96) [vW,(I 5)] hE nE fun vQ hG nH=>yV 1 3 [(I 0)] [(0,1,vO),(1,1,vP),(2,1,vQ)] hG nH fun vT hH nI=>C.fn 94 (.of 94) [vT] hH nI fun vK h32 n33=>zy .neq .int vK (I 0) fun vH=>yC vH (zL 1 v4 .jk h32 n33 fun vG hX nX=>zL 1 v7 .zf hX nX fun v38 hY nY=>zL 1 vA vK hY nY fun v41 h42 n43=>zE v4 h42 fun v44=>zE v7 h42 fun v45=>zE vA h42 fun v46=>K0 (.tup [v44,v45,v46]) h42 n43) (zE v1 h32 fun v47=>C.fn 97 (.of 97) [v47,a1] h32 n33 fun v48 h49 n50=>zy .neq .int v48 (I 0) fun v51=>yC v51 (zL 1 v4 .jk h49 n50 fun v52 h53 n54=>zL 1 v7 .zf h53 n54 fun v55 h56 n57=>zL 1 vA v48 h56 n57 fun v58 h59 n60=>zE v4 h59 fun v61=>zE v7 h59 fun v62=>zE vA h59 fun v63=>K0 (.tup [v61,v62,v63]) h59 n60) (zE v1 h49 fun v64=>C.fn 90 (.of 90) [v64] h49 n50 fun v65 h66 n67=>IR.run (.rf (.t (.of 15)) [(.of 16),(.of 17)] F92.b5 F92.b6) C N ((fnO F92.res K0).blk 0 (IR.run F92.b8 C N (fnO F92.res K0) (wo F92.res K0))) (IR.run F92.b8 C N (fnO F92.res K0) (wo F92.res K0)) (F92.fr a0 a1 v1 v4 v7 vA vK v48 .undef .undef .undef .undef .undef vH v51 v65 .undef .undef .undef .undef) h66 n67)))))))))))))))))))):=by
 rw [zJ F92.tab];kernel_rfl
theorem F92.k8:IR.run F92.b8 C N (fnO F92.res K0) K (F92.fr c b g f d i e l p z a o s q u v w y A B) h nx =
 zE g h fun v1=>zE g h fun v2=>sLen v2 fun v3=>C.fn 98 (.of 98) [v1,b,v3] h nx fun v4 h5 n6=>fF 0 v4 fun v7=>fF 1 v4 fun v8=>fF 2 v4 fun v9=>oQ v9 fun vA=>sG vA false (fun k=>k v7) fun vB=>sG vA false (fun k=>zid vB h5 k) fun vC=>sG vA false (fun k=>zE g h5 k) fun vD=>sG vA false (fun k=>sLen vD k) fun vE=>sG vA false (fun k=>zy .neq .int vC vE k) fun vU=>gY vA (.bool true) vU fun vN=>yC vN (zL 1 f .jk h5 n6 fun vV h18 n19=>zL 1 d .zf h18 n19 fun vX hI nJ=>zL 1 i (I 28) hI nJ fun vZ hJ nK=>zE f hJ fun vR=>zE d hJ fun vS=>zE i hJ fun vT=>K0 (.tup [vR,vS,vT]) hJ nK) ((IR.run F92.b9 C N (fnO F92.res K0) K) (F92.fr c b g f d i e l p z v7 v8 v9 q u v w y A vN) h5 n6):=by kernel_rfl
theorem F92.p6 {N:Nat} {C:Calls Prop} {K0:Kw Prop} {id nx:Pa} {j:Jump} {h:T Blk} {c b g f d i e l p z a o s q u v w y A B z0 z1:AV} (hl:T.get .no id h=.loop .ready j (F92.fr c b g f d i e l p z a o s q u v w y A B) [.of 16,.of 17] F92.b5 F92.b6) :
 wC N C id [z0,z1] h nx K0 =
 yJ [.zf,(.bool false)] h nx fun v1 h2 n3=>zL 2 v1 z1 h2 n3 fun v4 h5 n6=>rMid N C id K0 F92.b6 (F92.fr c b g f d i e l z0 v1 a o s q u v z0 z1 A B) h5 n6:=by
 rw [zdh hl (tm1:=(F92.fr c b g f d i e l p z a o s q u v z0 z1 A B)) (by intro k;kernel_rfl)];kernel_rfl
theorem F92.y6 {N:Nat} {C:Calls Prop} {K0:Kw Prop} {id nx:Pa} {h:T Blk} {c b g f d i e l p z a o s q u v w y A B:AV} :
 IR.run F92.b6 C N (rO id K0) (yY id K0 .none true) (F92.fr c b g f d i e l p z a o s q u v w y A B) h nx =
 zy .gtr .int p (I 0) fun v1=>sG v1 true (fun k=>zE g h k) fun v2=>sG v1 true (fun k=>k p) fun v3=>sG v1 true (fun k=>zy .sub .int v3 (I 1) k) fun v4=>sG v1 true (fun k=>zQ 2 v2 v4 k) fun v5=>sG v1 true (fun k=>zK 2 v5 h k) fun v6=>sG v1 true (fun k=>zK 2 z h k) fun v7=>sGW v1 true (fun k=>C.fn 162 (.of 162) [v6,v7] h nx k) h nx fun v8 h9 nF=>sG v1 true (fun k=>zy .geq .int v8 (I 0) k) fun vB=>gY v1 vB (.bool false) fun vC=>yC vC (zL 1 f .jk h9 nF fun vD hB nB=>zL 1 d .zf hB nB fun vN hC nC=>zL 1 i (I 11) hC nC fun vO hD nD=>yY id K0 .ret false .e hD nD) (yY id K0 .none true .e h9 nF):=by kernel_rfl
theorem F92.k9:IR.run F92.b9 C N (fnO F92.res K0) K (F92.fr c b g f d i e l p z a o s q u v w y A B) h nx =
 zL 1 f a h nx fun v1 h2 n3=>zL 1 d o h2 n3 fun v4 h5 n6=>zL 1 i (I 0) h5 n6 fun v7 h8 n9=>zE f h8 fun vA=>zE d h8 fun vB=>zE i h8 fun vC=>K0 (.tup [vA,vB,vC]) h8 n9:=by kernel_rfl
theorem F22.tab:T.get none (.of 22) tbl=some F22:=by kernel_rfl
theorem F22.go:zX tbl N C (.of 22) [a0,a1] h nx K0 =
 C.fn 92 (.of 92) [a0,a1] h nx fun v1 h2 n3=>fF 0 v1 fun v4=>fF 1 v1 fun v5=>fF 2 v1 fun v6=>K0 v6 h2 n3:=by
 rw [zJ F22.tab];kernel_rfl
end Go.Ev
namespace Go.Ev
open Go Go.Proofs
set_option maxRecDepth 100000
section
variable {N:Nat} {C:Calls Prop} {K0:Kw Prop} {K:Ks Prop} {h:T Blk} {nx:Pa} {c b g f d i e l p z a o a0 a1:AV} {O:uh Prop} {tm:T AV} {Kt:KTm} {r:List RO} {s0 s1 s2 s3 s4 s5 s6 s7 s8 s9 s10 s11 s12 s13 s14 s15 s16 s17 s18 s19 s20 s21 s22 s23 s24 s25 s26 s27 s28 s29 s30 s31 s32 s33 s34 s35 s36 s37 s38 s39 s40 s41 s42 s43 s44 s45 s46 s47 s48 s49 s50 s51 s52 s53 s54 s55 s56 s57 s58 s59:AV}
end
end Go.Ev
namespace Go.Ev
open Go Go.Proofs
set_option maxRecDepth 100000
section
variable {N:Nat} {C:Calls Prop} {K0:Kw Prop} {K:Ks Prop} {h:T Blk} {nx:Pa} {c b g f d i e a0 a1 a2 a3:AV} {O:uh Prop} {tm:T AV} {Kt:KTm} {r:List RO} {s0 s1 s2 s3 s4 s5 s6 s7 s8 s9 s10 s11 s12 s13 s14 s15 s16 s17 s18 s19 s20 s21 s22 s23 s24 s25 s26 s27 s28 s29 s30 s31 s32 s33 s34 s35 s36 s37 s38 s39 s40 s41 s42 s43 s44 s45 s46 s47 s48 s49 s50 s51 s52 s53 s54 s55 s56 s57 s58 s59:AV}
def F28.t0:IR:=.reg [.q (.of 4) (.mv (.c (.bool false)))]
def F28.t1:IR:=.reg [.s (.mv (.t (.of 2))),.q (.of 5) (.bin .neq .int (.s 0) (.c (I 0)))]
def F28.t2:IR:=.reg [.s (.mv (.t (.of 0))),.s (.len (.s 0)),.s (.bin .eql .int (.s 0) (.c (I 0))),.s (.mv (.s 0)),.p .push (some ((.s 0),true)) (.mv (.t (.of 1))),.p .push (some ((.s 1),true)) (.mv (.t (.of 2))),.p .push (some ((.s 2),true)) (.bin .eql .int (.s 1) (.s 0)),.s (.pick (.s 3) (.s 0) (.c (.bool false))),.q (.of 4) (.mv (.s 0))]
def F28.t3:IR:=.seq F28.t2 .ret
def F28.t4:IR:=.cond (.t (.of 5)) F28.t3 .skip
def F28.t5:IR:=.seq F28.t1 F28.t4
def F28.t6:IR:=.reg [.s (.mv (.t (.of 1))),.s (.bin .eql .int (.s 0) (.c (I 0))),.s (.mv (.s 0)),.p .push (some ((.s 0),true)) (.mv (.t (.of 0))),.p .push (some ((.s 1),true)) (.mv (.t (.of 3))),.w .push (some ((.s 2),true)) (.call (.c (.fn 69 (.of 69) [])) [(.s 1),(.s 0)]),.s (.pick (.s 3) (.s 0) (.c (.bool false))),.q (.of 4) (.mv (.s 0))]
def F28.t7:IR:=.seq F28.t6 .ret
def F28.t8:IR:=.seq F28.t5 F28.t7
def F28.t9:IR:=.seq F28.t0 F28.t8
theorem F28.fU:IR.run F28.t0 C N O K (F28.fr c b g f d i) h nx =
 K (F28.fr c b g f (.bool false) i) h nx:=by kernel_rfl
theorem F28.fV:IR.run F28.t1 C N O K (F28.fr c b g f d i) h nx =
 zy .neq .int g (I 0) fun v1=>K (F28.fr c b g f d v1) h nx:=by kernel_rfl
theorem F28.rP:IR.run F28.t2 C N O K (F28.fr c b g f d i) h nx =
 sLen c fun v1=>zy .eql .int v1 (I 0) fun v2=>sG v2 true (fun k=>k b) fun v3=>sG v2 true (fun k=>k g) fun v4=>sG v2 true (fun k=>zy .eql .int v3 v4 k) fun v5=>gY v2 v5 (.bool false) fun v6=>K (F28.fr c b g f v6 i) h nx:=by kernel_rfl
theorem F28.v5:Arg.ev (.t (.of 5)) ⟨(F28.fr c b g f d i),[]⟩=i:=by kernel_rfl
theorem F28.oW:IR.run F28.t6 C N O K (F28.fr c b g f d i) h nx =
 zy .eql .int b (I 0) fun v1=>sG v1 true (fun k=>k c) fun v2=>sG v1 true (fun k=>k f) fun v3=>sGW v1 true (fun k=>C.fn 69 (.of 69) [v2,v3] h nx k) h nx fun v4 h5 n6=>gY v1 v4 (.bool false) fun v7=>K (F28.fr c b g f v7 i) h5 n6:=by kernel_rfl
theorem F28.tab:T.get none (.of 28) tbl=some F28:=by kernel_rfl
theorem F28.bind (k:T AV->OP):yO F28.params [a0,a1,a2,a3] F28.init k=k (F28.fr a0 a1 a2 a3 .undef .undef):=by kernel_rfl
theorem F28.jq:F28.body=F28.t9:=by kernel_rfl
theorem F28.go:zX tbl N C (.of 28) [a0,a1,a2,a3] h nx K0=IR.run F28.t9 C N (fnO F28.res K0) (wo F28.res K0) (F28.fr a0 a1 a2 a3 .undef .undef) h nx:=by
 rw [zJ F28.tab,F28.bind,F28.jq];kernel_rfl
theorem F28.ret:wo F28.res K0 (F28.fr c b g f d i) h nx=K0 d h nx:=by kernel_rfl
def F69.t0:IR:=.reg [.q (.of 2) (.mv (.c (.bool false)))]
def F69.t1:IR:=.reg [.s (.mv (.t (.of 0))),.s (.len (.s 0)),.s (.mv (.t (.of 1))),.s (.len (.s 0)),.q (.of 4) (.bin .neq .int (.s 2) (.s 0))]
def F69.t2:IR:=.reg [.q (.of 2) (.mv (.c (.bool false)))]
def F69.t3:IR:=.seq F69.t2 .ret
def F69.t4:IR:=.cond (.t (.of 4)) F69.t3 .skip
def F69.t5:IR:=.seq F69.t1 F69.t4
def F69.t6:IR:=.reg [.q (.of 3) (.mv (.c (I 0)))]
def F69.t7:IR:=.reg [.s (.mv (.t (.of 3))),.s (.mv (.t (.of 0))),.s (.len (.s 0)),.q (.of 5) (.bin .lss .int (.s 2) (.s 0))]
def F69.t8:IR:=.cond (.t (.of 5)) .skip (.exit 0)
def F69.t9:IR:=.seq F69.t7 F69.t8
def F69.t10:IR:=.yu [] [(.s (.mv (.t (.of 0))),0,[]),(.s (.mv (.t (.of 3))),0,[]),(.s (.zo 2 (.s 1) (.s 0)),0,[]),(.s (.zi 2 (.s 0)),0,[]),(.s (.mv (.t (.of 1))),0,[]),(.s (.mv (.t (.of 3))),0,[]),(.s (.zo 2 (.s 1) (.s 0)),0,[]),(.s (.zi 2 (.s 0)),0,[]),(.w .push none (.call (.c (.fn 30 (.of 30) [])) [(.s 4),(.s 0)]),0,[]),(.q (.of 6) (.not (.s 0)),0,[])]
def F69.t11:IR:=.reg [.q (.of 2) (.mv (.c (.bool false)))]
def F69.t12:IR:=.seq F69.t11 .ret
def F69.t13:IR:=.cond (.t (.of 6)) F69.t12 .skip
def F69.t14:IR:=.seq F69.t10 F69.t13
def F69.t15:IR:=.block 1 F69.t14
def F69.t16:IR:=.reg [.s (.mv (.t (.of 3))),.s (.bin .add .int (.s 0) (.c (I 1))),.q (.of 3) (.mv (.s 0))]
def F69.t17:IR:=.seq F69.t15 F69.t16
def F69.t18:IR:=.seq F69.t9 F69.t17
def F69.t19:IR:=.loop F69.t18
def F69.t20:IR:=.block 0 F69.t19
def F69.t21:IR:=.seq F69.t6 F69.t20
def F69.t22:IR:=.reg [.q (.of 2) (.mv (.c (.bool true)))]
def F69.t23:IR:=.seq F69.t22 .ret
def F69.t24:IR:=.seq F69.t21 F69.t23
def F69.t25:IR:=.seq F69.t5 F69.t24
def F69.t26:IR:=.seq F69.t0 F69.t25
theorem F69.fU:IR.run F69.t0 C N O K (F69.fr c b g f d i e) h nx =
 K (F69.fr c b (.bool false) f d i e) h nx:=by kernel_rfl
theorem F69.fV:IR.run F69.t1 C N O K (F69.fr c b g f d i e) h nx =
 sLen c fun v1=>sLen b fun v2=>zy .neq .int v1 v2 fun v3=>K (F69.fr c b g f v3 i e) h nx:=by kernel_rfl
theorem F69.v4:Arg.ev (.t (.of 4)) ⟨(F69.fr c b g f d i e),[]⟩=d:=by kernel_rfl
theorem F69.oW:IR.run F69.t6 C N O K (F69.fr c b g f d i e) h nx =
 K (F69.fr c b g (I 0) d i e) h nx:=by kernel_rfl
theorem F69.t7_s:IR.run F69.t7 C N O K (F69.fr c b g f d i e) h nx =
 sLen c fun v1=>zy .lss .int f v1 fun v2=>K (F69.fr c b g f d v2 e) h nx:=by kernel_rfl
theorem F69.v5:Arg.ev (.t (.of 5)) ⟨(F69.fr c b g f d i e),[]⟩=i:=by kernel_rfl
theorem F69.eF:IR.run F69.t10 C N O K (F69.fr c b g f d i e) h nx =
 zQ 2 c f fun v1=>zK 2 v1 h fun v2=>zQ 2 b f fun v3=>zK 2 v3 h fun v4=>C.fn 30 (.of 30) [v2,v4] h nx fun v5 h6 n7=>oQ v5 fun v8=>K (F69.fr c b g f d i v8) h6 n7:=by kernel_rfl
theorem F69.v6:Arg.ev (.t (.of 6)) ⟨(F69.fr c b g f d i e),[]⟩=e:=by kernel_rfl
theorem F69.fZ:IR.run F69.t16 C N O K (F69.fr c b g f d i e) h nx =
 zy .add .int f (I 1) fun v1=>K (F69.fr c b g v1 d i e) h nx:=by kernel_rfl
theorem F69.ztw (Inv:Nat->AV->T Blk->Pa->Prop) {m:Nat} (hm:m<N) (hi:Inv m f h nx)
  (step:∀ (m:Nat) (z2 z3 z5 z6:AV) (h:T Blk) (nx:Pa) (R:Ks Prop),Inv m z3 h nx->(∀ (m':Nat) (w2 w3 w5 w6:AV) (h':T Blk) (nx':Pa),m'<m->Inv m' w3 h' nx'->R (F69.fr c b w2 w3 d w5 w6) h' nx'=.ok True)->IR.run F69.t18 C N O R (F69.fr c b z2 z3 d z5 z6) h nx=.ok True) :
  IR.run F69.t19 C N O K (F69.fr c b g f d i e) h nx=.ok True:=by
 rw [F69.t19];refine yH (fun m tm h nx=>∃ z2 z3 z5 z6,tm=(F69.fr c b z2 z3 d z5 z6)/\Inv m z3 h nx) ?_ hm ⟨_,_,_,_,rfl,hi⟩;rintro m tm h nx R ⟨z2,z3,z5,z6,rfl,hi⟩ hR;exact step m z2 z3 z5 z6 h nx R hi fun m' w2 w3 w5 w6 h' nx' hlt hi'=>hR m' _ h' nx' hlt ⟨_,_,_,_,rfl,hi'⟩
theorem F69.zem:IR.run F69.t22 C N O K (F69.fr c b g f d i e) h nx =
 K (F69.fr c b (.bool true) f d i e) h nx:=by kernel_rfl
theorem F69.tab:T.get none (.of 69) tbl=some F69:=by kernel_rfl
theorem F69.bind (k:T AV->OP):yO F69.params [a0,a1] F69.init k=k (F69.fr a0 a1 .undef .undef .undef .undef .undef):=by kernel_rfl
theorem F69.jq:F69.body=F69.t26:=by kernel_rfl
theorem F69.go:zX tbl N C (.of 69) [a0,a1] h nx K0=IR.run F69.t26 C N (fnO F69.res K0) (wo F69.res K0) (F69.fr a0 a1 .undef .undef .undef .undef .undef) h nx:=by
 rw [zJ F69.tab,F69.bind,F69.jq];kernel_rfl
theorem F69.ret:wo F69.res K0 (F69.fr c b g f d i e) h nx=K0 g h nx:=by kernel_rfl
end
end Go.Ev
namespace Go.Ev
open Go Go.Proofs
set_option maxRecDepth 100000
section
variable {N:Nat} {C:Calls Prop} {K0:Kw Prop} {K:Ks Prop} {h:T Blk} {nx:Pa} {c b g f d i e l p z a o s q u v a0 a1 a2 a3:AV} {O:uh Prop} {tm:T AV} {Kt:KTm} {r:List RO} {s0 s1 s2 s3 s4 s5 s6 s7 s8 s9 s10 s11 s12 s13 s14 s15 s16 s17 s18 s19 s20 s21 s22 s23 s24 s25 s26 s27 s28 s29 s30 s31 s32 s33 s34 s35 s36 s37 s38 s39 s40 s41 s42 s43 s44 s45 s46 s47 s48 s49 s50 s51 s52 s53 s54 s55 s56 s57 s58 s59:AV}
end
end Go.Ev
namespace Go.Ev
open Go Go.Proofs
set_option maxRecDepth 100000
section
variable {N:Nat} {C:Calls Prop} {K0:Kw Prop} {K:Ks Prop} {h:T Blk} {nx:Pa} {c b g f d i e l p z a o s q u v w y a0 a1 a2:AV} {O:uh Prop} {tm:T AV} {Kt:KTm} {r:List RO} {s0 s1 s2 s3 s4 s5 s6 s7 s8 s9 s10 s11 s12 s13 s14 s15 s16 s17 s18 s19 s20 s21 s22 s23 s24 s25 s26 s27 s28 s29 s30 s31 s32 s33 s34 s35 s36 s37 s38 s39 s40 s41 s42 s43 s44 s45 s46 s47 s48 s49 s50 s51 s52 s53 s54 s55 s56 s57 s58 s59:AV}
def zk.t0:IR:=.reg [.q (.of 3) (.mv (.c .jk)),.w (.loc (.of 4)) none (.alloc [.zf,.zf]),.q (.of 5) (.mv (.c (I 0)))]
def zk.t1:IR:=.reg [.w (.loc (.of 6)) none (.alloc [.zf,.zf])]
def zk.t2:IR:=.reg [.s (.mv (.t (.of 0))),.s (.mv (.t (.of 2))),.w .push none (.call (.c (.fn 92 (.of 92) [])) [(.s 1),(.s 0)]),.s (.mv (.s 0)),.s (.ext 0 (.s 0)),.s (.ext 1 (.s 1)),.s (.ext 2 (.s 2)),.q (.of 7) (.mv (.s 2)),.q (.of 8) (.mv (.s 1)),.q (.of 9) (.mv (.s 0))]
def zk.t3:IR:=.reg [.s (.mv (.t (.of 9))),.q (.of 13) (.bin .neq .int (.s 0) (.c (I 0)))]
def zk.t4:IR:=.yu [] [(.s (.zi 2 (.t (.of 6))),0,[]),(.s (.mv (.t (.of 9))),1,[]),(.q (.of 3) (.mv (.c .jk)),0,[]),(.w .none none (.store 2 (.t (.of 4)) (.s 1)),0,[]),(.q (.of 5) (.mv (.s 0)),0,[])]
def zk.t5:IR:=.seq zk.t4 .ret
def zk.t6:IR:=.cond (.t (.of 13)) zk.t5 .skip
def zk.t7:IR:=.seq zk.t3 zk.t6
def zk.t8:IR:=.reg [.s (.mv (.t (.of 1))),.s (.mv (.t (.of 2))),.w .push none (.call (.c (.fn 92 (.of 92) [])) [(.s 1),(.s 0)]),.s (.mv (.s 0)),.s (.ext 0 (.s 0)),.s (.ext 1 (.s 1)),.s (.ext 2 (.s 2)),.q (.of 10) (.mv (.s 2)),.q (.of 11) (.mv (.s 1)),.q (.of 9) (.mv (.s 0))]
def zk.t9:IR:=.reg [.s (.mv (.t (.of 9))),.q (.of 14) (.bin .neq .int (.s 0) (.c (I 0)))]
def zk.t10:IR:=.yu [] [(.s (.zi 2 (.t (.of 6))),0,[]),(.s (.mv (.t (.of 9))),1,[]),(.q (.of 3) (.mv (.c .jk)),0,[]),(.w .none none (.store 2 (.t (.of 4)) (.s 1)),0,[]),(.q (.of 5) (.mv (.s 0)),0,[])]
def zk.t11:IR:=.seq zk.t10 .ret
def zk.t12:IR:=.cond (.t (.of 14)) zk.t11 .skip
def zk.t13:IR:=.seq zk.t9 zk.t12
def zk.t14:IR:=.reg [.s (.mv (.t (.of 10))),.w (.loc (.of 15)) none (.range (.s 0))]
def zk.t15:IR:=.reg [.w .push none (.next (.t (.of 15))),.q (.of 16) (.ext 0 (.s 0))]
def zk.t16:IR:=.cond (.t (.of 16)) .skip (.exit 0)
def zk.t17:IR:=.reg [.s (.entry (.t (.of 15))),.s (.ext 1 (.s 0)),.w (.loc (.of 12)) none (.alloc [.zf,(.bool false)]),.w .none none (.store 2 (.t (.of 12)) (.s 0))]
def zk.t18:IR:=.reg [.s (.mv (.t (.of 7))),.s (.zi 2 (.t (.of 12))),.w .push none (.call (.c (.fn 121 (.of 121) [])) [(.s 1),(.s 0)]),.q (.of 17) (.not (.s 0))]
def zk.t19:IR:=.yu [] [(.s (.zi 2 (.t (.of 6))),0,[]),(.q (.of 3) (.mv (.c .jk)),0,[]),(.w .none none (.store 2 (.t (.of 4)) (.s 0)),0,[]),(.q (.of 5) (.mv (.c (I 28))),0,[])]
def zk.t20:IR:=.seq zk.t19 .ret
def zk.t21:IR:=.cond (.t (.of 17)) zk.t20 .skip
def zk.t22:IR:=.seq zk.t18 zk.t21
def zk.t23:IR:=.seq zk.t17 zk.t22
def zk.t24:IR:=.block 1 zk.t23
def zk.t25:IR:=.seq zk.t16 zk.t24
def zk.t26:IR:=.seq zk.t15 zk.t25
def zk.t27:IR:=.loop zk.t26
def zk.t28:IR:=.block 0 zk.t27
def zk.t29:IR:=.seq zk.t14 zk.t28
def zk.t30:IR:=.reg [.s (.mv (.t (.of 8))),.s (.mv (.t (.of 11))),.s (.aN 1 2 (.t (.of 6)) (.c (I 0))),.w .none none (.store 1 (.s 0) (.s 2)),.s (.aN 1 2 (.t (.of 6)) (.c (I 1))),.w .none none (.store 1 (.s 0) (.s 2))]
def zk.t31:IR:=.yu [] [(.s (.mv (.t (.of 10))),0,[]),(.s (.zi 2 (.t (.of 6))),0,[]),(.q (.of 3) (.mv (.s 1)),0,[]),(.w .none none (.store 2 (.t (.of 4)) (.s 0)),0,[]),(.q (.of 5) (.mv (.c (I 0))),0,[])]
def zk.t32:IR:=.seq zk.t31 .ret
def zk.t33:IR:=.seq zk.t30 zk.t32
def zk.t34:IR:=.seq zk.t29 zk.t33
def zk.t35:IR:=.seq zk.t13 zk.t34
def zk.t36:IR:=.seq zk.t8 zk.t35
def zk.t37:IR:=.seq zk.t7 zk.t36
def zk.t38:IR:=.seq zk.t2 zk.t37
def zk.t39:IR:=.seq zk.t1 zk.t38
def zk.t40:IR:=.seq zk.t0 zk.t39
theorem zk.fU:IR.run zk.t0 C N O K (zk.fr c b g f d i e l p z a o s q u v w y) h nx =
 yJ [.zf,.zf] h nx fun v1 h2 n3=>K (zk.fr c b g .jk v1 (I 0) e l p z a o s q u v w y) h2 n3:=by kernel_rfl
theorem zk.fV:IR.run zk.t1 C N O K (zk.fr c b g f d i e l p z a o s q u v w y) h nx =
 yJ [.zf,.zf] h nx fun v1 h2 n3=>K (zk.fr c b g f d i v1 l p z a o s q u v w y) h2 n3:=by kernel_rfl
theorem zk.rP:IR.run zk.t2 C N O K (zk.fr c b g f d i e l p z a o s q u v w y) h nx =
 C.fn 92 (.of 92) [c,g] h nx fun v1 h2 n3=>fF 0 v1 fun v4=>fF 1 v1 fun v5=>fF 2 v1 fun v6=>K (zk.fr c b g f d i e v4 v5 v6 a o s q u v w y) h2 n3:=by kernel_rfl
theorem zk.au:IR.run zk.t3 C N O K (zk.fr c b g f d i e l p z a o s q u v w y) h nx =
 zy .neq .int z (I 0) fun v1=>K (zk.fr c b g f d i e l p z a o s v1 u v w y) h nx:=by kernel_rfl
theorem zk.t4_s:IR.run zk.t4 C N O K (zk.fr c b g f d i e l p z a o s q u v w y) h nx =
 zK 2 e h fun v1=>zL 2 d v1 h nx fun v2 h3 n4=>zI z z (K (zk.fr c b g .jk d z e l p z a o s q u v w y) h3 n4):=by kernel_rfl
theorem zk.v13:Arg.ev (.t (.of 13)) ⟨(zk.fr c b g f d i e l p z a o s q u v w y),[]⟩=q:=by kernel_rfl
theorem zk.aG:IR.run zk.t8 C N O K (zk.fr c b g f d i e l p z a o s q u v w y) h nx =
 C.fn 92 (.of 92) [b,g] h nx fun v1 h2 n3=>fF 0 v1 fun v4=>fF 1 v1 fun v5=>fF 2 v1 fun v6=>K (zk.fr c b g f d i e l p v6 v4 v5 s q u v w y) h2 n3:=by kernel_rfl
theorem zk.aQ:IR.run zk.t9 C N O K (zk.fr c b g f d i e l p z a o s q u v w y) h nx =
 zy .neq .int z (I 0) fun v1=>K (zk.fr c b g f d i e l p z a o s q v1 v w y) h nx:=by kernel_rfl
theorem zk.eF:IR.run zk.t10 C N O K (zk.fr c b g f d i e l p z a o s q u v w y) h nx =
 zK 2 e h fun v1=>zL 2 d v1 h nx fun v2 h3 n4=>zI z z (K (zk.fr c b g .jk d z e l p z a o s q u v w y) h3 n4):=by kernel_rfl
theorem zk.v14:Arg.ev (.t (.of 14)) ⟨(zk.fr c b g f d i e l p z a o s q u v w y),[]⟩=u:=by kernel_rfl
theorem zk.zah:IR.run zk.t14 C N O K (zk.fr c b g f d i e l p z a o s q u v w y) h nx =
 zdi a h nx fun v1 h2 n3=>K (zk.fr c b g f d i e l p z a o s q u v1 w y) h2 n3:=by kernel_rfl
theorem zk.eG:IR.run zk.t15 C N O K (zk.fr c b g f d i e l p z a o s q u v w y) h nx =
 zie C v h nx fun v1 h2 n3=>fF 0 v1 fun v4=>K (zk.fr c b g f d i e l p z a o s q u v v4 y) h2 n3:=by kernel_rfl
theorem zk.v16:Arg.ev (.t (.of 16)) ⟨(zk.fr c b g f d i e l p z a o s q u v w y),[]⟩=w:=by kernel_rfl
theorem zk.aO:IR.run zk.t17 C N O K (zk.fr c b g f d i e l p z a o s q u v w y) h nx =
 zdj v h fun v1=>fF 1 v1 fun v2=>yJ [.zf,(.bool false)] h nx fun v3 h4 n5=>zL 2 v3 v2 h4 n5 fun v6 h7 n8=>K (zk.fr c b g f d i e l p z a o v3 q u v w y) h7 n8:=by kernel_rfl
theorem zk.zen:IR.run zk.t18 C N O K (zk.fr c b g f d i e l p z a o s q u v w y) h nx =
 zK 2 s h fun v1=>C.fn 121 (.of 121) [l,v1] h nx fun v2 h3 n4=>oQ v2 fun v5=>K (zk.fr c b g f d i e l p z a o s q u v w v5) h3 n4:=by kernel_rfl
theorem zk.zal:IR.run zk.t19 C N O K (zk.fr c b g f d i e l p z a o s q u v w y) h nx =
 zK 2 e h fun v1=>zL 2 d v1 h nx fun v2 h3 n4=>K (zk.fr c b g .jk d (I 28) e l p z a o s q u v w y) h3 n4:=by kernel_rfl
theorem zk.v17:Arg.ev (.t (.of 17)) ⟨(zk.fr c b g f d i e l p z a o s q u v w y),[]⟩=y:=by kernel_rfl
theorem zk.ztx (Inv:Nat->T Blk->Pa->Prop) {m:Nat} (hm:m<N) (hi:Inv m h nx)
  (step:∀ (m:Nat) (z3 z5 zC zS zT:AV) (h:T Blk) (nx:Pa) (R:Ks Prop),Inv m h nx->(∀ (m':Nat) (w3 w5 wE wN wO:AV) (h':T Blk) (nx':Pa),m'<m->Inv m' h' nx'->R (zk.fr c b g w3 d w5 e l p z a o wE q u v wN wO) h' nx'=.ok True)->IR.run zk.t26 C N O R (zk.fr c b g z3 d z5 e l p z a o zC q u v zS zT) h nx=.ok True) :
  IR.run zk.t27 C N O K (zk.fr c b g f d i e l p z a o s q u v w y) h nx=.ok True:=by
 rw [zk.t27];refine yH (fun m tm h nx=>∃ z3 z5 zC zS zT,tm=(zk.fr c b g z3 d z5 e l p z a o zC q u v zS zT)/\Inv m h nx) ?_ hm ⟨_,_,_,_,_,rfl,hi⟩;rintro m tm h nx R ⟨z3,z5,zC,zS,zT,rfl,hi⟩ hR;exact step m z3 z5 zC zS zT h nx R hi fun m' w3 w5 wE wN wO h' nx' hlt hi'=>hR m' _ h' nx' hlt ⟨_,_,_,_,_,rfl,hi'⟩
theorem zk.zlk:IR.run zk.t30 C N O K (zk.fr c b g f d i e l p z a o s q u v w y) h nx =
 dF 1 2 e (I 0) fun v1=>zL 1 v1 p h nx fun v2 h3 n4=>dF 1 2 e (I 1) fun v5=>zL 1 v5 o h3 n4 fun v6 h7 n8=>K (zk.fr c b g f d i e l p z a o s q u v w y) h7 n8:=by kernel_rfl
theorem zk.zam:IR.run zk.t31 C N O K (zk.fr c b g f d i e l p z a o s q u v w y) h nx =
 zK 2 e h fun v1=>zL 2 d v1 h nx fun v2 h3 n4=>K (zk.fr c b g a d (I 0) e l p z a o s q u v w y) h3 n4:=by kernel_rfl
theorem zk.tab:T.get none (.of 120) tbl=some zk:=by kernel_rfl
theorem zk.bind (k:T AV->OP):yO zk.params [a0,a1,a2] zk.init k=k (zk.fr a0 a1 a2 .undef .undef .undef .undef .undef .undef .undef .undef .undef .undef .undef .undef .undef .undef .undef):=by kernel_rfl
theorem zk.jq:zk.body=zk.t40:=by kernel_rfl
theorem zk.go:zX tbl N C (.of 120) [a0,a1,a2] h nx K0=IR.run zk.t40 C N (fnO zk.res K0) (wo zk.res K0) (zk.fr a0 a1 a2 .undef .undef .undef .undef .undef .undef .undef .undef .undef .undef .undef .undef .undef .undef .undef) h nx:=by
 rw [zJ zk.tab,zk.bind,zk.jq];kernel_rfl
theorem zk.ret:wo zk.res K0 (zk.fr c b g f d i e l p z a o s q u v w y) h nx=zK 2 d h fun v1=>K0 (.tup [f,v1,i]) h nx:=by kernel_rfl
def F27.t0:IR:=.reg [.q (.of 2) (.mv (.c .zf)),.q (.of 3) (.mv (.c (I 0)))]
def F27.t1:IR:=.reg [.s (.mv (.t (.of 1))),.w .push none (.call (.c (.fn 95 (.of 95) [])) [(.s 0)]),.s (.mv (.t (.of 0))),.s (.len (.s 0)),.s (.bin .gtr .int (.s 0) (.c (I 256))),.w .push none (.call (.c (.fn 96 (.of 96) [])) [(.s 0),(.c (I 5))]),.w .push none (.zx 1 2 [(I 0)] [(0,1,(.s 4)),(1,1,(.s 0))]),.w .push none (.call (.c (.fn 94 (.of 94) [])) [(.s 0)]),.q (.of 4) (.mv (.s 0))]
def F27.t2:IR:=.reg [.s (.mv (.t (.of 4))),.q (.of 8) (.bin .neq .int (.s 0) (.c (I 0)))]
def F27.t3:IR:=.reg [.s (.mv (.t (.of 4))),.q (.of 2) (.mv (.c .zf)),.q (.of 3) (.mv (.s 0))]
def F27.t4:IR:=.seq F27.t3 .ret
def F27.t5:IR:=.cond (.t (.of 8)) F27.t4 .skip
def F27.t6:IR:=.seq F27.t2 F27.t5
def F27.t7:IR:=.seq F27.t1 F27.t6
def F27.t8:IR:=.reg [.s (.mv (.t (.of 0))),.s (.mv (.t (.of 1))),.w .push none (.call (.c (.fn 97 (.of 97) [])) [(.s 1),(.s 0)]),.q (.of 5) (.mv (.s 0))]
def F27.t9:IR:=.reg [.s (.mv (.t (.of 5))),.q (.of 9) (.bin .neq .int (.s 0) (.c (I 0)))]
def F27.t10:IR:=.reg [.s (.mv (.t (.of 5))),.q (.of 2) (.mv (.c .zf)),.q (.of 3) (.mv (.s 0))]
def F27.t11:IR:=.seq F27.t10 .ret
def F27.t12:IR:=.cond (.t (.of 9)) F27.t11 .skip
def F27.t13:IR:=.seq F27.t9 F27.t12
def F27.t14:IR:=.seq F27.t8 F27.t13
def F27.t15:IR:=.reg [.s (.mv (.t (.of 0))),.s (.mv (.t (.of 1))),.w .push none (.call (.c (.fn 98 (.of 98) [])) [(.s 1),(.s 0),(.c (I 1536))]),.s (.mv (.s 0)),.s (.ext 0 (.s 0)),.s (.ext 1 (.s 1)),.s (.ext 2 (.s 2)),.q (.of 6) (.mv (.s 2)),.s (.mv (.s 1)),.q (.of 7) (.mv (.s 1))]
def F27.t16:IR:=.reg [.s (.mv (.t (.of 7))),.q (.of 10) (.not (.s 0))]
def F27.t17:IR:=.reg [.q (.of 2) (.mv (.c .zf)),.q (.of 3) (.mv (.c (I 20)))]
def F27.t18:IR:=.seq F27.t17 .ret
def F27.t19:IR:=.cond (.t (.of 10)) F27.t18 .skip
def F27.t20:IR:=.seq F27.t16 F27.t19
def F27.t21:IR:=.reg [.s (.mv (.t (.of 6))),.w .push none (.call (.c (.fn 99 (.of 99) [])) [(.s 0)]),.q (.of 2) (.mv (.s 0)),.q (.of 3) (.mv (.c (I 0)))]
def F27.t22:IR:=.seq F27.t21 .ret
def F27.t23:IR:=.seq F27.t20 F27.t22
def F27.t24:IR:=.seq F27.t15 F27.t23
def F27.t25:IR:=.seq F27.t14 F27.t24
def F27.t26:IR:=.seq F27.t7 F27.t25
def F27.t27:IR:=.seq F27.t0 F27.t26
theorem F27.fU:IR.run F27.t0 C N O K (F27.fr c b g f d i e l p z a) h nx =
 K (F27.fr c b .zf (I 0) d i e l p z a) h nx:=by kernel_rfl
theorem F27.fV:IR.run F27.t1 C N O K (F27.fr c b g f d i e l p z a) h nx =
 C.fn 95 (.of 95) [b] h nx fun v1 h2 n3=>sLen c fun v4=>zy .gtr .int v4 (I 256) fun v5=>C.fn 96 (.of 96) [v5,(I 5)] h2 n3 fun v6 h7 n8=>yV 1 2 [(I 0)] [(0,1,v1),(1,1,v6)] h7 n8 fun v9 hV nV=>C.fn 94 (.of 94) [v9] hV nV fun vC h13 n14=>K (F27.fr c b g f vC i e l p z a) h13 n14:=by kernel_rfl
theorem F27.rP:IR.run F27.t2 C N O K (F27.fr c b g f d i e l p z a) h nx =
 zy .neq .int d (I 0) fun v1=>K (F27.fr c b g f d i e l v1 z a) h nx:=by kernel_rfl
theorem F27.au:IR.run F27.t3 C N O K (F27.fr c b g f d i e l p z a) h nx =
 K (F27.fr c b .zf d d i e l p z a) h nx:=by kernel_rfl
theorem F27.v8:Arg.ev (.t (.of 8)) ⟨(F27.fr c b g f d i e l p z a),[]⟩=p:=by kernel_rfl
theorem F27.aG:IR.run F27.t8 C N O K (F27.fr c b g f d i e l p z a) h nx =
 C.fn 97 (.of 97) [c,b] h nx fun v1 h2 n3=>K (F27.fr c b g f d v1 e l p z a) h2 n3:=by kernel_rfl
theorem F27.aQ:IR.run F27.t9 C N O K (F27.fr c b g f d i e l p z a) h nx =
 zy .neq .int i (I 0) fun v1=>K (F27.fr c b g f d i e l p v1 a) h nx:=by kernel_rfl
theorem F27.eF:IR.run F27.t10 C N O K (F27.fr c b g f d i e l p z a) h nx =
 K (F27.fr c b .zf i d i e l p z a) h nx:=by kernel_rfl
theorem F27.v9:Arg.ev (.t (.of 9)) ⟨(F27.fr c b g f d i e l p z a),[]⟩=z:=by kernel_rfl
theorem F27.eG:IR.run F27.t15 C N O K (F27.fr c b g f d i e l p z a) h nx =
 C.fn 98 (.of 98) [c,b,(I 1536)] h nx fun v1 h2 n3=>fF 0 v1 fun v4=>fF 1 v1 fun v5=>fF 2 v1 fun v6=>K (F27.fr c b g f d i v4 v6 p z a) h2 n3:=by kernel_rfl
theorem F27.fZ:IR.run F27.t16 C N O K (F27.fr c b g f d i e l p z a) h nx =
 oQ l fun v1=>K (F27.fr c b g f d i e l p z v1) h nx:=by kernel_rfl
theorem F27.aO:IR.run F27.t17 C N O K (F27.fr c b g f d i e l p z a) h nx =
 K (F27.fr c b .zf (I 20) d i e l p z a) h nx:=by kernel_rfl
theorem F27.v10:Arg.ev (.t (.of 10)) ⟨(F27.fr c b g f d i e l p z a),[]⟩=a:=by kernel_rfl
theorem F27.zll:IR.run F27.t21 C N O K (F27.fr c b g f d i e l p z a) h nx =
 C.fn 99 (.of 99) [e] h nx fun v1 h2 n3=>K (F27.fr c b v1 (I 0) d i e l p z a) h2 n3:=by kernel_rfl
theorem F27.tab:T.get none (.of 27) tbl=some F27:=by kernel_rfl
theorem F27.bind (k:T AV->OP):yO F27.params [a0,a1] F27.init k=k (F27.fr a0 a1 .undef .undef .undef .undef .undef .undef .undef .undef .undef):=by kernel_rfl
theorem F27.jq:F27.body=F27.t27:=by kernel_rfl
theorem F27.go:zX tbl N C (.of 27) [a0,a1] h nx K0=IR.run F27.t27 C N (fnO F27.res K0) (wo F27.res K0) (F27.fr a0 a1 .undef .undef .undef .undef .undef .undef .undef .undef .undef) h nx:=by
 rw [zJ F27.tab,F27.bind,F27.jq];kernel_rfl
theorem F27.ret:wo F27.res K0 (F27.fr c b g f d i e l p z a) h nx=K0 (.tup [g,f]) h nx:=by kernel_rfl
end
end Go.Ev
namespace Go.Ev
open Go Go.Proofs
set_option maxRecDepth 100000
variable {N:Nat} {C:Calls Prop} {K0:Kw Prop} {K R:Ks Prop} {h:T Blk} {nx:Pa} {c b g f d i e a0 a1 a2 l p z a o s q u v w y A B D F E G H:AV}
theorem F99.fJ (X2:IR) (O:uh Prop) (t:T AV):IR.run (F99.g1 X2) C N O K t h nx=IR.run X2 C N (O.blk 0 K) K t h nx:=by kernel_rfl
theorem F99.zlj (X8:IR) (O:uh Prop) (t:T AV):IR.run (F99.g7 X8) C N O K t h nx=IR.run X8 C N (O.blk 2 K) K t h nx:=by kernel_rfl
theorem F99.tab:T.get none (.of 99) tbl=some F99:=by kernel_rfl
theorem F99.go:zX tbl N C (.of 99) [a0] h nx K0 =
 zdi a0 h nx fun v1 h2 n3=>IR.run F99.b1 C N (fnO F99.res K0) (IR.run F99.b6 C N (fnO F99.res K0) (wo F99.res K0)) (F99.fr a0 .zf .zf .undef .undef .undef v1 .undef .undef .undef .undef .undef) h2 n3:=by
 rw [zJ F99.tab];kernel_rfl
theorem F99.L1 (Inv:Nat->AV->T Blk->Pa->Prop) {m:Nat} (hm:m<N) (hi:Inv m g h nx)
  (step:∀ (m:Nat) (z2 z3 z7:AV) (h:T Blk) (nx:Pa) (R:Ks Prop),Inv m z2 h nx->(∀ (m':Nat) (w2 w3 w7:AV) (h':T Blk) (nx':Pa),m'<m->Inv m' w2 h' nx'->R (F99.fr c b w2 w3 d i e w7 p z a o) h' nx'=.ok True) ->
   (zie C e h nx fun v1 h2 n3=>fF 0 v1 fun v4=>yC v4 (zdj e h2 fun v5=>fF 1 v5 fun v6=>yJ [.zf,(.bool false)] h2 n3 fun v7 h8 n9=>zL 2 v7 v6 h8 n9 fun vA hA nA=>zK 2 v7 hA fun vD=>yV 2 1 [.zf,(.bool false)] [(0,2,vD)] hA nA fun vE hL nM=>xL C 2 32 z2 vE hL nM fun vV h18 n19=>R (F99.fr c b vV v7 d i e v4 p z a o) h18 n19) (K (F99.fr c b z2 z3 d i e v4 p z a o) h2 n3))=.ok True) :
  IR.run F99.b1 C N (fnO F99.res K0) K (F99.fr c b g f d i e l p z a o) h nx=.ok True:=by
 rw [F99.b1,F99.fJ,F99.b2];refine yH (fun m tm h nx=>∃ z2 z3 z7,tm=(F99.fr c b z2 z3 d i e z7 p z a o)/\Inv m z2 h nx) ?_ hm ⟨_,_,_,rfl,hi⟩;rintro m tm h nx R ⟨z2,z3,z7,rfl,hi⟩ hR;refine Eq.trans ?_ (step m z2 z3 z7 h nx R hi fun m' w2 w3 w7 h' nx' hlt hi'=>hR m' _ h' nx' hlt ⟨_,_,_,rfl,hi'⟩)
 kernel_rfl
theorem F99.k6:IR.run F99.b6 C N (fnO F99.res K0) K (F99.fr c b g f d i e l p z a o) h nx =
 C.fn 164 (.of 164) [g,(.fn 162 (.of 162) [])] h nx fun v1 h2 n3=>sLen g fun v4=>IR.run F99.b7 C N (fnO F99.res K0) (IR.run F99.b14 C N (fnO F99.res K0) K) (F99.fr c b g f .zf i e l g v4 (I 0) o) h2 n3:=by kernel_rfl
theorem F99.L7 (Inv:Nat->AV->AV->T Blk->Pa->Prop) {m:Nat} (hm:m<N) (hi:Inv m d a h nx)
  (step:∀ (m:Nat) (z4 z5 zA zB:AV) (h:T Blk) (nx:Pa) (R:Ks Prop),Inv m z4 zA h nx->(∀ (m':Nat) (w4 w5 wA wD:AV) (h':T Blk) (nx':Pa),m'<m->Inv m' w4 wA h' nx'->R (F99.fr c b g f w4 w5 e l p z wA wD) h' nx'=.ok True) ->
   (zy .lss .int zA z fun v1=>yC v1 (zQ 2 p zA fun v2=>zK 2 v2 h fun v3=>yJ [.zf,(.bool false)] h nx fun v4 h5 n6=>zL 2 v4 v3 h5 n6 fun v7 h8 n9=>zK 2 v4 h8 fun vA=>yV 2 1 [.zf,(.bool false)] [(0,2,vA)] h8 n9 fun vB hF nG=>xL C 2 32 z4 vB hF nG fun vE hL nM=>zy .add .int zA (I 1) fun vV=>R (F99.fr c b g f vE v4 e l p z vV v1) hL nM) (K (F99.fr c b g f z4 z5 e l p z zA v1) h nx))=.ok True) :
  IR.run F99.b7 C N (fnO F99.res K0) K (F99.fr c b g f d i e l p z a o) h nx=.ok True:=by
 rw [F99.b7,F99.zlj,F99.b8];refine yH (fun m tm h nx=>∃ z4 z5 zA zB,tm=(F99.fr c b g f z4 z5 e l p z zA zB)/\Inv m z4 zA h nx) ?_ hm ⟨_,_,_,_,rfl,hi⟩;rintro m tm h nx R ⟨z4,z5,zA,zB,rfl,hi⟩ hR;refine Eq.trans ?_ (step m z4 z5 zA zB h nx R hi fun m' w4 w5 wA wD h' nx' hlt hi'=>hR m' _ h' nx' hlt ⟨_,_,_,_,rfl,hi'⟩)
 kernel_rfl
theorem F99.k14:IR.run F99.b14 C N (fnO F99.res K0) K (F99.fr c b g f d i e l p z a o) h nx =
 K0 d h nx:=by kernel_rfl
end Go.Ev
namespace Go.Ev
open Go Go.Proofs
set_option maxRecDepth 100000
section
variable {N:Nat} {C:Calls Prop} {K0:Kw Prop} {K:Ks Prop} {h:T Blk} {nx:Pa} {c b g f d i e l p z a o s q u v w y A B a0 a1 a2:AV} {O:uh Prop} {tm:T AV} {Kt:KTm} {r:List RO} {s0 s1 s2 s3 s4 s5 s6 s7 s8 s9 s10 s11 s12 s13 s14 s15 s16 s17 s18 s19 s20 s21 s22 s23 s24 s25 s26 s27 s28 s29 s30 s31 s32 s33 s34 s35 s36 s37 s38 s39 s40 s41 s42 s43 s44 s45 s46 s47 s48 s49 s50 s51 s52 s53 s54 s55 s56 s57 s58 s59:AV}
def F39.t0:IR:=.reg [.w (.loc (.of 3)) none (.box (.t (.of 1))),.q (.of 4) (.mv (.c .zf)),.q (.of 5) (.mv (.c (I 0)))]
def F39.t1:IR:=.reg [.s (.mv (.t (.of 0))),.s (.load (.t (.of 3))),.s (.mv (.t (.of 2))),.w .push none (.call (.c (.fn 120 (.of 120) [])) [(.s 2),(.s 1),(.s 0)]),.s (.mv (.s 0)),.s (.ext 0 (.s 0)),.s (.ext 1 (.s 1)),.s (.ext 2 (.s 2)),.w .push none (.alloc [.zf,.zf]),.s (.mv (.s 3)),.w .none none (.store 2 (.s 1) (.s 3)),.q (.of 6) (.mv (.s 2))]
def F39.t2:IR:=.reg [.s (.mv (.t (.of 6))),.q (.of 12) (.bin .neq .int (.s 0) (.c (I 0)))]
def F39.t3:IR:=.reg [.s (.mv (.t (.of 6))),.q (.of 4) (.mv (.c .zf)),.q (.of 5) (.mv (.s 0))]
def F39.t4:IR:=.seq F39.t3 .ret
def F39.t5:IR:=.cond (.t (.of 12)) F39.t4 .skip
def F39.t6:IR:=.seq F39.t2 F39.t5
def F39.t7:IR:=.seq F39.t1 F39.t6
def F39.t8:IR:=.reg [.w .push none .rG,.w (.loc (.of 7)) none (.alloc [.jk]),.w .none none (.store 1 (.t (.of 7)) (.s 0))]
def F39.t9:IR:=.reg [.w (.loc (.of 8)) none (.alloc [.zf])]
def F39.t10:IR:=.reg [.s (.mv (.t (.of 0))),.w (.loc (.of 13)) none (.call (.c (.fn 90 (.of 90) [])) [(.s 0)])]
def F39.t11:IR:=.reg [.w (.loc (.of 9)) none (.alloc [.zf,(.bool false)]),.w .none none (.store 2 (.t (.of 9)) (.t (.of 15)))]
def F39.t12:IR:=.reg [.s (.load (.t (.of 7))),.s (.zi 2 (.t (.of 9))),.w (.loc (.of 16)) none (.call (.c (.fn 121 (.of 121) [])) [(.s 1),(.s 0)])]
def F39.t13:IR:=.cond (.t (.of 16)) (.exit 1) .skip
def F39.t14:IR:=.seq F39.t12 F39.t13
def F39.t15:IR:=.reg [.s (.load (.t (.of 3))),.w (.loc (.of 17)) none (.call (.c (.fn 90 (.of 90) [])) [(.s 0)])]
def F39.t16:IR:=.reg [.w (.loc (.of 10)) none (.alloc [.zf,(.bool false)]),.w .none none (.store 2 (.t (.of 10)) (.t (.of 19)))]
def F39.t17:IR:=.reg [.s (.zi 2 (.t (.of 9))),.s (.zi 2 (.t (.of 10))),.w .push none (.call (.c (.fn 122 (.of 122) [])) [(.s 1),(.s 0)]),.w (.loc (.of 11)) none (.alloc [.zf,(.bool false)]),.w .none none (.store 2 (.t (.of 11)) (.s 0))]
def F39.t18:IR:=.yu [] [(.s (.load (.t (.of 7))),1,[]),(.s (.zi 2 (.t (.of 11))),0,[]),(.s (.zi 2 (.t (.of 11))),1,[]),(.w .push none (.call (.c (.fn 123 (.of 123) [])) [(.s 1)]),0,[]),(.w .none none (.oJ .str (.s 3) (.s 0) (.s 1)),0,[])]
def F39.t19:IR:=.seq F39.t17 F39.t18
def F39.t20:IR:=.block 3 F39.t19
def F39.t21:IR:=.rf (.t (.of 17)) [(.of 18),(.of 19)] F39.t16 F39.t20
def F39.t22:IR:=.block 2 F39.t21
def F39.t23:IR:=.seq F39.t15 F39.t22
def F39.t24:IR:=.yu [] [(.s (.load (.t (.of 8))),2,[]),(.s (.zu 0 (.t (.of 9))),0,[]),(.s (.load (.s 0)),0,[]),(.s (.zu 1 (.t (.of 9))),1,[]),(.s (.load (.s 0)),1,[]),(.w .push none (.call (.c (.fn 106 (.of 106) [])) [(.s 2)]),0,[]),(.s (.build [.zf,(.bool false)] [(0,1,(.s 0)),(1,1,(.s 1))]),0,[]),(.w .push none (.zx 2 1 [.zf,(.bool false)] [(0,2,(.s 0))]),0,[]),(.w .push none (.appq 2 32 (.s 7) (.s 0)),0,[]),(.w .none none (.store 1 (.t (.of 8)) (.s 0)),0,[])]
def F39.t25:IR:=.seq F39.t23 F39.t24
def F39.t26:IR:=.seq F39.t14 F39.t25
def F39.t27:IR:=.block 1 F39.t26
def F39.t28:IR:=.rf (.t (.of 13)) [(.of 14),(.of 15)] F39.t11 F39.t27
def F39.t29:IR:=.block 0 F39.t28
def F39.t30:IR:=.seq F39.t10 F39.t29
def F39.t31:IR:=.reg [.s (.load (.t (.of 8))),.q (.of 4) (.mv (.s 0)),.q (.of 5) (.mv (.c (I 0)))]
def F39.t32:IR:=.seq F39.t31 .ret
def F39.t33:IR:=.seq F39.t30 F39.t32
def F39.t34:IR:=.seq F39.t9 F39.t33
def F39.t35:IR:=.seq F39.t8 F39.t34
def F39.t36:IR:=.seq F39.t7 F39.t35
def F39.t37:IR:=.seq F39.t0 F39.t36
theorem F39.fU:IR.run F39.t0 C N O K (F39.fr c b g f d i e l p z a o s q u v w y A B) h nx =
 rW b h nx fun v1 h2 n3=>K (F39.fr c b g v1 .zf (I 0) e l p z a o s q u v w y A B) h2 n3:=by kernel_rfl
theorem F39.fV:IR.run F39.t1 C N O K (F39.fr c b g f d i e l p z a o s q u v w y A B) h nx =
 zE f h fun v1=>C.fn 120 (.of 120) [c,v1,g] h nx fun v2 h3 n4=>fF 0 v2 fun v5=>fF 1 v2 fun v6=>fF 2 v2 fun v7=>yJ [.zf,.zf] h3 n4 fun v8 h9 nF=>zL 2 v8 v6 h9 nF fun vB hF nG=>K (F39.fr c b g f d i v7 l p z a o s q u v w y A B) hF nG:=by kernel_rfl
theorem F39.rP:IR.run F39.t2 C N O K (F39.fr c b g f d i e l p z a o s q u v w y A B) h nx =
 zy .neq .int e (I 0) fun v1=>K (F39.fr c b g f d i e l p z a o v1 q u v w y A B) h nx:=by kernel_rfl
theorem F39.v12:Arg.ev (.t (.of 12)) ⟨(F39.fr c b g f d i e l p z a o s q u v w y A B),[]⟩=s:=by kernel_rfl
theorem F39.aG:IR.run F39.t8 C N O K (F39.fr c b g f d i e l p z a o s q u v w y A B) h nx =
 mB h nx fun v1 h2 n3=>yJ [.jk] h2 n3 fun v4 h5 n6=>zL 1 v4 v1 h5 n6 fun v7 h8 n9=>K (F39.fr c b g f d i e v4 p z a o s q u v w y A B) h8 n9:=by kernel_rfl
theorem F39.aQ:IR.run F39.t9 C N O K (F39.fr c b g f d i e l p z a o s q u v w y A B) h nx =
 yJ [.zf] h nx fun v1 h2 n3=>K (F39.fr c b g f d i e l v1 z a o s q u v w y A B) h2 n3:=by kernel_rfl
theorem F39.eF:IR.run F39.t10 C N O K (F39.fr c b g f d i e l p z a o s q u v w y A B) h nx =
 C.fn 90 (.of 90) [c] h nx fun v1 h2 n3=>K (F39.fr c b g f d i e l p z a o s v1 u v w y A B) h2 n3:=by kernel_rfl
theorem F39.tJ:IR.run F39.t11 C N O K (F39.fr c b g f d i e l p z a o s q u v w y A B) h nx =
 yJ [.zf,(.bool false)] h nx fun v1 h2 n3=>zL 2 v1 v h2 n3 fun v4 h5 n6=>K (F39.fr c b g f d i e l p v1 a o s q u v w y A B) h5 n6:=by kernel_rfl
theorem F39.zan:IR.run F39.t12 C N O K (F39.fr c b g f d i e l p z a o s q u v w y A B) h nx =
 zE l h fun v1=>zK 2 z h fun v2=>C.fn 121 (.of 121) [v1,v2] h nx fun v3 h4 n5=>K (F39.fr c b g f d i e l p z a o s q u v v3 y A B) h4 n5:=by kernel_rfl
theorem F39.v16:Arg.ev (.t (.of 16)) ⟨(F39.fr c b g f d i e l p z a o s q u v w y A B),[]⟩=w:=by kernel_rfl
theorem F39.eG:IR.run F39.t15 C N O K (F39.fr c b g f d i e l p z a o s q u v w y A B) h nx =
 zE f h fun v1=>C.fn 90 (.of 90) [v1] h nx fun v2 h3 n4=>K (F39.fr c b g f d i e l p z a o s q u v w v2 A B) h3 n4:=by kernel_rfl
theorem F39.fZ:IR.run F39.t16 C N O K (F39.fr c b g f d i e l p z a o s q u v w y A B) h nx =
 yJ [.zf,(.bool false)] h nx fun v1 h2 n3=>zL 2 v1 B h2 n3 fun v4 h5 n6=>K (F39.fr c b g f d i e l p z v1 o s q u v w y A B) h5 n6:=by kernel_rfl
theorem F39.aO:IR.run F39.t17 C N O K (F39.fr c b g f d i e l p z a o s q u v w y A B) h nx =
 zK 2 z h fun v1=>zK 2 a h fun v2=>C.fn 122 (.of 122) [v1,v2] h nx fun v3 h4 n5=>yJ [.zf,(.bool false)] h4 n5 fun v6 h7 n8=>zL 2 v6 v3 h7 n8 fun v9 hV nV=>K (F39.fr c b g f d i e l p z a v6 s q u v w y A B) hV nV:=by kernel_rfl
theorem F39.zen:IR.run F39.t18 C N O K (F39.fr c b g f d i e l p z a o s q u v w y A B) h nx =
 zE l h fun v1=>zK 2 o h fun v2=>zK 2 o h fun v3=>C.fn 123 (.of 123) [v2] h nx fun v4 h5 n6=>(zK 2 o h5 fun vB=>zI vB v3 ((zE l h5 fun vA=>zI vA v1 (xO .str v1 v4 v3 h5 n6 fun v7 h8 n9=>K (F39.fr c b g f d i e l p z a o s q u v w y A B) h8 n9)))):=by kernel_rfl
theorem F39.zty:Arg.ev (.t (.of 17)) ⟨(F39.fr c b g f d i e l p z a o s q u v w y A B),[]⟩=y:=by kernel_rfl
theorem F39.ztz {z0 z1:AV} (k:T AV->OP):yO [(.of 18),(.of 19)] [z0,z1] (F39.fr c b g f d i e l p z a o s q u v w y A B) k=k (F39.fr c b g f d i e l p z a o s q u v w y z0 z1):=by kernel_rfl
theorem F39.zt0:IR.run F39.t24 C N O K (F39.fr c b g f d i e l p z a o s q u v w y A B) h nx =
 zE p h fun v1=>zM 0 z fun v2=>zE v2 h fun v3=>zM 1 z fun v4=>zE v4 h fun v5=>C.fn 106 (.of 106) [v3] h nx fun v6 h7 n8=>(zE v4 h7 fun vP=>zI vP v5 ((zM 1 z fun vY=>zI vY v4 ((zE p h7 fun vX=>zI vX v1 (uP [.zf,(.bool false)] [(0,1,v6),(1,1,v5)] fun v9=>yV 2 1 [.zf,(.bool false)] [(0,2,v9)] h7 n8 fun vA hA nA=>(zE p hA fun vO=>zI vO v1 (xL C 2 32 v1 vA hA nA fun vD hB nB=>zL 1 p vD hB nB fun vN hC nC=>K (F39.fr c b g f d i e l p z a o s q u v w y A B) hC nC)))))))):=by kernel_rfl
theorem F39.zt1:Arg.ev (.t (.of 13)) ⟨(F39.fr c b g f d i e l p z a o s q u v w y A B),[]⟩=q:=by kernel_rfl
theorem F39.zt2 {z0 z1:AV} (k:T AV->OP):yO [(.of 14),(.of 15)] [z0,z1] (F39.fr c b g f d i e l p z a o s q u v w y A B) k=k (F39.fr c b g f d i e l p z a o s q z0 z1 w y A B):=by kernel_rfl
theorem F39.zam:IR.run F39.t31 C N O K (F39.fr c b g f d i e l p z a o s q u v w y A B) h nx =
 zE p h fun v1=>K (F39.fr c b g f v1 (I 0) e l p z a o s q u v w y A B) h nx:=by kernel_rfl
theorem F39.tab:T.get none (.of 39) tbl=some F39:=by kernel_rfl
theorem F39.bind (k:T AV->OP):yO F39.params [a0,a1,a2] F39.init k=k (F39.fr a0 a1 a2 .undef .undef .undef .undef .undef .undef .undef .undef .undef .undef .undef .undef .undef .undef .undef .undef .undef):=by kernel_rfl
theorem F39.jq:F39.body=F39.t37:=by kernel_rfl
theorem F39.go:zX tbl N C (.of 39) [a0,a1,a2] h nx K0=IR.run F39.t37 C N (fnO F39.res K0) (wo F39.res K0) (F39.fr a0 a1 a2 .undef .undef .undef .undef .undef .undef .undef .undef .undef .undef .undef .undef .undef .undef .undef .undef .undef) h nx:=by
 rw [zJ F39.tab,F39.bind,F39.jq];kernel_rfl
theorem F39.ret:wo F39.res K0 (F39.fr c b g f d i e l p z a o s q u v w y A B) h nx=K0 (.tup [d,i]) h nx:=by kernel_rfl
def F40.t0:IR:=.reg [.q (.of 3) (.mv (.c (.bool false))),.q (.of 4) (.mv (.c (I 0)))]
def F40.t1:IR:=.reg [.s (.mv (.t (.of 0))),.s (.mv (.t (.of 1))),.s (.mv (.t (.of 2))),.w .push none (.call (.c (.fn 120 (.of 120) [])) [(.s 2),(.s 1),(.s 0)]),.s (.mv (.s 0)),.s (.ext 0 (.s 0)),.s (.ext 1 (.s 1)),.s (.ext 2 (.s 2)),.w (.loc (.of 6)) none (.alloc [.zf,.zf]),.q (.of 5) (.mv (.s 2)),.w .none none (.store 2 (.t (.of 6)) (.s 1)),.q (.of 7) (.mv (.s 0))]
def F40.t2:IR:=.reg [.s (.mv (.t (.of 7))),.q (.of 10) (.bin .neq .int (.s 0) (.c (I 0)))]
def F40.t3:IR:=.reg [.s (.mv (.t (.of 7))),.q (.of 3) (.mv (.c (.bool false))),.q (.of 4) (.mv (.s 0))]
def F40.t4:IR:=.seq F40.t3 .ret
def F40.t5:IR:=.cond (.t (.of 10)) F40.t4 .skip
def F40.t6:IR:=.seq F40.t2 F40.t5
def F40.t7:IR:=.reg [.s (.aN 1 2 (.t (.of 6)) (.c (I 0))),.q (.of 11) (.load (.s 0)),.q (.of 12) (.len (.t (.of 11))),.q (.of 13) (.mv (.c (I 0)))]
def F40.t8:IR:=.reg [.q (.of 14) (.bin .lss .int (.t (.of 13)) (.t (.of 12)))]
def F40.t9:IR:=.cond (.t (.of 14)) .skip (.exit 0)
def F40.t10:IR:=.reg [.s (.zo 2 (.t (.of 11)) (.t (.of 13))),.s (.zi 2 (.s 0)),.w (.loc (.of 8)) none (.alloc [.zf,(.bool false)]),.w .none none (.store 2 (.t (.of 8)) (.s 0))]
def F40.t11:IR:=.reg [.s (.aN 1 2 (.t (.of 6)) (.c (I 1))),.q (.of 15) (.load (.s 0)),.q (.of 16) (.len (.t (.of 15))),.q (.of 17) (.mv (.c (I 0)))]
def F40.t12:IR:=.reg [.q (.of 18) (.bin .lss .int (.t (.of 17)) (.t (.of 16)))]
def F40.t13:IR:=.cond (.t (.of 18)) .skip (.exit 2)
def F40.t14:IR:=.reg [.s (.zo 2 (.t (.of 15)) (.t (.of 17))),.s (.zi 2 (.s 0)),.w (.loc (.of 9)) none (.alloc [.zf,(.bool false)]),.w .none none (.store 2 (.t (.of 9)) (.s 0))]
def F40.t15:IR:=.yu [] [(.s (.mv (.t (.of 5))),3,[]),(.s (.zi 2 (.t (.of 8))),0,[]),(.s (.zi 2 (.t (.of 9))),0,[]),(.s (.zi 2 (.t (.of 8))),1,[]),(.w .push none (.call (.c (.fn 122 (.of 122) [])) [(.s 2),(.s 1)]),0,[]),(.w .push none (.call (.c (.fn 124 (.of 124) [])) [(.s 1)]),0,[]),(.w .push none (.call (.c (.fn 122 (.of 122) [])) [(.s 1),(.s 0)]),0,[]),(.w .push none (.call (.c (.fn 121 (.of 121) [])) [(.s 6),(.s 0)]),0,[]),(.q (.of 19) (.not (.s 0)),0,[])]
def F40.t16:IR:=.reg [.q (.of 3) (.mv (.c (.bool false))),.q (.of 4) (.mv (.c (I 0)))]
def F40.t17:IR:=.seq F40.t16 .ret
def F40.t18:IR:=.cond (.t (.of 19)) F40.t17 .skip
def F40.t19:IR:=.seq F40.t15 F40.t18
def F40.t20:IR:=.seq F40.t14 F40.t19
def F40.t21:IR:=.block 3 F40.t20
def F40.t22:IR:=.reg [.s (.bin .add .int (.t (.of 17)) (.c (I 1))),.q (.of 17) (.mv (.s 0))]
def F40.t23:IR:=.seq F40.t21 F40.t22
def F40.t24:IR:=.seq F40.t13 F40.t23
def F40.t25:IR:=.seq F40.t12 F40.t24
def F40.t26:IR:=.loop F40.t25
def F40.t27:IR:=.block 2 F40.t26
def F40.t28:IR:=.seq F40.t11 F40.t27
def F40.t29:IR:=.seq F40.t10 F40.t28
def F40.t30:IR:=.block 1 F40.t29
def F40.t31:IR:=.reg [.s (.bin .add .int (.t (.of 13)) (.c (I 1))),.q (.of 13) (.mv (.s 0))]
def F40.t32:IR:=.seq F40.t30 F40.t31
def F40.t33:IR:=.seq F40.t9 F40.t32
def F40.t34:IR:=.seq F40.t8 F40.t33
def F40.t35:IR:=.loop F40.t34
def F40.t36:IR:=.block 0 F40.t35
def F40.t37:IR:=.seq F40.t7 F40.t36
def F40.t38:IR:=.reg [.q (.of 3) (.mv (.c (.bool true))),.q (.of 4) (.mv (.c (I 0)))]
def F40.t39:IR:=.seq F40.t38 .ret
def F40.t40:IR:=.seq F40.t37 F40.t39
def F40.t41:IR:=.seq F40.t6 F40.t40
def F40.t42:IR:=.seq F40.t1 F40.t41
def F40.t43:IR:=.seq F40.t0 F40.t42
theorem F40.fU:IR.run F40.t0 C N O K (F40.fr c b g f d i e l p z a o s q u v w y A B) h nx =
 K (F40.fr c b g (.bool false) (I 0) i e l p z a o s q u v w y A B) h nx:=by kernel_rfl
theorem F40.fV:IR.run F40.t1 C N O K (F40.fr c b g f d i e l p z a o s q u v w y A B) h nx =
 C.fn 120 (.of 120) [c,b,g] h nx fun v1 h2 n3=>fF 0 v1 fun v4=>fF 1 v1 fun v5=>fF 2 v1 fun v6=>yJ [.zf,.zf] h2 n3 fun v7 h8 n9=>zL 2 v7 v5 h8 n9 fun vA hA nA=>K (F40.fr c b g f d v4 v7 v6 p z a o s q u v w y A B) hA nA:=by kernel_rfl
theorem F40.rP:IR.run F40.t2 C N O K (F40.fr c b g f d i e l p z a o s q u v w y A B) h nx =
 zy .neq .int l (I 0) fun v1=>K (F40.fr c b g f d i e l p z v1 o s q u v w y A B) h nx:=by kernel_rfl
theorem F40.au:IR.run F40.t3 C N O K (F40.fr c b g f d i e l p z a o s q u v w y A B) h nx =
 K (F40.fr c b g (.bool false) l i e l p z a o s q u v w y A B) h nx:=by kernel_rfl
theorem F40.v10:Arg.ev (.t (.of 10)) ⟨(F40.fr c b g f d i e l p z a o s q u v w y A B),[]⟩=a:=by kernel_rfl
theorem F40.t7_s:IR.run F40.t7 C N O K (F40.fr c b g f d i e l p z a o s q u v w y A B) h nx =
 dF 1 2 e (I 0) fun v1=>zE v1 h fun v2=>sLen v2 fun v3=>K (F40.fr c b g f d i e l p z a v2 v3 (I 0) u v w y A B) h nx:=by kernel_rfl
theorem F40.aG:IR.run F40.t8 C N O K (F40.fr c b g f d i e l p z a o s q u v w y A B) h nx =
 zy .lss .int q s fun v1=>K (F40.fr c b g f d i e l p z a o s q v1 v w y A B) h nx:=by kernel_rfl
theorem F40.v14:Arg.ev (.t (.of 14)) ⟨(F40.fr c b g f d i e l p z a o s q u v w y A B),[]⟩=u:=by kernel_rfl
theorem F40.eF:IR.run F40.t10 C N O K (F40.fr c b g f d i e l p z a o s q u v w y A B) h nx =
 zQ 2 o q fun v1=>zK 2 v1 h fun v2=>yJ [.zf,(.bool false)] h nx fun v3 h4 n5=>zL 2 v3 v2 h4 n5 fun v6 h7 n8=>K (F40.fr c b g f d i e l v3 z a o s q u v w y A B) h7 n8:=by kernel_rfl
theorem F40.tJ:IR.run F40.t11 C N O K (F40.fr c b g f d i e l p z a o s q u v w y A B) h nx =
 dF 1 2 e (I 1) fun v1=>zE v1 h fun v2=>sLen v2 fun v3=>K (F40.fr c b g f d i e l p z a o s q u v2 v3 (I 0) A B) h nx:=by kernel_rfl
theorem F40.zan:IR.run F40.t12 C N O K (F40.fr c b g f d i e l p z a o s q u v w y A B) h nx =
 zy .lss .int y w fun v1=>K (F40.fr c b g f d i e l p z a o s q u v w y v1 B) h nx:=by kernel_rfl
theorem F40.v18:Arg.ev (.t (.of 18)) ⟨(F40.fr c b g f d i e l p z a o s q u v w y A B),[]⟩=A:=by kernel_rfl
theorem F40.zah:IR.run F40.t14 C N O K (F40.fr c b g f d i e l p z a o s q u v w y A B) h nx =
 zQ 2 v y fun v1=>zK 2 v1 h fun v2=>yJ [.zf,(.bool false)] h nx fun v3 h4 n5=>zL 2 v3 v2 h4 n5 fun v6 h7 n8=>K (F40.fr c b g f d i e l p v3 a o s q u v w y A B) h7 n8:=by kernel_rfl
theorem F40.eG:IR.run F40.t15 C N O K (F40.fr c b g f d i e l p z a o s q u v w y A B) h nx =
 zK 2 p h fun v1=>zK 2 z h fun v2=>zK 2 p h fun v3=>C.fn 122 (.of 122) [v1,v2] h nx fun v4 h5 n6=>(zK 2 p h5 fun vV=>zI vV v3 (zI i i (C.fn 124 (.of 124) [v3] h5 n6 fun v7 h8 n9=>zI i i (C.fn 122 (.of 122) [v4,v7] h8 n9 fun vA hA nA=>zI i i (C.fn 121 (.of 121) [i,vA] hA nA fun vD hB nB=>oQ vD fun vN=>K (F40.fr c b g f d i e l p z a o s q u v w y A vN) hB nB))))):=by kernel_rfl
theorem F40.fZ:IR.run F40.t16 C N O K (F40.fr c b g f d i e l p z a o s q u v w y A B) h nx =
 K (F40.fr c b g (.bool false) (I 0) i e l p z a o s q u v w y A B) h nx:=by kernel_rfl
theorem F40.v19:Arg.ev (.t (.of 19)) ⟨(F40.fr c b g f d i e l p z a o s q u v w y A B),[]⟩=B:=by kernel_rfl
theorem F40.zem:IR.run F40.t22 C N O K (F40.fr c b g f d i e l p z a o s q u v w y A B) h nx =
 zy .add .int y (I 1) fun v1=>K (F40.fr c b g f d i e l p z a o s q u v w v1 A B) h nx:=by kernel_rfl
theorem F40.zt3 (Inv:Nat->AV->T Blk->Pa->Prop) {m:Nat} (hm:m<N) (hi:Inv m y h nx)
  (step:∀ (m:Nat) (z3 z4 z9 zT zF zG:AV) (h:T Blk) (nx:Pa) (R:Ks Prop),Inv m zT h nx->(∀ (m':Nat) (w3 w4 w9 wO wG wH:AV) (h':T Blk) (nx':Pa),m'<m->Inv m' wO h' nx'->R (F40.fr c b g w3 w4 i e l p w9 a o s q u v w wO wG wH) h' nx'=.ok True)->IR.run F40.t25 C N O R (F40.fr c b g z3 z4 i e l p z9 a o s q u v w zT zF zG) h nx=.ok True) :
  IR.run F40.t26 C N O K (F40.fr c b g f d i e l p z a o s q u v w y A B) h nx=.ok True:=by
 rw [F40.t26];refine yH (fun m tm h nx=>∃ z3 z4 z9 zT zF zG,tm=(F40.fr c b g z3 z4 i e l p z9 a o s q u v w zT zF zG)/\Inv m zT h nx) ?_ hm ⟨_,_,_,_,_,_,rfl,hi⟩;rintro m tm h nx R ⟨z3,z4,z9,zT,zF,zG,rfl,hi⟩ hR;exact step m z3 z4 z9 zT zF zG h nx R hi fun m' w3 w4 w9 wO wG wH h' nx' hlt hi'=>hR m' _ h' nx' hlt ⟨_,_,_,_,_,_,rfl,hi'⟩
theorem F40.zam:IR.run F40.t31 C N O K (F40.fr c b g f d i e l p z a o s q u v w y A B) h nx =
 zy .add .int q (I 1) fun v1=>K (F40.fr c b g f d i e l p z a o s v1 u v w y A B) h nx:=by kernel_rfl
theorem F40.zt4 (Inv:Nat->AV->T Blk->Pa->Prop) {m:Nat} (hm:m<N) (hi:Inv m q h nx)
  (step:∀ (m:Nat) (z3 z4 z8 z9 zD zU zV zS zT zF zG:AV) (h:T Blk) (nx:Pa) (R:Ks Prop),Inv m zD h nx->(∀ (m':Nat) (w3 w4 w8 w9 wF wP wQ wN wO wG wH:AV) (h':T Blk) (nx':Pa),m'<m->Inv m' wF h' nx'->R (F40.fr c b g w3 w4 i e l w8 w9 a o s wF wP wQ wN wO wG wH) h' nx'=.ok True)->IR.run F40.t34 C N O R (F40.fr c b g z3 z4 i e l z8 z9 a o s zD zU zV zS zT zF zG) h nx=.ok True) :
  IR.run F40.t35 C N O K (F40.fr c b g f d i e l p z a o s q u v w y A B) h nx=.ok True:=by
 rw [F40.t35];refine yH (fun m tm h nx=>∃ z3 z4 z8 z9 zD zU zV zS zT zF zG,tm=(F40.fr c b g z3 z4 i e l z8 z9 a o s zD zU zV zS zT zF zG)/\Inv m zD h nx) ?_ hm ⟨_,_,_,_,_,_,_,_,_,_,_,rfl,hi⟩;rintro m tm h nx R ⟨z3,z4,z8,z9,zD,zU,zV,zS,zT,zF,zG,rfl,hi⟩ hR;exact step m z3 z4 z8 z9 zD zU zV zS zT zF zG h nx R hi fun m' w3 w4 w8 w9 wF wP wQ wN wO wG wH h' nx' hlt hi'=>hR m' _ h' nx' hlt ⟨_,_,_,_,_,_,_,_,_,_,_,rfl,hi'⟩
theorem F40.zt5:IR.run F40.t38 C N O K (F40.fr c b g f d i e l p z a o s q u v w y A B) h nx =
 K (F40.fr c b g (.bool true) (I 0) i e l p z a o s q u v w y A B) h nx:=by kernel_rfl
theorem F40.tab:T.get none (.of 40) tbl=some F40:=by kernel_rfl
theorem F40.bind (k:T AV->OP):yO F40.params [a0,a1,a2] F40.init k=k (F40.fr a0 a1 a2 .undef .undef .undef .undef .undef .undef .undef .undef .undef .undef .undef .undef .undef .undef .undef .undef .undef):=by kernel_rfl
theorem F40.jq:F40.body=F40.t43:=by kernel_rfl
theorem F40.go:zX tbl N C (.of 40) [a0,a1,a2] h nx K0=IR.run F40.t43 C N (fnO F40.res K0) (wo F40.res K0) (F40.fr a0 a1 a2 .undef .undef .undef .undef .undef .undef .undef .undef .undef .undef .undef .undef .undef .undef .undef .undef .undef) h nx:=by
 rw [zJ F40.tab,F40.bind,F40.jq];kernel_rfl
theorem F40.ret:wo F40.res K0 (F40.fr c b g f d i e l p z a o s q u v w y A B) h nx=K0 (.tup [f,d]) h nx:=by kernel_rfl
end
end Go.Ev
namespace Go.Ev
open Go Go.Proofs
set_option maxRecDepth 100000
section
variable {N:Nat} {C:Calls Prop} {K0:Kw Prop} {K:Ks Prop} {h:T Blk} {nx:Pa} {c b g f d i e l p z a0:AV} {O:uh Prop} {tm:T AV} {Kt:KTm} {r:List RO} {s0 s1 s2 s3 s4 s5 s6 s7 s8 s9 s10 s11 s12 s13 s14 s15 s16 s17 s18 s19 s20 s21 s22 s23 s24 s25 s26 s27 s28 s29 s30 s31 s32 s33 s34 s35 s36 s37 s38 s39 s40 s41 s42 s43 s44 s45 s46 s47 s48 s49 s50 s51 s52 s53 s54 s55 s56 s57 s58 s59:AV}
def yj.t0:IR:=.reg [.w (.loc (.of 1)) none (.box (.t (.of 0))),.w (.loc (.of 2)) none (.alloc [.zf,(.bool false)])]
def yj.t1:IR:=.yu [(.alloc [.zf,(.bool false)])] [(.s (.zu 0 (.t (.of 1))),2,[]),(.s (.load (.s 0)),2,[]),(.s (.len (.s 0)),2,[(.jr 1 8 [(I 0)] (.s 0) (.s 0))]),(.s (.zu 1 (.t (.of 1))),2,[]),(.s (.load (.s 0)),2,[]),(.w .push none (.jr 1 8 [(I 0)] (.s 2) (.s 2)),0,[]),(.s (.build [.zf,(.bool false)] [(0,1,(.s 0)),(1,1,(.s 1))]),1,[]),(.w (.loc (.of 3)) none (.alloc [.zf,(.bool false)]),0,[]),(.w .none none (.store 2 (.t (.of 3)) (.s 0)),0,[])]
def yj.t2:IR:=.reg [.s (.zu 0 (.t (.of 1))),.q (.of 6) (.load (.s 0)),.q (.of 7) (.len (.t (.of 6))),.q (.of 8) (.mv (.c (I 0)))]
def yj.t3:IR:=.reg [.q (.of 9) (.bin .lss .int (.t (.of 8)) (.t (.of 7)))]
def yj.t4:IR:=.cond (.t (.of 9)) .skip (.exit 0)
def yj.t5:IR:=.reg [.s (.mv (.t (.of 8))),.s (.zo 1 (.t (.of 6)) (.t (.of 8))),.s (.load (.s 0)),.q (.of 4) (.mv (.s 2)),.q (.of 5) (.mv (.s 0))]
def yj.t6:IR:=.reg [.s (.zu 0 (.t (.of 3))),.s (.load (.s 0)),.s (.mv (.t (.of 5))),.s (.mv (.t (.of 4))),.s (.zo 1 (.s 2) (.s 1)),.w .none none (.store 1 (.s 0) (.s 1))]
def yj.t7:IR:=.seq yj.t5 yj.t6
def yj.t8:IR:=.block 1 yj.t7
def yj.t9:IR:=.reg [.s (.bin .add .int (.t (.of 8)) (.c (I 1))),.q (.of 8) (.mv (.s 0))]
def yj.t10:IR:=.seq yj.t8 yj.t9
def yj.t11:IR:=.seq yj.t4 yj.t10
def yj.t12:IR:=.seq yj.t3 yj.t11
def yj.t13:IR:=.loop yj.t12
def yj.t14:IR:=.block 0 yj.t13
def yj.t15:IR:=.seq yj.t2 yj.t14
def yj.t16:IR:=.reg [.s (.zi 2 (.t (.of 3))),.w .none none (.store 2 (.t (.of 2)) (.s 0))]
def yj.t17:IR:=.seq yj.t16 .ret
def yj.t18:IR:=.seq yj.t15 yj.t17
def yj.t19:IR:=.seq yj.t1 yj.t18
def yj.t20:IR:=.seq yj.t0 yj.t19
theorem yj.fU:IR.run yj.t0 C N O K (yj.fr c b g f d i e l p z) h nx =
 rW c h nx fun v1 h2 n3=>yJ [.zf,(.bool false)] h2 n3 fun v4 h5 n6=>K (yj.fr c v1 v4 f d i e l p z) h5 n6:=by kernel_rfl
theorem yj.fV:IR.run yj.t1 C N O K (yj.fr c b g f d i e l p z) h nx =
 sChk (true&&true) (zM 0 b fun v1=>zE v1 h fun v2=>sLen v2 fun v3=>sChk (mkSl 8 v3 v3&&true) (zM 1 b fun v4=>zE v4 h fun v5=>uC 1 8 [(I 0)] v3 v3 h nx fun v6 h7 n8=>(zE v4 h7 fun vR=>zI vR v5 ((zM 1 b fun vQ=>zI vQ v4 ((sLen v2 fun v24=>zI v24 v3 ((zE v1 h7 fun vZ=>zI vZ v2 ((zM 0 b fun vP=>zI vP v1 (uP [.zf,(.bool false)] [(0,1,v6),(1,1,v5)] fun v9=>yJ [.zf,(.bool false)] h7 n8 fun vA hA nA=>(uP [.zf,(.bool false)] [(0,1,v6),(1,1,v5)] fun vY=>zI vY v9 ((zE v4 hA fun vX=>zI vX v5 ((zM 1 b fun vO=>zI vO v4 ((sLen v2 fun vW=>zI vW v3 ((zE v1 hA fun vV=>zI vV v2 ((zM 0 b fun vN=>zI vN v1 (zL 2 vA v9 hA nA fun vD hB nB=>K (yj.fr c b g vA d i e l p z) hB nB)))))))))))))))))))))))):=by kernel_rfl
theorem yj.rP:IR.run yj.t2 C N O K (yj.fr c b g f d i e l p z) h nx =
 zM 0 b fun v1=>zE v1 h fun v2=>sLen v2 fun v3=>K (yj.fr c b g f d i v2 v3 (I 0) z) h nx:=by kernel_rfl
theorem yj.au:IR.run yj.t3 C N O K (yj.fr c b g f d i e l p z) h nx =
 zy .lss .int p l fun v1=>K (yj.fr c b g f d i e l p v1) h nx:=by kernel_rfl
theorem yj.v9:Arg.ev (.t (.of 9)) ⟨(yj.fr c b g f d i e l p z),[]⟩=z:=by kernel_rfl
theorem yj.t5_s:IR.run yj.t5 C N O K (yj.fr c b g f d i e l p z) h nx =
 zQ 1 e p fun v1=>zE v1 h fun v2=>K (yj.fr c b g f p v2 e l p z) h nx:=by kernel_rfl
theorem yj.oW:IR.run yj.t6 C N O K (yj.fr c b g f d i e l p z) h nx =
 zM 0 f fun v1=>zE v1 h fun v2=>zQ 1 v2 i fun v3=>zL 1 v3 d h nx fun v4 h5 n6=>K (yj.fr c b g f d i e l p z) h5 n6:=by kernel_rfl
theorem yj.aQ:IR.run yj.t9 C N O K (yj.fr c b g f d i e l p z) h nx =
 zy .add .int p (I 1) fun v1=>K (yj.fr c b g f d i e l v1 z) h nx:=by kernel_rfl
theorem yj.zeo (Inv:Nat->AV->T Blk->Pa->Prop) {m:Nat} (hm:m<N) (hi:Inv m p h nx)
  (step:∀ (m:Nat) (z4 z5 z8 z9:AV) (h:T Blk) (nx:Pa) (R:Ks Prop),Inv m z8 h nx->(∀ (m':Nat) (w4 w5 w8 w9:AV) (h':T Blk) (nx':Pa),m'<m->Inv m' w8 h' nx'->R (yj.fr c b g f w4 w5 e l w8 w9) h' nx'=.ok True)->IR.run yj.t12 C N O R (yj.fr c b g f z4 z5 e l z8 z9) h nx=.ok True) :
  IR.run yj.t13 C N O K (yj.fr c b g f d i e l p z) h nx=.ok True:=by
 rw [yj.t13];refine yH (fun m tm h nx=>∃ z4 z5 z8 z9,tm=(yj.fr c b g f z4 z5 e l z8 z9)/\Inv m z8 h nx) ?_ hm ⟨_,_,_,_,rfl,hi⟩;rintro m tm h nx R ⟨z4,z5,z8,z9,rfl,hi⟩ hR;exact step m z4 z5 z8 z9 h nx R hi fun m' w4 w5 w8 w9 h' nx' hlt hi'=>hR m' _ h' nx' hlt ⟨_,_,_,_,rfl,hi'⟩
theorem yj.fZ:IR.run yj.t16 C N O K (yj.fr c b g f d i e l p z) h nx =
 zK 2 f h fun v1=>zL 2 g v1 h nx fun v2 h3 n4=>K (yj.fr c b g f d i e l p z) h3 n4:=by kernel_rfl
theorem yj.tab:T.get none (.of 124) tbl=some yj:=by kernel_rfl
theorem yj.bind (k:T AV->OP):yO yj.params [a0] yj.init k=k (yj.fr a0 .undef .undef .undef .undef .undef .undef .undef .undef .undef):=by kernel_rfl
theorem yj.jq:yj.body=yj.t20:=by kernel_rfl
theorem yj.go:zX tbl N C (.of 124) [a0] h nx K0=IR.run yj.t20 C N (fnO yj.res K0) (wo yj.res K0) (yj.fr a0 .undef .undef .undef .undef .undef .undef .undef .undef .undef) h nx:=by
 rw [zJ yj.tab,yj.bind,yj.jq];kernel_rfl
theorem yj.ret:wo yj.res K0 (yj.fr c b g f d i e l p z) h nx=zK 2 g h fun v1=>K0 v1 h nx:=by kernel_rfl
end
end Go.Ev
namespace Go.Ev
open Go Go.Proofs
set_option maxRecDepth 100000
section
variable {N:Nat} {C:Calls Prop} {K0:Kw Prop} {K:Ks Prop} {h:T Blk} {nx:Pa} {c b g f d i e l p z a o a0 a1 a2:AV} {O:uh Prop} {tm:T AV} {Kt:KTm} {r:List RO} {s0 s1 s2 s3 s4 s5 s6 s7 s8 s9 s10 s11 s12 s13 s14 s15 s16 s17 s18 s19 s20 s21 s22 s23 s24 s25 s26 s27 s28 s29 s30 s31 s32 s33 s34 s35 s36 s37 s38 s39 s40 s41 s42 s43 s44 s45 s46 s47 s48 s49 s50 s51 s52 s53 s54 s55 s56 s57 s58 s59:AV}
end
end Go.Ev
namespace Go.Ev
open Go Go.Proofs
set_option maxRecDepth 100000
section
variable {N:Nat} {C:Calls Prop} {K0:Kw Prop} {K:Ks Prop} {h:T Blk} {nx:Pa} {c b g f d i e l p z a o s a0 a1:AV} {O:uh Prop} {tm:T AV} {Kt:KTm} {r:List RO} {s0 s1 s2 s3 s4 s5 s6 s7 s8 s9 s10 s11 s12 s13 s14 s15 s16 s17 s18 s19 s20 s21 s22 s23 s24 s25 s26 s27 s28 s29 s30 s31 s32 s33 s34 s35 s36 s37 s38 s39 s40 s41 s42 s43 s44 s45 s46 s47 s48 s49 s50 s51 s52 s53 s54 s55 s56 s57 s58 s59:AV}
end
end Go.Ev
namespace Go.Ev
open Go Go.Proofs
set_option maxRecDepth 100000
section
variable {N:Nat} {C:Calls Prop} {K0:Kw Prop} {K:Ks Prop} {h:T Blk} {nx:Pa} {c b g f d i e l p z a o s q u v a0 a1:AV} {O:uh Prop} {tm:T AV} {Kt:KTm} {r:List RO} {s0 s1 s2 s3 s4 s5 s6 s7 s8 s9 s10 s11 s12 s13 s14 s15 s16 s17 s18 s19 s20 s21 s22 s23 s24 s25 s26 s27 s28 s29 s30 s31 s32 s33 s34 s35 s36 s37 s38 s39 s40 s41 s42 s43 s44 s45 s46 s47 s48 s49 s50 s51 s52 s53 s54 s55 s56 s57 s58 s59:AV}
end
end Go.Ev
namespace Go.Ev
open Go Go.Proofs
set_option maxRecDepth 100000
section
variable {N:Nat} {C:Calls Prop} {K0:Kw Prop} {K:Ks Prop} {h:T Blk} {nx:Pa} {c b g f d i e l p z a o s q u v w y A B a0 a1:AV} {O:uh Prop} {tm:T AV} {Kt:KTm} {r:List RO} {s0 s1 s2 s3 s4 s5 s6 s7 s8 s9 s10 s11 s12 s13 s14 s15 s16 s17 s18 s19 s20 s21 s22 s23 s24 s25 s26 s27 s28 s29 s30 s31 s32 s33 s34 s35 s36 s37 s38 s39 s40 s41 s42 s43 s44 s45 s46 s47 s48 s49 s50 s51 s52 s53 s54 s55 s56 s57 s58 s59:AV}
end
end Go.Ev
namespace Go.Ev
open Go Go.Proofs
set_option maxRecDepth 100000
section
variable {N:Nat} {C:Calls Prop} {K0:Kw Prop} {K:Ks Prop} {h:T Blk} {nx:Pa} {c b g f d i e l p z a0 a1 a2:AV} {O:uh Prop} {tm:T AV} {Kt:KTm} {r:List RO} {s0 s1 s2 s3 s4 s5 s6 s7 s8 s9 s10 s11 s12 s13 s14 s15 s16 s17 s18 s19 s20 s21 s22 s23 s24 s25 s26 s27 s28 s29 s30 s31 s32 s33 s34 s35 s36 s37 s38 s39 s40 s41 s42 s43 s44 s45 s46 s47 s48 s49 s50 s51 s52 s53 s54 s55 s56 s57 s58 s59:AV}
def yt.t0:IR:=.reg [.w (.loc (.of 1)) none (.box (.t (.of 0))),.q (.of 2) (.mv (.c .fK))]
def yt.t1:IR:=.reg [.w .push none .rG,.w (.loc (.of 3)) none (.alloc [.jk]),.w .none none (.store 1 (.t (.of 3)) (.s 0))]
def yt.t2:IR:=.reg [.s (.zu 1 (.t (.of 1))),.q (.of 5) (.load (.s 0)),.q (.of 6) (.len (.t (.of 5))),.q (.of 7) (.mv (.c (I 0)))]
def yt.t3:IR:=.reg [.q (.of 8) (.bin .lss .int (.t (.of 7)) (.t (.of 6)))]
def yt.t4:IR:=.cond (.t (.of 8)) .skip (.exit 0)
def yt.t5:IR:=.reg [.s (.zo 1 (.t (.of 5)) (.t (.of 7))),.s (.load (.s 0)),.q (.of 4) (.mv (.s 0))]
def yt.t6:IR:=.yu [] [(.s (.load (.t (.of 3))),1,[]),(.s (.mv (.t (.of 4))),0,[]),(.s (.build [.zf,(.bool false)] [(0,1,(.s 0))]),0,[]),(.w .push none (.call (.c (.fn 123 (.of 123) [])) [(.s 0)]),0,[]),(.w .none none (.oJ .str (.s 3) (.s 0) (.c (.bool true))),0,[])]
def yt.t7:IR:=.seq yt.t5 yt.t6
def yt.t8:IR:=.block 1 yt.t7
def yt.t9:IR:=.reg [.s (.bin .add .int (.t (.of 7)) (.c (I 1))),.q (.of 7) (.mv (.s 0))]
def yt.t10:IR:=.seq yt.t8 yt.t9
def yt.t11:IR:=.seq yt.t4 yt.t10
def yt.t12:IR:=.seq yt.t3 yt.t11
def yt.t13:IR:=.loop yt.t12
def yt.t14:IR:=.block 0 yt.t13
def yt.t15:IR:=.seq yt.t2 yt.t14
def yt.t16:IR:=.reg [.s (.fn 169 (.of 169) [(.t (.of 3))]),.q (.of 2) (.mv (.s 0))]
def yt.t17:IR:=.seq yt.t16 .ret
def yt.t18:IR:=.seq yt.t15 yt.t17
def yt.t19:IR:=.seq yt.t1 yt.t18
def yt.t20:IR:=.seq yt.t0 yt.t19
theorem yt.fU:IR.run yt.t0 C N O K (yt.fr c b g f d i e l p) h nx =
 rW c h nx fun v1 h2 n3=>K (yt.fr c v1 .fK f d i e l p) h2 n3:=by kernel_rfl
theorem yt.fV:IR.run yt.t1 C N O K (yt.fr c b g f d i e l p) h nx =
 mB h nx fun v1 h2 n3=>yJ [.jk] h2 n3 fun v4 h5 n6=>zL 1 v4 v1 h5 n6 fun v7 h8 n9=>K (yt.fr c b g v4 d i e l p) h8 n9:=by kernel_rfl
theorem yt.rP:IR.run yt.t2 C N O K (yt.fr c b g f d i e l p) h nx =
 zM 1 b fun v1=>zE v1 h fun v2=>sLen v2 fun v3=>K (yt.fr c b g f d v2 v3 (I 0) p) h nx:=by kernel_rfl
theorem yt.au:IR.run yt.t3 C N O K (yt.fr c b g f d i e l p) h nx =
 zy .lss .int l e fun v1=>K (yt.fr c b g f d i e l v1) h nx:=by kernel_rfl
theorem yt.v8:Arg.ev (.t (.of 8)) ⟨(yt.fr c b g f d i e l p),[]⟩=p:=by kernel_rfl
theorem yt.t5_s:IR.run yt.t5 C N O K (yt.fr c b g f d i e l p) h nx =
 zQ 1 i l fun v1=>zE v1 h fun v2=>K (yt.fr c b g f v2 i e l p) h nx:=by kernel_rfl
theorem yt.oW:IR.run yt.t6 C N O K (yt.fr c b g f d i e l p) h nx =
 zE f h fun v1=>uP [.zf,(.bool false)] [(0,1,d)] fun v2=>C.fn 123 (.of 123) [v2] h nx fun v3 h4 n5=>(zE f h4 fun v9=>zI v9 v1 (xO .str v1 v3 (.bool true) h4 n5 fun v6 h7 n8=>K (yt.fr c b g f d i e l p) h7 n8)):=by kernel_rfl
theorem yt.aQ:IR.run yt.t9 C N O K (yt.fr c b g f d i e l p) h nx =
 zy .add .int l (I 1) fun v1=>K (yt.fr c b g f d i e v1 p) h nx:=by kernel_rfl
theorem yt.zeo (Inv:Nat->AV->T Blk->Pa->Prop) {m:Nat} (hm:m<N) (hi:Inv m l h nx)
  (step:∀ (m:Nat) (z4 z7 z8:AV) (h:T Blk) (nx:Pa) (R:Ks Prop),Inv m z7 h nx->(∀ (m':Nat) (w4 w7 w8:AV) (h':T Blk) (nx':Pa),m'<m->Inv m' w7 h' nx'->R (yt.fr c b g f w4 i e w7 w8) h' nx'=.ok True)->IR.run yt.t12 C N O R (yt.fr c b g f z4 i e z7 z8) h nx=.ok True) :
  IR.run yt.t13 C N O K (yt.fr c b g f d i e l p) h nx=.ok True:=by
 rw [yt.t13];refine yH (fun m tm h nx=>∃ z4 z7 z8,tm=(yt.fr c b g f z4 i e z7 z8)/\Inv m z7 h nx) ?_ hm ⟨_,_,_,rfl,hi⟩;rintro m tm h nx R ⟨z4,z7,z8,rfl,hi⟩ hR;exact step m z4 z7 z8 h nx R hi fun m' w4 w7 w8 h' nx' hlt hi'=>hR m' _ h' nx' hlt ⟨_,_,_,rfl,hi'⟩
theorem yt.fZ:IR.run yt.t16 C N O K (yt.fr c b g f d i e l p) h nx =
 K (yt.fr c b (.fn 169 (.of 169) [f]) f d i e l p) h nx:=by kernel_rfl
theorem yt.tab:T.get none (.of 104) tbl=some yt:=by kernel_rfl
theorem yt.bind (k:T AV->OP):yO yt.params [a0] yt.init k=k (yt.fr a0 .undef .undef .undef .undef .undef .undef .undef .undef):=by kernel_rfl
theorem yt.jq:yt.body=yt.t20:=by kernel_rfl
theorem yt.go:zX tbl N C (.of 104) [a0] h nx K0=IR.run yt.t20 C N (fnO yt.res K0) (wo yt.res K0) (yt.fr a0 .undef .undef .undef .undef .undef .undef .undef .undef) h nx:=by
 rw [zJ yt.tab,yt.bind,yt.jq];kernel_rfl
theorem yt.ret:wo yt.res K0 (yt.fr c b g f d i e l p) h nx=K0 g h nx:=by kernel_rfl
def zn.t0:IR:=.reg [.q (.of 2) (.mv (.c .zf))]
def zn.t1:IR:=.reg [.q (.of 3) (.mv (.c .zf))]
def zn.t2:IR:=.reg [.q (.of 4) (.mv (.c (I 0)))]
def zn.t3:IR:=.reg [.s (.mv (.t (.of 4))),.s (.mv (.t (.of 1))),.s (.len (.s 0)),.q (.of 7) (.bin .lss .int (.s 2) (.s 0))]
def zn.t4:IR:=.cond (.t (.of 7)) .skip (.exit 0)
def zn.t5:IR:=.seq zn.t3 zn.t4
def zn.t6:IR:=.reg [.s (.mv (.t (.of 0))),.s (.mv (.t (.of 1))),.s (.mv (.t (.of 4))),.s (.zo 1 (.s 1) (.s 0)),.s (.load (.s 0)),.s (.zo 1 (.s 4) (.s 0)),.s (.load (.s 0)),.q (.of 5) (.mv (.s 0))]
def zn.t7:IR:=.reg [.q (.of 6) (.mv (.c (I 0)))]
def zn.r6_1:List RO:=.p .push (some ((.s 3),true)) (.load (.s 0))::.p .push (some ((.s 4),true)) (.mv (.t (.of 5)))::.p .push (some ((.s 5),true)) (.bin .lss .int (.s 1) (.s 0))::.q (.of 8) (.pick (.s 6) (.s 0) (.c (.bool false)))::[]
def zn.r6_0:List RO:=.s (.mv (.t (.of 6)))::.s (.mv (.t (.of 3)))::.s (.len (.s 0))::.s (.bin .lss .int (.s 2) (.s 0))::.s (.mv (.s 0))::.p .push (some ((.s 0),true)) (.mv (.t (.of 3)))::.p .push (some ((.s 1),true)) (.mv (.t (.of 6)))::.p .push (some ((.s 2),true)) (.zo 1 (.s 1) (.s 0))::zn.r6_1
def zn.t8:IR:=.reg zn.r6_0
def zn.t9:IR:=.cond (.t (.of 8)) .skip (.exit 2)
def zn.t10:IR:=.seq zn.t8 zn.t9
def zn.t11:IR:=.reg [.s (.mv (.t (.of 6))),.s (.bin .add .int (.s 0) (.c (I 1))),.q (.of 6) (.mv (.s 0))]
def zn.t12:IR:=.block 3 zn.t11
def zn.t13:IR:=.seq zn.t10 zn.t12
def zn.t14:IR:=.loop zn.t13
def zn.t15:IR:=.block 2 zn.t14
def zn.t16:IR:=.yu [(.zx 1 0 [(I 0)] [])] [(.s (.mv (.t (.of 3))),3,[]),(.s (.mv (.t (.of 6))),3,[]),(.s (.slice 1 (.s 1) none (some (.s 0)) none),3,[]),(.s (.mv (.t (.of 5))),2,[(.zx 1 1 [(I 0)] [(0,1,(.s 0))])]),(.s (.mv (.t (.of 3))),4,[]),(.s (.mv (.t (.of 6))),4,[]),(.s (.slice 1 (.s 1) (some (.s 0)) none none),4,[]),(.w .push none (.zx 1 0 [(I 0)] []),0,[]),(.w .push none (.app 1 8 (.s 0) (.s 5)),0,[]),(.w .push none (.zx 1 1 [(I 0)] [(0,1,(.s 5))]),0,[]),(.w .push none (.app 1 8 (.s 1) (.s 0)),0,[]),(.w .push none (.app 1 8 (.s 0) (.s 4)),0,[]),(.q (.of 3) (.mv (.s 0)),0,[])]
def zn.t17:IR:=.seq zn.t15 zn.t16
def zn.t18:IR:=.seq zn.t7 zn.t17
def zn.t19:IR:=.seq zn.t6 zn.t18
def zn.t20:IR:=.block 1 zn.t19
def zn.t21:IR:=.reg [.s (.mv (.t (.of 4))),.s (.bin .add .int (.s 0) (.c (I 1))),.q (.of 4) (.mv (.s 0))]
def zn.t22:IR:=.seq zn.t20 zn.t21
def zn.t23:IR:=.seq zn.t5 zn.t22
def zn.t24:IR:=.loop zn.t23
def zn.t25:IR:=.block 0 zn.t24
def zn.t26:IR:=.seq zn.t2 zn.t25
def zn.t27:IR:=.reg [.s (.mv (.t (.of 3))),.q (.of 2) (.mv (.s 0))]
def zn.t28:IR:=.seq zn.t27 .ret
def zn.t29:IR:=.seq zn.t26 zn.t28
def zn.t30:IR:=.seq zn.t1 zn.t29
def zn.t31:IR:=.seq zn.t0 zn.t30
theorem zn.fU:IR.run zn.t0 C N O K (zn.fr c b g f d i e l p) h nx =
 K (zn.fr c b .zf f d i e l p) h nx:=by kernel_rfl
theorem zn.fV:IR.run zn.t1 C N O K (zn.fr c b g f d i e l p) h nx =
 K (zn.fr c b g .zf d i e l p) h nx:=by kernel_rfl
theorem zn.rP:IR.run zn.t2 C N O K (zn.fr c b g f d i e l p) h nx =
 K (zn.fr c b g f (I 0) i e l p) h nx:=by kernel_rfl
theorem zn.au:IR.run zn.t3 C N O K (zn.fr c b g f d i e l p) h nx =
 sLen b fun v1=>zy .lss .int d v1 fun v2=>K (zn.fr c b g f d i e v2 p) h nx:=by kernel_rfl
theorem zn.v7:Arg.ev (.t (.of 7)) ⟨(zn.fr c b g f d i e l p),[]⟩=l:=by kernel_rfl
theorem zn.oW:IR.run zn.t6 C N O K (zn.fr c b g f d i e l p) h nx =
 zQ 1 b d fun v1=>zE v1 h fun v2=>zQ 1 c v2 fun v3=>zE v3 h fun v4=>K (zn.fr c b g f d v4 e l p) h nx:=by kernel_rfl
theorem zn.t7_s:IR.run zn.t7 C N O K (zn.fr c b g f d i e l p) h nx =
 K (zn.fr c b g f d i (I 0) l p) h nx:=by kernel_rfl
theorem zn.aG:IR.run zn.t8 C N O K tm h nx=wB zn.r6_0 C ⟨tm,[]⟩ h nx (fun tm h nx=>K tm.v h nx):=zep ..
theorem zn.zr5:wB (.s (.mv (.t (.of 6)))::.s (.mv (.t (.of 3)))::.s (.len (.s 0))::.s (.bin .lss .int (.s 2) (.s 0))::.s (.mv (.s 0))::.p .push (some ((.s 0),true)) (.mv (.t (.of 3)))::.p .push (some ((.s 1),true)) (.mv (.t (.of 6)))::.p .push (some ((.s 2),true)) (.zo 1 (.s 1) (.s 0))::r) C ⟨(zn.fr c b g f d i e l p),[]⟩ h nx Kt =
 sLen f fun v1=>zy .lss .int e v1 fun v2=>sG v2 true (fun k=>k f) fun v3=>sG v2 true (fun k=>k e) fun v4=>sG v2 true (fun k=>zQ 1 v3 v4 k) fun v5=>wB r C ⟨(zn.fr c b g f d i e l p),v5::v4::v3::v2::v2::v1::f::e::[]⟩ h nx Kt:=by kernel_rfl
theorem zn.zlm:wB (.p .push (some ((.s 3),true)) (.load (.s 0))::.p .push (some ((.s 4),true)) (.mv (.t (.of 5)))::.p .push (some ((.s 5),true)) (.bin .lss .int (.s 1) (.s 0))::.q (.of 8) (.pick (.s 6) (.s 0) (.c (.bool false)))::[]) C ⟨(zn.fr c b g f d i e l p),s0::s1::s2::s3::s4::s5::s6::s7::[]⟩ h nx Kt =
 sG s3 true (fun k=>zE s0 h k) fun v1=>sG s3 true (fun k=>k i) fun v2=>sG s3 true (fun k=>zy .lss .int v1 v2 k) fun v3=>gY s3 v3 (.bool false) fun v4=>Kt ⟨(zn.fr c b g f d i e l v4),v3::v2::v1::s0::s1::s2::s3::s4::s5::s6::s7::[]⟩ h nx:=by kernel_rfl
theorem zn.v8:Arg.ev (.t (.of 8)) ⟨(zn.fr c b g f d i e l p),[]⟩=p:=by kernel_rfl
theorem zn.tJ:IR.run zn.t11 C N O K (zn.fr c b g f d i e l p) h nx =
 zy .add .int e (I 1) fun v1=>K (zn.fr c b g f d i v1 l p) h nx:=by kernel_rfl
theorem zn.zt6 (Inv:Nat->AV->T Blk->Pa->Prop) {m:Nat} (hm:m<N) (hi:Inv m e h nx)
  (step:∀ (m:Nat) (z6 z8:AV) (h:T Blk) (nx:Pa) (R:Ks Prop),Inv m z6 h nx->(∀ (m':Nat) (w6 w8:AV) (h':T Blk) (nx':Pa),m'<m->Inv m' w6 h' nx'->R (zn.fr c b g f d i w6 l w8) h' nx'=.ok True)->IR.run zn.t13 C N O R (zn.fr c b g f d i z6 l z8) h nx=.ok True) :
  IR.run zn.t14 C N O K (zn.fr c b g f d i e l p) h nx=.ok True:=by
 rw [zn.t14];refine yH (fun m tm h nx=>∃ z6 z8,tm=(zn.fr c b g f d i z6 l z8)/\Inv m z6 h nx) ?_ hm ⟨_,_,rfl,hi⟩;rintro m tm h nx R ⟨z6,z8,rfl,hi⟩ hR;exact step m z6 z8 h nx R hi fun m' w6 w8 h' nx' hlt hi'=>hR m' _ h' nx' hlt ⟨_,_,rfl,hi'⟩
theorem zn.fZ:IR.run zn.t16 C N O K (zn.fr c b g f d i e l p) h nx =
 sChk ((gE (bT 0 [(I 0)]) []).isSome&&true) (gG 1 f none (some e) none fun v1=>sChk ((gE (bT 1 [(I 0)]) [(0,1,i)]).isSome&&true) (gG 1 f (some e) none none fun v2=>yV 1 0 [(I 0)] [] h nx fun v3 h4 n5=>(gG 1 f (some e) none none fun v24=>zI v24 v2 (zI e e (zI f f (zI i i ((gG 1 f none (some e) none fun vZ=>zI vZ v1 (zI e e (zI f f (sJ 1 8 v3 v1 h4 n5 fun v6 h7 n8=>(gG 1 f (some e) none none fun vP=>zI vP v2 (zI e e (zI f f (zI i i ((gG 1 f none (some e) none fun vY=>zI vY v1 (zI e e (zI f f (yV 1 1 [(I 0)] [(0,1,i)] h7 n8 fun v9 hV nV=>(gG 1 f (some e) none none fun vX=>zI vX v2 (zI e e (zI f f ((gG 1 f none (some e) none fun vO=>zI vO v1 (zI e e (zI f f (sJ 1 8 v6 v9 hV nV fun vC h13 n14=>(gG 1 f (some e) none none fun vW=>zI vW v2 (zI e e (zI f f (sJ 1 8 vC v2 h13 n14 fun vU h16 n17=>K (zn.fr c b g vU d i e l p) h16 n17)))))))))))))))))))))))))))))))):=by kernel_rfl
theorem zn.zll:IR.run zn.t21 C N O K (zn.fr c b g f d i e l p) h nx =
 zy .add .int d (I 1) fun v1=>K (zn.fr c b g f v1 i e l p) h nx:=by kernel_rfl
theorem zn.zt7 (Inv:Nat->AV->AV->T Blk->Pa->Prop) {m:Nat} (hm:m<N) (hi:Inv m f d h nx)
  (step:∀ (m:Nat) (z3 z4 z5 z6 z7 z8:AV) (h:T Blk) (nx:Pa) (R:Ks Prop),Inv m z3 z4 h nx->(∀ (m':Nat) (w3 w4 w5 w6 w7 w8:AV) (h':T Blk) (nx':Pa),m'<m->Inv m' w3 w4 h' nx'->R (zn.fr c b g w3 w4 w5 w6 w7 w8) h' nx'=.ok True)->IR.run zn.t23 C N O R (zn.fr c b g z3 z4 z5 z6 z7 z8) h nx=.ok True) :
  IR.run zn.t24 C N O K (zn.fr c b g f d i e l p) h nx=.ok True:=by
 rw [zn.t24];refine yH (fun m tm h nx=>∃ z3 z4 z5 z6 z7 z8,tm=(zn.fr c b g z3 z4 z5 z6 z7 z8)/\Inv m z3 z4 h nx) ?_ hm ⟨_,_,_,_,_,_,rfl,hi⟩;rintro m tm h nx R ⟨z3,z4,z5,z6,z7,z8,rfl,hi⟩ hR;exact step m z3 z4 z5 z6 z7 z8 h nx R hi fun m' w3 w4 w5 w6 w7 w8 h' nx' hlt hi'=>hR m' _ h' nx' hlt ⟨_,_,_,_,_,_,rfl,hi'⟩
theorem zn.zln:IR.run zn.t27 C N O K (zn.fr c b g f d i e l p) h nx =
 K (zn.fr c b f f d i e l p) h nx:=by kernel_rfl
theorem zn.tab:T.get none (.of 155) tbl=some zn:=by kernel_rfl
theorem zn.bind (k:T AV->OP):yO zn.params [a0,a1] zn.init k=k (zn.fr a0 a1 .undef .undef .undef .undef .undef .undef .undef):=by kernel_rfl
theorem zn.jq:zn.body=zn.t31:=by kernel_rfl
theorem zn.go:zX tbl N C (.of 155) [a0,a1] h nx K0=IR.run zn.t31 C N (fnO zn.res K0) (wo zn.res K0) (zn.fr a0 a1 .undef .undef .undef .undef .undef .undef .undef) h nx:=by
 rw [zJ zn.tab,zn.bind,zn.jq];kernel_rfl
theorem zn.ret:wo zn.res K0 (zn.fr c b g f d i e l p) h nx=K0 g h nx:=by kernel_rfl
def yg.t0:IR:=.reg [.q (.of 3) (.mv (.c (.bool false)))]
def yg.t1:IR:=.reg [.q (.of 4) (.mv (.c .zf))]
def yg.t2:IR:=.reg [.q (.of 6) (.mv (.t (.of 1))),.q (.of 7) (.len (.t (.of 6))),.q (.of 8) (.mv (.c (I 0)))]
def yg.t3:IR:=.reg [.q (.of 9) (.bin .lss .int (.t (.of 8)) (.t (.of 7)))]
def yg.t4:IR:=.cond (.t (.of 9)) .skip (.exit 0)
def yg.t5:IR:=.reg [.s (.zo 1 (.t (.of 6)) (.t (.of 8))),.s (.load (.s 0)),.q (.of 5) (.mv (.s 0))]
def yg.t6:IR:=.reg [.s (.mv (.t (.of 4))),.s (.mv (.t (.of 0))),.s (.mv (.t (.of 5))),.s (.zo 1 (.s 1) (.s 0)),.s (.load (.s 0)),.w .push none (.zx 1 1 [(I 0)] [(0,1,(.s 0))]),.w .push none (.app 1 8 (.s 5) (.s 0)),.q (.of 4) (.mv (.s 0))]
def yg.t7:IR:=.seq yg.t5 yg.t6
def yg.t8:IR:=.block 1 yg.t7
def yg.t9:IR:=.reg [.s (.bin .add .int (.t (.of 8)) (.c (I 1))),.q (.of 8) (.mv (.s 0))]
def yg.t10:IR:=.seq yg.t8 yg.t9
def yg.t11:IR:=.seq yg.t4 yg.t10
def yg.t12:IR:=.seq yg.t3 yg.t11
def yg.t13:IR:=.loop yg.t12
def yg.t14:IR:=.block 0 yg.t13
def yg.t15:IR:=.seq yg.t2 yg.t14
def yg.t16:IR:=.reg [.s (.mv (.t (.of 4))),.w .push none (.call (.c (.fn 91 (.of 91) [])) [(.s 0)])]
def yg.t17:IR:=.yu [] [(.s (.load (.t (.of 2))),1,[]),(.s (.mv (.t (.of 4))),0,[]),(.s (.build [.zf,(.bool false)] [(0,1,(.s 0))]),0,[]),(.w .push none (.call (.c (.fn 123 (.of 123) [])) [(.s 0)]),0,[]),(.s (.look .str (.bool false) false (.s 3) (.s 0)),0,[]),(.q (.of 3) (.mv (.s 0)),0,[])]
def yg.t18:IR:=.seq yg.t17 .ret
def yg.t19:IR:=.seq yg.t16 yg.t18
def yg.t20:IR:=.seq yg.t15 yg.t19
def yg.t21:IR:=.seq yg.t1 yg.t20
def yg.t22:IR:=.seq yg.t0 yg.t21
theorem yg.fU:IR.run yg.t0 C N O K (yg.fr c b g f d i e l p z) h nx =
 K (yg.fr c b g (.bool false) d i e l p z) h nx:=by kernel_rfl
theorem yg.fV:IR.run yg.t1 C N O K (yg.fr c b g f d i e l p z) h nx =
 K (yg.fr c b g f .zf i e l p z) h nx:=by kernel_rfl
theorem yg.rP:IR.run yg.t2 C N O K (yg.fr c b g f d i e l p z) h nx =
 sLen b fun v1=>K (yg.fr c b g f d i b v1 (I 0) z) h nx:=by kernel_rfl
theorem yg.au:IR.run yg.t3 C N O K (yg.fr c b g f d i e l p z) h nx =
 zy .lss .int p l fun v1=>K (yg.fr c b g f d i e l p v1) h nx:=by kernel_rfl
theorem yg.v9:Arg.ev (.t (.of 9)) ⟨(yg.fr c b g f d i e l p z),[]⟩=z:=by kernel_rfl
theorem yg.t5_s:IR.run yg.t5 C N O K (yg.fr c b g f d i e l p z) h nx =
 zQ 1 e p fun v1=>zE v1 h fun v2=>K (yg.fr c b g f d v2 e l p z) h nx:=by kernel_rfl
theorem yg.oW:IR.run yg.t6 C N O K (yg.fr c b g f d i e l p z) h nx =
 zQ 1 c i fun v1=>zE v1 h fun v2=>yV 1 1 [(I 0)] [(0,1,v2)] h nx fun v3 h4 n5=>sJ 1 8 d v3 h4 n5 fun v6 h7 n8=>K (yg.fr c b g f v6 i e l p z) h7 n8:=by kernel_rfl
theorem yg.aQ:IR.run yg.t9 C N O K (yg.fr c b g f d i e l p z) h nx =
 zy .add .int p (I 1) fun v1=>K (yg.fr c b g f d i e l v1 z) h nx:=by kernel_rfl
theorem yg.zeo (Inv:Nat->AV->AV->T Blk->Pa->Prop) {m:Nat} (hm:m<N) (hi:Inv m d p h nx)
  (step:∀ (m:Nat) (z4 z5 z8 z9:AV) (h:T Blk) (nx:Pa) (R:Ks Prop),Inv m z4 z8 h nx->(∀ (m':Nat) (w4 w5 w8 w9:AV) (h':T Blk) (nx':Pa),m'<m->Inv m' w4 w8 h' nx'->R (yg.fr c b g f w4 w5 e l w8 w9) h' nx'=.ok True)->IR.run yg.t12 C N O R (yg.fr c b g f z4 z5 e l z8 z9) h nx=.ok True) :
  IR.run yg.t13 C N O K (yg.fr c b g f d i e l p z) h nx=.ok True:=by
 rw [yg.t13];refine yH (fun m tm h nx=>∃ z4 z5 z8 z9,tm=(yg.fr c b g f z4 z5 e l z8 z9)/\Inv m z4 z8 h nx) ?_ hm ⟨_,_,_,_,rfl,hi⟩;rintro m tm h nx R ⟨z4,z5,z8,z9,rfl,hi⟩ hR;exact step m z4 z5 z8 z9 h nx R hi fun m' w4 w5 w8 w9 h' nx' hlt hi'=>hR m' _ h' nx' hlt ⟨_,_,_,_,rfl,hi'⟩
theorem yg.fZ:IR.run yg.t16 C N O K (yg.fr c b g f d i e l p z) h nx =
 C.fn 91 (.of 91) [d] h nx fun v1 h2 n3=>K (yg.fr c b g f d i e l p z) h2 n3:=by kernel_rfl
theorem yg.aO:IR.run yg.t17 C N O K (yg.fr c b g f d i e l p z) h nx =
 zE g h fun v1=>uP [.zf,(.bool false)] [(0,1,d)] fun v2=>C.fn 123 (.of 123) [v2] h nx fun v3 h4 n5=>(zE g h4 fun v7=>zI v7 v1 (zel .str (.bool false) false v1 v3 h4 fun v6=>K (yg.fr c b g v6 d i e l p z) h4 n5)):=by kernel_rfl
theorem yg.tab:T.get none (.of 169) tbl=some yg:=by kernel_rfl
theorem yg.bind (k:T AV->OP):yO yg.params [a0,a1,a2] yg.init k=k (yg.fr a0 a1 a2 .undef .undef .undef .undef .undef .undef .undef):=by kernel_rfl
theorem yg.jq:yg.body=yg.t22:=by kernel_rfl
theorem yg.go:zX tbl N C (.of 169) [a0,a1,a2] h nx K0=IR.run yg.t22 C N (fnO yg.res K0) (wo yg.res K0) (yg.fr a0 a1 a2 .undef .undef .undef .undef .undef .undef .undef) h nx:=by
 rw [zJ yg.tab,yg.bind,yg.jq];kernel_rfl
theorem yg.ret:wo yg.res K0 (yg.fr c b g f d i e l p z) h nx=K0 f h nx:=by kernel_rfl
end
end Go.Ev
namespace Go.Ev
open Go Go.Proofs
set_option maxRecDepth 100000
section
variable {N:Nat} {C:Calls Prop} {K0:Kw Prop} {K:Ks Prop} {h:T Blk} {nx:Pa} {c b g f d i e l p z a o s q u a0 a1:AV} {O:uh Prop} {tm:T AV} {Kt:KTm} {r:List RO} {s0 s1 s2 s3 s4 s5 s6 s7 s8 s9 s10 s11 s12 s13 s14 s15 s16 s17 s18 s19 s20 s21 s22 s23 s24 s25 s26 s27 s28 s29 s30 s31 s32 s33 s34 s35 s36 s37 s38 s39 s40 s41 s42 s43 s44 s45 s46 s47 s48 s49 s50 s51 s52 s53 s54 s55 s56 s57 s58 s59:AV}
def F74.t0:IR:=.reg [.w (.loc (.of 2)) none (.box (.t (.of 0))),.q (.of 3) (.mv (.c (.bool false)))]
def F74.t1:IR:=.reg [.q (.of 4) (.mv (.c (I 0)))]
def F74.t2:IR:=.reg [.s (.mv (.t (.of 4))),.s (.zu 1 (.t (.of 2))),.s (.load (.s 0)),.s (.len (.s 0)),.q (.of 8) (.bin .lss .int (.s 3) (.s 0))]
def F74.t3:IR:=.cond (.t (.of 8)) .skip (.exit 0)
def F74.t4:IR:=.seq F74.t2 F74.t3
def F74.t5:IR:=.reg [.s (.mv (.t (.of 1))),.s (.zu 1 (.t (.of 2))),.s (.load (.s 0)),.s (.mv (.t (.of 4))),.s (.zo 1 (.s 1) (.s 0)),.s (.load (.s 0)),.w .push none (.call (.c (.fn 155 (.of 155) [])) [(.s 5),(.s 0)]),.q (.of 5) (.mv (.s 0))]
def F74.t6:IR:=.reg [.q (.of 6) (.mv (.c (.bool false)))]
def F74.t7:IR:=.reg [.q (.of 7) (.mv (.c (I 0)))]
def F74.t8:IR:=.reg [.s (.mv (.t (.of 7))),.s (.zu 1 (.t (.of 2))),.s (.load (.s 0)),.s (.len (.s 0)),.q (.of 9) (.bin .lss .int (.s 3) (.s 0))]
def F74.t9:IR:=.cond (.t (.of 9)) .skip (.exit 2)
def F74.t10:IR:=.seq F74.t8 F74.t9
def F74.r7_2:List RO:=.s (.pick (.s 7) (.c (.bool true)) (.s 0))::.q (.of 6) (.mv (.s 0))::[]
def F74.r7_1:List RO:=.w .push (some ((.s 6),false)) (.call (.c (.fn 82 (.of 82) [])) [(.s 5),(.s 0)])::F74.r7_2
def F74.r7_0:List RO:=.s (.mv (.t (.of 6)))::.s (.mv (.s 0))::.p .push (some ((.s 0),false)) (.mv (.t (.of 5)))::.p .push (some ((.s 1),false)) (.zu 1 (.t (.of 2)))::.p .push (some ((.s 2),false)) (.load (.s 0))::.p .push (some ((.s 3),false)) (.mv (.t (.of 7)))::.p .push (some ((.s 4),false)) (.zo 1 (.s 1) (.s 0))::.p .push (some ((.s 5),false)) (.load (.s 0))::F74.r7_1
def F74.t11:IR:=.reg F74.r7_0
def F74.t12:IR:=.block 3 F74.t11
def F74.t13:IR:=.reg [.s (.mv (.t (.of 7))),.s (.bin .add .int (.s 0) (.c (I 1))),.q (.of 7) (.mv (.s 0))]
def F74.t14:IR:=.seq F74.t12 F74.t13
def F74.t15:IR:=.seq F74.t10 F74.t14
def F74.t16:IR:=.loop F74.t15
def F74.t17:IR:=.block 2 F74.t16
def F74.t18:IR:=.seq F74.t7 F74.t17
def F74.t19:IR:=.reg [.s (.mv (.t (.of 6))),.q (.of 10) (.not (.s 0))]
def F74.t20:IR:=.reg [.q (.of 3) (.mv (.c (.bool false)))]
def F74.t21:IR:=.seq F74.t20 .ret
def F74.t22:IR:=.cond (.t (.of 10)) F74.t21 .skip
def F74.t23:IR:=.seq F74.t19 F74.t22
def F74.t24:IR:=.seq F74.t18 F74.t23
def F74.t25:IR:=.seq F74.t6 F74.t24
def F74.t26:IR:=.seq F74.t5 F74.t25
def F74.t27:IR:=.block 1 F74.t26
def F74.t28:IR:=.reg [.s (.mv (.t (.of 4))),.s (.bin .add .int (.s 0) (.c (I 1))),.q (.of 4) (.mv (.s 0))]
def F74.t29:IR:=.seq F74.t27 F74.t28
def F74.t30:IR:=.seq F74.t4 F74.t29
def F74.t31:IR:=.loop F74.t30
def F74.t32:IR:=.block 0 F74.t31
def F74.t33:IR:=.seq F74.t1 F74.t32
def F74.t34:IR:=.reg [.q (.of 3) (.mv (.c (.bool true)))]
def F74.t35:IR:=.seq F74.t34 .ret
def F74.t36:IR:=.seq F74.t33 F74.t35
def F74.t37:IR:=.seq F74.t0 F74.t36
theorem F74.fU:IR.run F74.t0 C N O K (F74.fr c b g f d i e l p z a) h nx =
 rW c h nx fun v1 h2 n3=>K (F74.fr c b v1 (.bool false) d i e l p z a) h2 n3:=by kernel_rfl
theorem F74.fV:IR.run F74.t1 C N O K (F74.fr c b g f d i e l p z a) h nx =
 K (F74.fr c b g f (I 0) i e l p z a) h nx:=by kernel_rfl
theorem F74.rP:IR.run F74.t2 C N O K (F74.fr c b g f d i e l p z a) h nx =
 zM 1 g fun v1=>zE v1 h fun v2=>sLen v2 fun v3=>zy .lss .int d v3 fun v4=>K (F74.fr c b g f d i e l v4 z a) h nx:=by kernel_rfl
theorem F74.v8:Arg.ev (.t (.of 8)) ⟨(F74.fr c b g f d i e l p z a),[]⟩=p:=by kernel_rfl
theorem F74.t5_s:IR.run F74.t5 C N O K (F74.fr c b g f d i e l p z a) h nx =
 zM 1 g fun v1=>zE v1 h fun v2=>zQ 1 v2 d fun v3=>zE v3 h fun v4=>C.fn 155 (.of 155) [b,v4] h nx fun v5 h6 n7=>K (F74.fr c b g f d v5 e l p z a) h6 n7:=by kernel_rfl
theorem F74.oW:IR.run F74.t6 C N O K (F74.fr c b g f d i e l p z a) h nx =
 K (F74.fr c b g f d i (.bool false) l p z a) h nx:=by kernel_rfl
theorem F74.t7_s:IR.run F74.t7 C N O K (F74.fr c b g f d i e l p z a) h nx =
 K (F74.fr c b g f d i e (I 0) p z a) h nx:=by kernel_rfl
theorem F74.aG:IR.run F74.t8 C N O K (F74.fr c b g f d i e l p z a) h nx =
 zM 1 g fun v1=>zE v1 h fun v2=>sLen v2 fun v3=>zy .lss .int l v3 fun v4=>K (F74.fr c b g f d i e l p v4 a) h nx:=by kernel_rfl
theorem F74.v9:Arg.ev (.t (.of 9)) ⟨(F74.fr c b g f d i e l p z a),[]⟩=z:=by kernel_rfl
theorem F74.tJ:IR.run F74.t11 C N O K tm h nx=wB F74.r7_0 C ⟨tm,[]⟩ h nx (fun tm h nx=>K tm.v h nx):=zep ..
theorem F74.zr6:wB (.s (.mv (.t (.of 6)))::.s (.mv (.s 0))::.p .push (some ((.s 0),false)) (.mv (.t (.of 5)))::.p .push (some ((.s 1),false)) (.zu 1 (.t (.of 2)))::.p .push (some ((.s 2),false)) (.load (.s 0))::.p .push (some ((.s 3),false)) (.mv (.t (.of 7)))::.p .push (some ((.s 4),false)) (.zo 1 (.s 1) (.s 0))::.p .push (some ((.s 5),false)) (.load (.s 0))::r) C ⟨(F74.fr c b g f d i e l p z a),[]⟩ h nx Kt =
 sG e false (fun k=>k i) fun v1=>sG e false (fun k=>zM 1 g k) fun v2=>sG e false (fun k=>zE v2 h k) fun v3=>sG e false (fun k=>k l) fun v4=>sG e false (fun k=>zQ 1 v3 v4 k) fun v5=>sG e false (fun k=>zE v5 h k) fun v6=>wB r C ⟨(F74.fr c b g f d i e l p z a),v6::v5::v4::v3::v2::v1::e::e::[]⟩ h nx Kt:=by kernel_rfl
theorem F74.zlo:wB (.w .push (some ((.s 6),false)) (.call (.c (.fn 82 (.of 82) [])) [(.s 5),(.s 0)])::r) C ⟨(F74.fr c b g f d i e l p z a),s0::s1::s2::s3::s4::s5::s6::s7::[]⟩ h nx Kt =
 sGW s6 false (fun k=>C.fn 82 (.of 82) [s5,s0] h nx k) h nx fun v1 h2 n3=>wB r C ⟨(F74.fr c b g f d i e l p z a),v1::s0::s1::s2::s3::s4::s5::s6::s7::[]⟩ h2 n3 Kt:=by kernel_rfl
theorem F74.zlp:wB (.s (.pick (.s 7) (.c (.bool true)) (.s 0))::.q (.of 6) (.mv (.s 0))::[]) C ⟨(F74.fr c b g f d i e l p z a),s0::s1::s2::s3::s4::s5::s6::s7::s8::[]⟩ h nx Kt =
 gY s7 (.bool true) s0 fun v1=>Kt ⟨(F74.fr c b g f d i v1 l p z a),v1::s0::s1::s2::s3::s4::s5::s6::s7::s8::[]⟩ h nx:=by kernel_rfl
theorem F74.zif:IR.run F74.t13 C N O K (F74.fr c b g f d i e l p z a) h nx =
 zy .add .int l (I 1) fun v1=>K (F74.fr c b g f d i e v1 p z a) h nx:=by kernel_rfl
theorem F74.zt8 (Inv:Nat->AV->AV->T Blk->Pa->Prop) {m:Nat} (hm:m<N) (hi:Inv m e l h nx)
  (step:∀ (m:Nat) (z6 z7 z9:AV) (h:T Blk) (nx:Pa) (R:Ks Prop),Inv m z6 z7 h nx->(∀ (m':Nat) (w6 w7 w9:AV) (h':T Blk) (nx':Pa),m'<m->Inv m' w6 w7 h' nx'->R (F74.fr c b g f d i w6 w7 p w9 a) h' nx'=.ok True)->IR.run F74.t15 C N O R (F74.fr c b g f d i z6 z7 p z9 a) h nx=.ok True) :
  IR.run F74.t16 C N O K (F74.fr c b g f d i e l p z a) h nx=.ok True:=by
 rw [F74.t16];refine yH (fun m tm h nx=>∃ z6 z7 z9,tm=(F74.fr c b g f d i z6 z7 p z9 a)/\Inv m z6 z7 h nx) ?_ hm ⟨_,_,_,rfl,hi⟩;rintro m tm h nx R ⟨z6,z7,z9,rfl,hi⟩ hR;exact step m z6 z7 z9 h nx R hi fun m' w6 w7 w9 h' nx' hlt hi'=>hR m' _ h' nx' hlt ⟨_,_,_,rfl,hi'⟩
theorem F74.zal:IR.run F74.t19 C N O K (F74.fr c b g f d i e l p z a) h nx =
 oQ e fun v1=>K (F74.fr c b g f d i e l p z v1) h nx:=by kernel_rfl
theorem F74.zeq:IR.run F74.t20 C N O K (F74.fr c b g f d i e l p z a) h nx =
 K (F74.fr c b g (.bool false) d i e l p z a) h nx:=by kernel_rfl
theorem F74.v10:Arg.ev (.t (.of 10)) ⟨(F74.fr c b g f d i e l p z a),[]⟩=a:=by kernel_rfl
theorem F74.zlq:IR.run F74.t28 C N O K (F74.fr c b g f d i e l p z a) h nx =
 zy .add .int d (I 1) fun v1=>K (F74.fr c b g f v1 i e l p z a) h nx:=by kernel_rfl
theorem F74.zt9 (Inv:Nat->AV->T Blk->Pa->Prop) {m:Nat} (hm:m<N) (hi:Inv m d h nx)
  (step:∀ (m:Nat) (z3 z4 z5 z6 z7 z8 z9 zA:AV) (h:T Blk) (nx:Pa) (R:Ks Prop),Inv m z4 h nx->(∀ (m':Nat) (w3 w4 w5 w6 w7 w8 w9 wA:AV) (h':T Blk) (nx':Pa),m'<m->Inv m' w4 h' nx'->R (F74.fr c b g w3 w4 w5 w6 w7 w8 w9 wA) h' nx'=.ok True)->IR.run F74.t30 C N O R (F74.fr c b g z3 z4 z5 z6 z7 z8 z9 zA) h nx=.ok True) :
  IR.run F74.t31 C N O K (F74.fr c b g f d i e l p z a) h nx=.ok True:=by
 rw [F74.t31];refine yH (fun m tm h nx=>∃ z3 z4 z5 z6 z7 z8 z9 zA,tm=(F74.fr c b g z3 z4 z5 z6 z7 z8 z9 zA)/\Inv m z4 h nx) ?_ hm ⟨_,_,_,_,_,_,_,_,rfl,hi⟩;rintro m tm h nx R ⟨z3,z4,z5,z6,z7,z8,z9,zA,rfl,hi⟩ hR;exact step m z3 z4 z5 z6 z7 z8 z9 zA h nx R hi fun m' w3 w4 w5 w6 w7 w8 w9 wA h' nx' hlt hi'=>hR m' _ h' nx' hlt ⟨_,_,_,_,_,_,_,_,rfl,hi'⟩
theorem F74.zlr:IR.run F74.t34 C N O K (F74.fr c b g f d i e l p z a) h nx =
 K (F74.fr c b g (.bool true) d i e l p z a) h nx:=by kernel_rfl
theorem F74.tab:T.get none (.of 74) tbl=some F74:=by kernel_rfl
theorem F74.bind (k:T AV->OP):yO F74.params [a0,a1] F74.init k=k (F74.fr a0 a1 .undef .undef .undef .undef .undef .undef .undef .undef .undef):=by kernel_rfl
theorem F74.jq:F74.body=F74.t37:=by kernel_rfl
theorem F74.go:zX tbl N C (.of 74) [a0,a1] h nx K0=IR.run F74.t37 C N (fnO F74.res K0) (wo F74.res K0) (F74.fr a0 a1 .undef .undef .undef .undef .undef .undef .undef .undef .undef) h nx:=by
 rw [zJ F74.tab,F74.bind,F74.jq];kernel_rfl
theorem F74.ret:wo F74.res K0 (F74.fr c b g f d i e l p z a) h nx=K0 f h nx:=by kernel_rfl
end
end Go.Ev
namespace Go.Ev
open Go Go.Proofs
set_option maxRecDepth 100000
section
variable {N:Nat} {C:Calls Prop} {K0:Kw Prop} {K:Ks Prop} {h:T Blk} {nx:Pa} {c b g f d i e l p z a o s q u v w y A B D F E a0 a1 a2 a3 a4 a5 a6 a7:AV} {O:uh Prop} {tm:T AV} {Kt:KTm} {r:List RO} {s0 s1 s2 s3 s4 s5 s6 s7 s8 s9 s10 s11 s12 s13 s14 s15 s16 s17 s18 s19 s20 s21 s22 s23 s24 s25 s26 s27 s28 s29 s30 s31 s32 s33 s34 s35 s36 s37 s38 s39 s40 s41 s42 s43 s44 s45 s46 s47 s48 s49 s50 s51 s52 s53 s54 s55 s56 s57 s58 s59:AV}
def F34.t0:IR:=.reg [.w (.loc (.of 1)) none (.box (.t (.of 0))),.q (.of 2) (.mv (.c .zf)),.q (.of 3) (.mv (.c (I 0)))]
def F34.t1:IR:=.yu [] [(.s (.zi 2 (.t (.of 1))),0,[]),(.s (.zu 0 (.t (.of 1))),1,[]),(.s (.load (.s 0)),1,[]),(.s (.bin .gtr .int (.s 0) (.c (I 9))),1,[]),(.w .push none (.call (.c (.fn 103 (.of 103) [])) [(.s 3)]),0,[]),(.w .push none (.call (.c (.fn 96 (.of 96) [])) [(.s 1),(.c (I 20))]),0,[]),(.w .push none (.zx 1 2 [(I 0)] [(0,1,(.s 1)),(1,1,(.s 0))]),0,[]),(.w .push none (.call (.c (.fn 94 (.of 94) [])) [(.s 0)]),0,[]),(.q (.of 4) (.mv (.s 0)),0,[])]
def F34.t2:IR:=.reg [.s (.mv (.t (.of 4))),.q (.of 13) (.bin .neq .int (.s 0) (.c (I 0)))]
def F34.t3:IR:=.reg [.s (.mv (.t (.of 4))),.q (.of 2) (.mv (.c .zf)),.q (.of 3) (.mv (.s 0))]
def F34.t4:IR:=.seq F34.t3 .ret
def F34.t5:IR:=.cond (.t (.of 13)) F34.t4 .skip
def F34.t6:IR:=.seq F34.t2 F34.t5
def F34.t7:IR:=.seq F34.t1 F34.t6
def F34.t8:IR:=.reg [.s (.zi 2 (.t (.of 1))),.w .push none (.call (.c (.fn 104 (.of 104) [])) [(.s 0)]),.w (.loc (.of 5)) none (.alloc [.fK]),.w .none none (.store 1 (.t (.of 5)) (.s 0))]
def F34.t9:IR:=.reg [.s (.zu 0 (.t (.of 1))),.s (.load (.s 0)),.w .push none (.jr 1 24 [.zf] (.s 0) (.s 0)),.w (.loc (.of 6)) none (.alloc [.zf]),.w .none none (.store 1 (.t (.of 6)) (.s 0))]
def F34.t10:IR:=.reg [.s (.zu 1 (.t (.of 1))),.q (.of 14) (.load (.s 0)),.q (.of 15) (.len (.t (.of 14))),.q (.of 16) (.mv (.c (I 0)))]
def F34.t11:IR:=.reg [.q (.of 17) (.bin .lss .int (.t (.of 16)) (.t (.of 15)))]
def F34.t12:IR:=.cond (.t (.of 17)) .skip (.exit 0)
def F34.t13:IR:=.reg [.s (.zo 1 (.t (.of 14)) (.t (.of 16))),.s (.load (.s 0)),.q (.of 7) (.mv (.s 0))]
def F34.t14:IR:=.reg [.s (.mv (.t (.of 7))),.s (.mv (.t (.of 7))),.s (.len (.s 0)),.s (.bin .sub .int (.s 0) (.c (I 1))),.s (.zo 1 (.s 3) (.s 0)),.s (.load (.s 0)),.q (.of 8) (.mv (.s 0))]
def F34.t15:IR:=.yu [] [(.s (.load (.t (.of 6))),2,[]),(.s (.mv (.t (.of 8))),2,[]),(.s (.load (.t (.of 6))),1,[]),(.s (.mv (.t (.of 8))),1,[]),(.s (.zo 1 (.s 1) (.s 0)),1,[]),(.s (.load (.s 0)),1,[]),(.s (.mv (.t (.of 7))),0,[]),(.w .push none (.zx 1 1 [.zf] [(0,1,(.s 0))]),0,[]),(.w .push none (.app 1 24 (.s 2) (.s 0)),0,[]),(.s (.zo 1 (.s 8) (.s 7)),0,[]),(.w .none none (.store 1 (.s 0) (.s 1)),0,[])]
def F34.t16:IR:=.seq F34.t14 F34.t15
def F34.t17:IR:=.seq F34.t13 F34.t16
def F34.t18:IR:=.block 1 F34.t17
def F34.t19:IR:=.reg [.s (.bin .add .int (.t (.of 16)) (.c (I 1))),.q (.of 16) (.mv (.s 0))]
def F34.t20:IR:=.seq F34.t18 F34.t19
def F34.t21:IR:=.seq F34.t12 F34.t20
def F34.t22:IR:=.seq F34.t11 F34.t21
def F34.t23:IR:=.loop F34.t22
def F34.t24:IR:=.block 0 F34.t23
def F34.t25:IR:=.seq F34.t10 F34.t24
def F34.t26:IR:=.reg [.w (.loc (.of 9)) none (.alloc [.zf])]
def F34.t27:IR:=.reg [.s (.zu 0 (.t (.of 1))),.s (.load (.s 0)),.w .push none (.jr 1 8 [(I 0)] (.s 0) (.s 0)),.w (.loc (.of 10)) none (.alloc [.zf]),.w .none none (.store 1 (.t (.of 10)) (.s 0))]
def F34.t28:IR:=.reg [.s (.zu 0 (.t (.of 1))),.s (.load (.s 0)),.w .push none (.jr 1 1 [(.bool false)] (.s 0) (.s 0)),.w (.loc (.of 11)) none (.alloc [.zf]),.w .none none (.store 1 (.t (.of 11)) (.s 0))]
def F34.t29:IR:=.reg [.w (.loc (.of 12)) none (.alloc [.fK])]
def F34.t30:IR:=.reg [.s (.fn 105 (.of 105) [(.t (.of 1)),(.t (.of 9)),(.t (.of 10)),(.t (.of 11)),(.t (.of 6)),(.t (.of 5)),(.t (.of 12))]),.w .none none (.store 1 (.t (.of 12)) (.s 0))]
def F34.t31:IR:=.reg [.s (.load (.t (.of 12))),.w .push none (.call (.s 0) [(.c (I 0))]),.q (.of 18) (.not (.s 0))]
def F34.t32:IR:=.reg [.q (.of 2) (.mv (.c .zf)),.q (.of 3) (.mv (.c (I 5)))]
def F34.t33:IR:=.seq F34.t32 .ret
def F34.t34:IR:=.cond (.t (.of 18)) F34.t33 .skip
def F34.t35:IR:=.seq F34.t31 F34.t34
def F34.t36:IR:=.reg [.s (.load (.t (.of 9))),.q (.of 2) (.mv (.s 0)),.q (.of 3) (.mv (.c (I 0)))]
def F34.t37:IR:=.seq F34.t36 .ret
def F34.t38:IR:=.seq F34.t35 F34.t37
def F34.t39:IR:=.seq F34.t30 F34.t38
def F34.t40:IR:=.seq F34.t29 F34.t39
def F34.t41:IR:=.seq F34.t28 F34.t40
def F34.t42:IR:=.seq F34.t27 F34.t41
def F34.t43:IR:=.seq F34.t26 F34.t42
def F34.t44:IR:=.seq F34.t25 F34.t43
def F34.t45:IR:=.seq F34.t9 F34.t44
def F34.t46:IR:=.seq F34.t8 F34.t45
def F34.t47:IR:=.seq F34.t7 F34.t46
def F34.t48:IR:=.seq F34.t0 F34.t47
theorem F34.fU:IR.run F34.t0 C N O K (F34.fr c b g f d i e l p z a o s q u v w y A) h nx =
 rW c h nx fun v1 h2 n3=>K (F34.fr c v1 .zf (I 0) d i e l p z a o s q u v w y A) h2 n3:=by kernel_rfl
theorem F34.fV:IR.run F34.t1 C N O K (F34.fr c b g f d i e l p z a o s q u v w y A) h nx =
 zK 2 b h fun v1=>zM 0 b fun v2=>zE v2 h fun v3=>zy .gtr .int v3 (I 9) fun v4=>C.fn 103 (.of 103) [v1] h nx fun v5 h6 n7=>(zy .gtr .int v3 (I 9) fun vO=>zI vO v4 ((zE v2 h6 fun vW=>zI vW v3 ((zM 0 b fun vV=>zI vV v2 (C.fn 96 (.of 96) [v4,(I 20)] h6 n7 fun v8 h9 nF=>yV 1 2 [(I 0)] [(0,1,v5),(1,1,v8)] h9 nF fun vB hF nG=>C.fn 94 (.of 94) [vB] hF nG fun vE hL nM=>K (F34.fr c b g f vE i e l p z a o s q u v w y A) hL nM)))))):=by kernel_rfl
theorem F34.rP:IR.run F34.t2 C N O K (F34.fr c b g f d i e l p z a o s q u v w y A) h nx =
 zy .neq .int d (I 0) fun v1=>K (F34.fr c b g f d i e l p z a o s v1 u v w y A) h nx:=by kernel_rfl
theorem F34.au:IR.run F34.t3 C N O K (F34.fr c b g f d i e l p z a o s q u v w y A) h nx =
 K (F34.fr c b .zf d d i e l p z a o s q u v w y A) h nx:=by kernel_rfl
theorem F34.v13:Arg.ev (.t (.of 13)) ⟨(F34.fr c b g f d i e l p z a o s q u v w y A),[]⟩=q:=by kernel_rfl
theorem F34.aG:IR.run F34.t8 C N O K (F34.fr c b g f d i e l p z a o s q u v w y A) h nx =
 zK 2 b h fun v1=>C.fn 104 (.of 104) [v1] h nx fun v2 h3 n4=>yJ [.fK] h3 n4 fun v5 h6 n7=>zL 1 v5 v2 h6 n7 fun v8 h9 nF=>K (F34.fr c b g f d v5 e l p z a o s q u v w y A) h9 nF:=by kernel_rfl
theorem F34.aQ:IR.run F34.t9 C N O K (F34.fr c b g f d i e l p z a o s q u v w y A) h nx =
 zM 0 b fun v1=>zE v1 h fun v2=>uC 1 24 [.zf] v2 v2 h nx fun v3 h4 n5=>yJ [.zf] h4 n5 fun v6 h7 n8=>zL 1 v6 v3 h7 n8 fun v9 hV nV=>K (F34.fr c b g f d i v6 l p z a o s q u v w y A) hV nV:=by kernel_rfl
theorem F34.eF:IR.run F34.t10 C N O K (F34.fr c b g f d i e l p z a o s q u v w y A) h nx =
 zM 1 b fun v1=>zE v1 h fun v2=>sLen v2 fun v3=>K (F34.fr c b g f d i e l p z a o s q v2 v3 (I 0) y A) h nx:=by kernel_rfl
theorem F34.tJ:IR.run F34.t11 C N O K (F34.fr c b g f d i e l p z a o s q u v w y A) h nx =
 zy .lss .int w v fun v1=>K (F34.fr c b g f d i e l p z a o s q u v w v1 A) h nx:=by kernel_rfl
theorem F34.v17:Arg.ev (.t (.of 17)) ⟨(F34.fr c b g f d i e l p z a o s q u v w y A),[]⟩=y:=by kernel_rfl
theorem F34.zif:IR.run F34.t13 C N O K (F34.fr c b g f d i e l p z a o s q u v w y A) h nx =
 zQ 1 u w fun v1=>zE v1 h fun v2=>K (F34.fr c b g f d i e v2 p z a o s q u v w y A) h nx:=by kernel_rfl
theorem F34.zah:IR.run F34.t14 C N O K (F34.fr c b g f d i e l p z a o s q u v w y A) h nx =
 sLen l fun v1=>zy .sub .int v1 (I 1) fun v2=>zQ 1 l v2 fun v3=>zE v3 h fun v4=>K (F34.fr c b g f d i e l v4 z a o s q u v w y A) h nx:=by kernel_rfl
theorem F34.eG:IR.run F34.t15 C N O K (F34.fr c b g f d i e l p z a o s q u v w y A) h nx =
 zE e h fun v1=>zE e h fun v2=>zQ 1 v2 p fun v3=>zE v3 h fun v4=>yV 1 1 [.zf] [(0,1,l)] h nx fun v5 h6 n7=>(zE v3 h6 fun vO=>zI vO v4 ((zQ 1 v2 p fun vW=>zI vW v3 (zI p p ((zE e h6 fun vV=>zI vV v2 (zI p p ((zE e h6 fun vN=>zI vN v1 (sJ 1 24 v4 v5 h6 n7 fun v8 h9 nF=>zI p p ((zE e h9 fun vU=>zI vU v1 (zQ 1 v1 p fun vB=>zL 1 vB v8 h9 nF fun vC h13 n14=>K (F34.fr c b g f d i e l p z a o s q u v w y A) h13 n14))))))))))))):=by kernel_rfl
theorem F34.zal:IR.run F34.t19 C N O K (F34.fr c b g f d i e l p z a o s q u v w y A) h nx =
 zy .add .int w (I 1) fun v1=>K (F34.fr c b g f d i e l p z a o s q u v v1 y A) h nx:=by kernel_rfl
theorem F34.zua (Inv:Nat->AV->T Blk->Pa->Prop) {m:Nat} (hm:m<N) (hi:Inv m w h nx)
  (step:∀ (m:Nat) (z7 z8 zS zT:AV) (h:T Blk) (nx:Pa) (R:Ks Prop),Inv m zS h nx->(∀ (m':Nat) (w7 w8 wN wO:AV) (h':T Blk) (nx':Pa),m'<m->Inv m' wN h' nx'->R (F34.fr c b g f d i e w7 w8 z a o s q u v wN wO A) h' nx'=.ok True)->IR.run F34.t22 C N O R (F34.fr c b g f d i e z7 z8 z a o s q u v zS zT A) h nx=.ok True) :
  IR.run F34.t23 C N O K (F34.fr c b g f d i e l p z a o s q u v w y A) h nx=.ok True:=by
 rw [F34.t23];refine yH (fun m tm h nx=>∃ z7 z8 zS zT,tm=(F34.fr c b g f d i e z7 z8 z a o s q u v zS zT A)/\Inv m zS h nx) ?_ hm ⟨_,_,_,_,rfl,hi⟩;rintro m tm h nx R ⟨z7,z8,zS,zT,rfl,hi⟩ hR;exact step m z7 z8 zS zT h nx R hi fun m' w7 w8 wN wO h' nx' hlt hi'=>hR m' _ h' nx' hlt ⟨_,_,_,_,rfl,hi'⟩
theorem F34.zue:IR.run F34.t26 C N O K (F34.fr c b g f d i e l p z a o s q u v w y A) h nx =
 yJ [.zf] h nx fun v1 h2 n3=>K (F34.fr c b g f d i e l p v1 a o s q u v w y A) h2 n3:=by kernel_rfl
theorem F34.zln:IR.run F34.t27 C N O K (F34.fr c b g f d i e l p z a o s q u v w y A) h nx =
 zM 0 b fun v1=>zE v1 h fun v2=>uC 1 8 [(I 0)] v2 v2 h nx fun v3 h4 n5=>yJ [.zf] h4 n5 fun v6 h7 n8=>zL 1 v6 v3 h7 n8 fun v9 hV nV=>K (F34.fr c b g f d i e l p z v6 o s q u v w y A) hV nV:=by kernel_rfl
theorem F34.zlq:IR.run F34.t28 C N O K (F34.fr c b g f d i e l p z a o s q u v w y A) h nx =
 zM 0 b fun v1=>zE v1 h fun v2=>uC 1 1 [(.bool false)] v2 v2 h nx fun v3 h4 n5=>yJ [.zf] h4 n5 fun v6 h7 n8=>zL 1 v6 v3 h7 n8 fun v9 hV nV=>K (F34.fr c b g f d i e l p z a v6 s q u v w y A) hV nV:=by kernel_rfl
theorem F34.zuf:IR.run F34.t29 C N O K (F34.fr c b g f d i e l p z a o s q u v w y A) h nx =
 yJ [.fK] h nx fun v1 h2 n3=>K (F34.fr c b g f d i e l p z a o v1 q u v w y A) h2 n3:=by kernel_rfl
theorem F34.zlk:IR.run F34.t30 C N O K (F34.fr c b g f d i e l p z a o s q u v w y A) h nx =
 zL 1 s (.fn 105 (.of 105) [b,z,a,o,e,i,s]) h nx fun v1 h2 n3=>K (F34.fr c b g f d i e l p z a o s q u v w y A) h2 n3:=by kernel_rfl
theorem F34.zam:IR.run F34.t31 C N O K (F34.fr c b g f d i e l p z a o s q u v w y A) h nx =
 zE s h fun v1=>dU C v1 [(I 0)] h nx fun v2 h3 n4=>oQ v2 fun v5=>K (F34.fr c b g f d i e l p z a o s q u v w y v5) h3 n4:=by kernel_rfl
theorem F34.v18:Arg.ev (.t (.of 18)) ⟨(F34.fr c b g f d i e l p z a o s q u v w y A),[]⟩=A:=by kernel_rfl
theorem F34.zug:IR.run F34.t36 C N O K (F34.fr c b g f d i e l p z a o s q u v w y A) h nx =
 zE z h fun v1=>K (F34.fr c b v1 (I 0) d i e l p z a o s q u v w y A) h nx:=by kernel_rfl
theorem F34.tab:T.get none (.of 34) tbl=some F34:=by kernel_rfl
theorem F34.bind (k:T AV->OP):yO F34.params [a0] F34.init k=k (F34.fr a0 .undef .undef .undef .undef .undef .undef .undef .undef .undef .undef .undef .undef .undef .undef .undef .undef .undef .undef):=by kernel_rfl
theorem F34.jq:F34.body=F34.t48:=by kernel_rfl
theorem F34.go:zX tbl N C (.of 34) [a0] h nx K0=IR.run F34.t48 C N (fnO F34.res K0) (wo F34.res K0) (F34.fr a0 .undef .undef .undef .undef .undef .undef .undef .undef .undef .undef .undef .undef .undef .undef .undef .undef .undef .undef) h nx:=by
 rw [zJ F34.tab,F34.bind,F34.jq];kernel_rfl
theorem F34.ret:wo F34.res K0 (F34.fr c b g f d i e l p z a o s q u v w y A) h nx=K0 (.tup [g,f]) h nx:=by kernel_rfl
def zh.t0:IR:=.reg [.q (.of 8) (.mv (.c (.bool false)))]
def zh.t1:IR:=.reg [.s (.mv (.t (.of 0))),.s (.zu 0 (.t (.of 1))),.s (.load (.s 0)),.q (.of 12) (.bin .eql .int (.s 2) (.s 0))]
def zh.t2:IR:=.yu [] [(.s (.load (.t (.of 2))),2,[]),(.s (.load (.t (.of 3))),0,[]),(.w .push none (.call (.c (.fn 106 (.of 106) [])) [(.s 0)]),0,[]),(.s (.build [.zf,(.bool false)] [(0,1,(.s 0))]),0,[]),(.w .push none (.zx 2 1 [.zf,(.bool false)] [(0,2,(.s 0))]),0,[]),(.w .push none (.appq 2 32 (.s 4) (.s 0)),0,[]),(.w .none none (.store 1 (.t (.of 2)) (.s 0)),0,[])]
def zh.t3:IR:=.reg [.s (.load (.t (.of 2))),.s (.len (.s 0)),.s (.bin .leq .int (.s 0) (.c (I 1536))),.q (.of 8) (.mv (.s 0))]
def zh.t4:IR:=.seq zh.t3 .ret
def zh.t5:IR:=.seq zh.t2 zh.t4
def zh.t6:IR:=.cond (.t (.of 12)) zh.t5 .skip
def zh.t7:IR:=.seq zh.t1 zh.t6
def zh.t8:IR:=.reg [.s (.zu 0 (.t (.of 1))),.q (.of 13) (.load (.s 0)),.q (.of 14) (.mv (.c (I 0)))]
def zh.t9:IR:=.reg [.q (.of 15) (.bin .lss .int (.t (.of 14)) (.t (.of 13)))]
def zh.t10:IR:=.cond (.t (.of 15)) .skip (.exit 0)
def zh.t11:IR:=.reg [.s (.mv (.t (.of 14))),.q (.of 9) (.mv (.s 0))]
def zh.t12:IR:=.reg [.s (.load (.t (.of 4))),.s (.mv (.t (.of 9))),.s (.zo 1 (.s 1) (.s 0)),.q (.of 16) (.load (.s 0))]
def zh.t13:IR:=.cond (.t (.of 16)) (.exit 1) .skip
def zh.t14:IR:=.seq zh.t12 zh.t13
def zh.t15:IR:=.reg [.s (.load (.t (.of 3))),.s (.mv (.t (.of 0))),.s (.mv (.t (.of 9))),.s (.zo 1 (.s 2) (.s 1)),.w .none none (.store 1 (.s 0) (.s 1))]
def zh.t16:IR:=.reg [.s (.load (.t (.of 5))),.s (.mv (.t (.of 0))),.s (.zo 1 (.s 1) (.s 0)),.q (.of 17) (.load (.s 0)),.q (.of 18) (.len (.t (.of 17))),.q (.of 19) (.mv (.c (I 0)))]
def zh.t17:IR:=.reg [.q (.of 20) (.bin .lss .int (.t (.of 19)) (.t (.of 18)))]
def zh.t18:IR:=.cond (.t (.of 20)) .skip (.exit 2)
def zh.t19:IR:=.reg [.s (.zo 1 (.t (.of 17)) (.t (.of 19))),.s (.load (.s 0)),.q (.of 10) (.mv (.s 0))]
def zh.t20:IR:=.reg [.s (.load (.t (.of 6))),.s (.load (.t (.of 3))),.s (.mv (.t (.of 10))),.w .push none (.call (.s 2) [(.s 1),(.s 0)]),.q (.of 21) (.not (.s 0))]
def zh.t21:IR:=.cond (.t (.of 21)) (.exit 1) .skip
def zh.t22:IR:=.seq zh.t20 zh.t21
def zh.t23:IR:=.seq zh.t19 zh.t22
def zh.t24:IR:=.block 3 zh.t23
def zh.t25:IR:=.reg [.s (.bin .add .int (.t (.of 19)) (.c (I 1))),.q (.of 19) (.mv (.s 0))]
def zh.t26:IR:=.seq zh.t24 zh.t25
def zh.t27:IR:=.seq zh.t18 zh.t26
def zh.t28:IR:=.seq zh.t17 zh.t27
def zh.t29:IR:=.loop zh.t28
def zh.t30:IR:=.block 2 zh.t29
def zh.t31:IR:=.seq zh.t16 zh.t30
def zh.t32:IR:=.reg [.s (.load (.t (.of 4))),.s (.mv (.t (.of 9))),.s (.zo 1 (.s 1) (.s 0)),.w .none none (.store 1 (.s 0) (.c (.bool true)))]
def zh.t33:IR:=.reg [.s (.load (.t (.of 7))),.s (.mv (.t (.of 0))),.s (.bin .add .int (.s 0) (.c (I 1))),.w .push none (.call (.s 2) [(.s 0)]),.q (.of 11) (.mv (.s 0))]
def zh.t34:IR:=.reg [.s (.load (.t (.of 4))),.s (.mv (.t (.of 9))),.s (.zo 1 (.s 1) (.s 0)),.w .none none (.store 1 (.s 0) (.c (.bool false)))]
def zh.t35:IR:=.reg [.s (.mv (.t (.of 11))),.q (.of 22) (.not (.s 0))]
def zh.t36:IR:=.reg [.q (.of 8) (.mv (.c (.bool false)))]
def zh.t37:IR:=.seq zh.t36 .ret
def zh.t38:IR:=.cond (.t (.of 22)) zh.t37 .skip
def zh.t39:IR:=.seq zh.t35 zh.t38
def zh.t40:IR:=.seq zh.t34 zh.t39
def zh.t41:IR:=.seq zh.t33 zh.t40
def zh.t42:IR:=.seq zh.t32 zh.t41
def zh.t43:IR:=.seq zh.t31 zh.t42
def zh.t44:IR:=.seq zh.t15 zh.t43
def zh.t45:IR:=.seq zh.t14 zh.t44
def zh.t46:IR:=.seq zh.t11 zh.t45
def zh.t47:IR:=.block 1 zh.t46
def zh.t48:IR:=.reg [.s (.bin .add .int (.t (.of 14)) (.c (I 1))),.q (.of 14) (.mv (.s 0))]
def zh.t49:IR:=.seq zh.t47 zh.t48
def zh.t50:IR:=.seq zh.t10 zh.t49
def zh.t51:IR:=.seq zh.t9 zh.t50
def zh.t52:IR:=.loop zh.t51
def zh.t53:IR:=.block 0 zh.t52
def zh.t54:IR:=.seq zh.t8 zh.t53
def zh.t55:IR:=.reg [.q (.of 8) (.mv (.c (.bool true)))]
def zh.t56:IR:=.seq zh.t55 .ret
def zh.t57:IR:=.seq zh.t54 zh.t56
def zh.t58:IR:=.seq .skip zh.t57
def zh.t59:IR:=.seq zh.t7 zh.t58
def zh.t60:IR:=.seq zh.t0 zh.t59
theorem zh.fU:IR.run zh.t0 C N O K (zh.fr c b g f d i e l p z a o s q u v w y A B D F E) h nx =
 K (zh.fr c b g f d i e l (.bool false) z a o s q u v w y A B D F E) h nx:=by kernel_rfl
theorem zh.fV:IR.run zh.t1 C N O K (zh.fr c b g f d i e l p z a o s q u v w y A B D F E) h nx =
 zM 0 b fun v1=>zE v1 h fun v2=>zy .eql .int c v2 fun v3=>K (zh.fr c b g f d i e l p z a o v3 q u v w y A B D F E) h nx:=by kernel_rfl
theorem zh.rP:IR.run zh.t2 C N O K (zh.fr c b g f d i e l p z a o s q u v w y A B D F E) h nx =
 zE g h fun v1=>zE f h fun v2=>C.fn 106 (.of 106) [v2] h nx fun v3 h4 n5=>(zE g h4 fun vV=>zI vV v1 (uP [.zf,(.bool false)] [(0,1,v3)] fun v6=>yV 2 1 [.zf,(.bool false)] [(0,2,v6)] h4 n5 fun v7 h8 n9=>(zE g h8 fun vN=>zI vN v1 (xL C 2 32 v1 v7 h8 n9 fun vA hA nA=>zL 1 g vA hA nA fun vD hB nB=>K (zh.fr c b g f d i e l p z a o s q u v w y A B D F E) hB nB)))):=by kernel_rfl
theorem zh.au:IR.run zh.t3 C N O K (zh.fr c b g f d i e l p z a o s q u v w y A B D F E) h nx =
 zE g h fun v1=>sLen v1 fun v2=>zy .leq .int v2 (I 1536) fun v3=>K (zh.fr c b g f d i e l v3 z a o s q u v w y A B D F E) h nx:=by kernel_rfl
theorem zh.v12:Arg.ev (.t (.of 12)) ⟨(zh.fr c b g f d i e l p z a o s q u v w y A B D F E),[]⟩=s:=by kernel_rfl
theorem zh.aG:IR.run zh.t8 C N O K (zh.fr c b g f d i e l p z a o s q u v w y A B D F E) h nx =
 zM 0 b fun v1=>zE v1 h fun v2=>K (zh.fr c b g f d i e l p z a o s v2 (I 0) v w y A B D F E) h nx:=by kernel_rfl
theorem zh.aQ:IR.run zh.t9 C N O K (zh.fr c b g f d i e l p z a o s q u v w y A B D F E) h nx =
 zy .lss .int u q fun v1=>K (zh.fr c b g f d i e l p z a o s q u v1 w y A B D F E) h nx:=by kernel_rfl
theorem zh.v15:Arg.ev (.t (.of 15)) ⟨(zh.fr c b g f d i e l p z a o s q u v w y A B D F E),[]⟩=v:=by kernel_rfl
theorem zh.tJ:IR.run zh.t11 C N O K (zh.fr c b g f d i e l p z a o s q u v w y A B D F E) h nx =
 K (zh.fr c b g f d i e l p u a o s q u v w y A B D F E) h nx:=by kernel_rfl
theorem zh.zan:IR.run zh.t12 C N O K (zh.fr c b g f d i e l p z a o s q u v w y A B D F E) h nx =
 zE d h fun v1=>zQ 1 v1 z fun v2=>zE v2 h fun v3=>K (zh.fr c b g f d i e l p z a o s q u v v3 y A B D F E) h nx:=by kernel_rfl
theorem zh.v16:Arg.ev (.t (.of 16)) ⟨(zh.fr c b g f d i e l p z a o s q u v w y A B D F E),[]⟩=w:=by kernel_rfl
theorem zh.eG:IR.run zh.t15 C N O K (zh.fr c b g f d i e l p z a o s q u v w y A B D F E) h nx =
 zE f h fun v1=>zQ 1 v1 c fun v2=>zL 1 v2 z h nx fun v3 h4 n5=>K (zh.fr c b g f d i e l p z a o s q u v w y A B D F E) h4 n5:=by kernel_rfl
theorem zh.fZ:IR.run zh.t16 C N O K (zh.fr c b g f d i e l p z a o s q u v w y A B D F E) h nx =
 zE i h fun v1=>zQ 1 v1 c fun v2=>zE v2 h fun v3=>sLen v3 fun v4=>K (zh.fr c b g f d i e l p z a o s q u v w v3 v4 (I 0) D F E) h nx:=by kernel_rfl
theorem zh.aO:IR.run zh.t17 C N O K (zh.fr c b g f d i e l p z a o s q u v w y A B D F E) h nx =
 zy .lss .int B A fun v1=>K (zh.fr c b g f d i e l p z a o s q u v w y A B v1 F E) h nx:=by kernel_rfl
theorem zh.v20:Arg.ev (.t (.of 20)) ⟨(zh.fr c b g f d i e l p z a o s q u v w y A B D F E),[]⟩=D:=by kernel_rfl
theorem zh.zal:IR.run zh.t19 C N O K (zh.fr c b g f d i e l p z a o s q u v w y A B D F E) h nx =
 zQ 1 y B fun v1=>zE v1 h fun v2=>K (zh.fr c b g f d i e l p z v2 o s q u v w y A B D F E) h nx:=by kernel_rfl
theorem zh.zeq:IR.run zh.t20 C N O K (zh.fr c b g f d i e l p z a o s q u v w y A B D F E) h nx =
 zE e h fun v1=>zE f h fun v2=>dU C v1 [v2,a] h nx fun v3 h4 n5=>oQ v3 fun v6=>K (zh.fr c b g f d i e l p z a o s q u v w y A B D v6 E) h4 n5:=by kernel_rfl
theorem zh.v21:Arg.ev (.t (.of 21)) ⟨(zh.fr c b g f d i e l p z a o s q u v w y A B D F E),[]⟩=F:=by kernel_rfl
theorem zh.zuh:IR.run zh.t25 C N O K (zh.fr c b g f d i e l p z a o s q u v w y A B D F E) h nx =
 zy .add .int B (I 1) fun v1=>K (zh.fr c b g f d i e l p z a o s q u v w y A v1 D F E) h nx:=by kernel_rfl
theorem zh.zui (Inv:Nat->AV->T Blk->Pa->Prop) {m:Nat} (hm:m<N) (hi:Inv m B h nx)
  (step:∀ (m:Nat) (zA zG zH zN:AV) (h:T Blk) (nx:Pa) (R:Ks Prop),Inv m zG h nx->(∀ (m':Nat) (wA wH wI wJ:AV) (h':T Blk) (nx':Pa),m'<m->Inv m' wH h' nx'->R (zh.fr c b g f d i e l p z wA o s q u v w y A wH wI wJ E) h' nx'=.ok True)->IR.run zh.t28 C N O R (zh.fr c b g f d i e l p z zA o s q u v w y A zG zH zN E) h nx=.ok True) :
  IR.run zh.t29 C N O K (zh.fr c b g f d i e l p z a o s q u v w y A B D F E) h nx=.ok True:=by
 rw [zh.t29];refine yH (fun m tm h nx=>∃ zA zG zH zN,tm=(zh.fr c b g f d i e l p z zA o s q u v w y A zG zH zN E)/\Inv m zG h nx) ?_ hm ⟨_,_,_,_,rfl,hi⟩;rintro m tm h nx R ⟨zA,zG,zH,zN,rfl,hi⟩ hR;exact step m zA zG zH zN h nx R hi fun m' wA wH wI wJ h' nx' hlt hi'=>hR m' _ h' nx' hlt ⟨_,_,_,_,rfl,hi'⟩
theorem zh.zuj:IR.run zh.t32 C N O K (zh.fr c b g f d i e l p z a o s q u v w y A B D F E) h nx =
 zE d h fun v1=>zQ 1 v1 z fun v2=>zL 1 v2 (.bool true) h nx fun v3 h4 n5=>K (zh.fr c b g f d i e l p z a o s q u v w y A B D F E) h4 n5:=by kernel_rfl
theorem zh.zuk:IR.run zh.t33 C N O K (zh.fr c b g f d i e l p z a o s q u v w y A B D F E) h nx =
 zE l h fun v1=>zy .add .int c (I 1) fun v2=>dU C v1 [v2] h nx fun v3 h4 n5=>K (zh.fr c b g f d i e l p z a v3 s q u v w y A B D F E) h4 n5:=by kernel_rfl
theorem zh.zlr:IR.run zh.t34 C N O K (zh.fr c b g f d i e l p z a o s q u v w y A B D F E) h nx =
 zE d h fun v1=>zQ 1 v1 z fun v2=>zL 1 v2 (.bool false) h nx fun v3 h4 n5=>K (zh.fr c b g f d i e l p z a o s q u v w y A B D F E) h4 n5:=by kernel_rfl
theorem zh.zul:IR.run zh.t35 C N O K (zh.fr c b g f d i e l p z a o s q u v w y A B D F E) h nx =
 oQ o fun v1=>K (zh.fr c b g f d i e l p z a o s q u v w y A B D F v1) h nx:=by kernel_rfl
theorem zh.v22:Arg.ev (.t (.of 22)) ⟨(zh.fr c b g f d i e l p z a o s q u v w y A B D F E),[]⟩=E:=by kernel_rfl
theorem zh.zls:IR.run zh.t48 C N O K (zh.fr c b g f d i e l p z a o s q u v w y A B D F E) h nx =
 zy .add .int u (I 1) fun v1=>K (zh.fr c b g f d i e l p z a o s q v1 v w y A B D F E) h nx:=by kernel_rfl
theorem zh.zum (Inv:Nat->AV->T Blk->Pa->Prop) {m:Nat} (hm:m<N) (hi:Inv m u h nx)
  (step:∀ (m:Nat) (z8 z9 zA zB zU zV zS zT zF zG zH zN zO:AV) (h:T Blk) (nx:Pa) (R:Ks Prop),Inv m zU h nx->(∀ (m':Nat) (w8 w9 wA wD wP wQ wN wO wG wH wI wJ wK:AV) (h':T Blk) (nx':Pa),m'<m->Inv m' wP h' nx'->R (zh.fr c b g f d i e l w8 w9 wA wD s q wP wQ wN wO wG wH wI wJ wK) h' nx'=.ok True)->IR.run zh.t51 C N O R (zh.fr c b g f d i e l z8 z9 zA zB s q zU zV zS zT zF zG zH zN zO) h nx=.ok True) :
  IR.run zh.t52 C N O K (zh.fr c b g f d i e l p z a o s q u v w y A B D F E) h nx=.ok True:=by
 rw [zh.t52];refine yH (fun m tm h nx=>∃ z8 z9 zA zB zU zV zS zT zF zG zH zN zO,tm=(zh.fr c b g f d i e l z8 z9 zA zB s q zU zV zS zT zF zG zH zN zO)/\Inv m zU h nx) ?_ hm ⟨_,_,_,_,_,_,_,_,_,_,_,_,_,rfl,hi⟩;rintro m tm h nx R ⟨z8,z9,zA,zB,zU,zV,zS,zT,zF,zG,zH,zN,zO,rfl,hi⟩ hR;exact step m z8 z9 zA zB zU zV zS zT zF zG zH zN zO h nx R hi fun m' w8 w9 wA wD wP wQ wN wO wG wH wI wJ wK h' nx' hlt hi'=>hR m' _ h' nx' hlt ⟨_,_,_,_,_,_,_,_,_,_,_,_,_,rfl,hi'⟩
theorem zh.zun:IR.run zh.t55 C N O K (zh.fr c b g f d i e l p z a o s q u v w y A B D F E) h nx =
 K (zh.fr c b g f d i e l (.bool true) z a o s q u v w y A B D F E) h nx:=by kernel_rfl
theorem zh.tab:T.get none (.of 105) tbl=some zh:=by kernel_rfl
theorem zh.bind (k:T AV->OP):yO zh.params [a0,a1,a2,a3,a4,a5,a6,a7] zh.init k=k (zh.fr a0 a1 a2 a3 a4 a5 a6 a7 .undef .undef .undef .undef .undef .undef .undef .undef .undef .undef .undef .undef .undef .undef .undef):=by kernel_rfl
theorem zh.jq:zh.body=zh.t60:=by kernel_rfl
theorem zh.go:zX tbl N C (.of 105) [a0,a1,a2,a3,a4,a5,a6,a7] h nx K0=IR.run zh.t60 C N (fnO zh.res K0) (wo zh.res K0) (zh.fr a0 a1 a2 a3 a4 a5 a6 a7 .undef .undef .undef .undef .undef .undef .undef .undef .undef .undef .undef .undef .undef .undef .undef) h nx:=by
 rw [zJ zh.tab,zh.bind,zh.jq];kernel_rfl
theorem zh.ret:wo zh.res K0 (zh.fr c b g f d i e l p z a o s q u v w y A B D F E) h nx=K0 p h nx:=by kernel_rfl
end
end Go.Ev
namespace Go.Ev
open Go Go.Proofs
set_option maxRecDepth 100000
section
variable {N:Nat} {C:Calls Prop} {K0:Kw Prop} {K:Ks Prop} {h:T Blk} {nx:Pa} {c b g f d i e l p z a0:AV} {O:uh Prop} {tm:T AV} {Kt:KTm} {r:List RO} {s0 s1 s2 s3 s4 s5 s6 s7 s8 s9 s10 s11 s12 s13 s14 s15 s16 s17 s18 s19 s20 s21 s22 s23 s24 s25 s26 s27 s28 s29 s30 s31 s32 s33 s34 s35 s36 s37 s38 s39 s40 s41 s42 s43 s44 s45 s46 s47 s48 s49 s50 s51 s52 s53 s54 s55 s56 s57 s58 s59:AV}
def F5.t0:IR:=.reg [.w (.loc (.of 1)) none (.box (.t (.of 0))),.q (.of 2) (.mv (.c (.bool false)))]
def F5.t1:IR:=.reg [.w .push none (.call (.c (.fn 18 (.of 18) [])) []),.s (.not (.s 0)),.s (.mv (.s 0)),.p .push (some ((.s 0),false)) (.zi 2 (.t (.of 1))),.w .push (some ((.s 1),false)) (.call (.c (.fn 32 (.of 32) [])) [(.s 0),(.c (I 20)),(.c (I 14))]),.p .push (some ((.s 2),false)) (.not (.s 0)),.q (.of 6) (.pick (.s 3) (.c (.bool true)) (.s 0))]
def F5.t2:IR:=.reg [.w .push none (.call (.c (.fn 18 (.of 18) [])) []),.q (.of 2) (.mv (.s 0))]
def F5.t3:IR:=.seq F5.t2 .ret
def F5.t4:IR:=.cond (.t (.of 6)) F5.t3 .skip
def F5.t5:IR:=.seq F5.t1 F5.t4
def F5.t6:IR:=.reg [.s (.zi 2 (.t (.of 1))),.w .push none (.call (.c (.fn 33 (.of 33) [])) [(.s 0)]),.q (.of 3) (.mv (.s 0))]
def F5.t7:IR:=.reg [.s (.mv (.t (.of 3))),.s (.bin .eql .int (.s 0) (.c (I 0))),.s (.mv (.s 0)),.p .push (some ((.s 0),true)) (.zu 0 (.t (.of 1))),.p .push (some ((.s 1),true)) (.load (.s 0)),.p .push (some ((.s 2),true)) (.bin .gtr .int (.s 0) (.c (I 9))),.q (.of 7) (.pick (.s 3) (.s 0) (.c (.bool false)))]
def F5.t8:IR:=.reg [.q (.of 3) (.mv (.c (I 20)))]
def F5.t9:IR:=.cond (.t (.of 7)) F5.t8 .skip
def F5.t10:IR:=.seq F5.t7 F5.t9
def F5.t11:IR:=.reg [.s (.mv (.t (.of 3))),.s (.bin .eql .int (.s 0) (.c (I 0))),.s (.mv (.s 0)),.p .push (some ((.s 0),true)) (.zu 0 (.t (.of 1))),.p .push (some ((.s 1),true)) (.load (.s 0)),.p .push (some ((.s 2),true)) (.bin .gtr .int (.s 0) (.c (I 5))),.q (.of 8) (.pick (.s 3) (.s 0) (.c (.bool false)))]
def F5.t12:IR:=.reg [.q (.of 2) (.mv (.c (.bool true)))]
def F5.t13:IR:=.seq F5.t12 .ret
def F5.t14:IR:=.cond (.t (.of 8)) F5.t13 .skip
def F5.t15:IR:=.seq F5.t11 F5.t14
def F5.t16:IR:=.reg [.s (.zi 2 (.t (.of 1))),.w .push none (.call (.c (.fn 34 (.of 34) [])) [(.s 0)]),.s (.mv (.s 0)),.s (.ext 0 (.s 0)),.s (.ext 1 (.s 1)),.q (.of 4) (.mv (.s 1)),.q (.of 5) (.mv (.s 0))]
def F5.t17:IR:=.reg [.s (.mv (.t (.of 3))),.q (.of 9) (.bin .neq .int (.s 0) (.c (I 0)))]
def F5.t18:IR:=.reg [.s (.mv (.t (.of 4))),.s (.mv (.t (.of 5))),.s (.mv (.t (.of 3))),.w .push none (.call (.c (.fn 28 (.of 28) [])) [(.s 2),(.s 1),(.s 0),(.c .zf)]),.q (.of 2) (.mv (.s 0))]
def F5.t19:IR:=.seq F5.t18 .ret
def F5.t20:IR:=.cond (.t (.of 9)) F5.t19 .skip
def F5.t21:IR:=.seq F5.t17 F5.t20
def F5.t22:IR:=.reg [.s (.mv (.t (.of 4))),.s (.mv (.t (.of 5))),.s (.zi 2 (.t (.of 1))),.w .push none (.call (.c (.fn 35 (.of 35) [])) [(.s 0)]),.w .push none (.call (.c (.fn 28 (.of 28) [])) [(.s 3),(.s 2),(.c (I 0)),(.s 0)]),.q (.of 2) (.mv (.s 0))]
def F5.t23:IR:=.seq F5.t22 .ret
def F5.t24:IR:=.seq F5.t21 F5.t23
def F5.t25:IR:=.seq F5.t16 F5.t24
def F5.t26:IR:=.seq F5.t15 F5.t25
def F5.t27:IR:=.seq F5.t10 F5.t26
def F5.t28:IR:=.seq F5.t6 F5.t27
def F5.t29:IR:=.seq F5.t5 F5.t28
def F5.t30:IR:=.seq F5.t0 F5.t29
theorem F5.fU:IR.run F5.t0 C N O K (F5.fr c b g f d i e l p z) h nx =
 rW c h nx fun v1 h2 n3=>K (F5.fr c v1 (.bool false) f d i e l p z) h2 n3:=by kernel_rfl
theorem F5.fV:IR.run F5.t1 C N O K (F5.fr c b g f d i e l p z) h nx =
 C.fn 18 (.of 18) [] h nx fun v1 h2 n3=>oQ v1 fun v4=>sG v4 false (fun k=>zK 2 b h2 k) fun v5=>sGW v4 false (fun k=>C.fn 32 (.of 32) [v5,(I 20),(I 14)] h2 n3 k) h2 n3 fun v6 h7 n8=>sG v4 false (fun k=>oQ v6 k) fun v9=>gY v4 (.bool true) v9 fun vA=>K (F5.fr c b g f d i vA l p z) h7 n8:=by kernel_rfl
theorem F5.rP:IR.run F5.t2 C N O K (F5.fr c b g f d i e l p z) h nx =
 C.fn 18 (.of 18) [] h nx fun v1 h2 n3=>K (F5.fr c b v1 f d i e l p z) h2 n3:=by kernel_rfl
theorem F5.v6:Arg.ev (.t (.of 6)) ⟨(F5.fr c b g f d i e l p z),[]⟩=e:=by kernel_rfl
theorem F5.oW:IR.run F5.t6 C N O K (F5.fr c b g f d i e l p z) h nx =
 zK 2 b h fun v1=>C.fn 33 (.of 33) [v1] h nx fun v2 h3 n4=>K (F5.fr c b g v2 d i e l p z) h3 n4:=by kernel_rfl
theorem F5.t7_s:IR.run F5.t7 C N O K (F5.fr c b g f d i e l p z) h nx =
 zy .eql .int f (I 0) fun v1=>sG v1 true (fun k=>zM 0 b k) fun v2=>sG v1 true (fun k=>zE v2 h k) fun v3=>sG v1 true (fun k=>zy .gtr .int v3 (I 9) k) fun v4=>gY v1 v4 (.bool false) fun v5=>K (F5.fr c b g f d i e v5 p z) h nx:=by kernel_rfl
theorem F5.aG:IR.run F5.t8 C N O K (F5.fr c b g f d i e l p z) h nx =
 K (F5.fr c b g (I 20) d i e l p z) h nx:=by kernel_rfl
theorem F5.v7:Arg.ev (.t (.of 7)) ⟨(F5.fr c b g f d i e l p z),[]⟩=l:=by kernel_rfl
theorem F5.tJ:IR.run F5.t11 C N O K (F5.fr c b g f d i e l p z) h nx =
 zy .eql .int f (I 0) fun v1=>sG v1 true (fun k=>zM 0 b k) fun v2=>sG v1 true (fun k=>zE v2 h k) fun v3=>sG v1 true (fun k=>zy .gtr .int v3 (I 5) k) fun v4=>gY v1 v4 (.bool false) fun v5=>K (F5.fr c b g f d i e l v5 z) h nx:=by kernel_rfl
theorem F5.zan:IR.run F5.t12 C N O K (F5.fr c b g f d i e l p z) h nx =
 K (F5.fr c b (.bool true) f d i e l p z) h nx:=by kernel_rfl
theorem F5.v8:Arg.ev (.t (.of 8)) ⟨(F5.fr c b g f d i e l p z),[]⟩=p:=by kernel_rfl
theorem F5.fZ:IR.run F5.t16 C N O K (F5.fr c b g f d i e l p z) h nx =
 zK 2 b h fun v1=>C.fn 34 (.of 34) [v1] h nx fun v2 h3 n4=>fF 0 v2 fun v5=>fF 1 v2 fun v6=>K (F5.fr c b g f v5 v6 e l p z) h3 n4:=by kernel_rfl
theorem F5.aO:IR.run F5.t17 C N O K (F5.fr c b g f d i e l p z) h nx =
 zy .neq .int f (I 0) fun v1=>K (F5.fr c b g f d i e l p v1) h nx:=by kernel_rfl
theorem F5.zen:IR.run F5.t18 C N O K (F5.fr c b g f d i e l p z) h nx =
 C.fn 28 (.of 28) [d,i,f,.zf] h nx fun v1 h2 n3=>K (F5.fr c b v1 f d i e l p z) h2 n3:=by kernel_rfl
theorem F5.v9:Arg.ev (.t (.of 9)) ⟨(F5.fr c b g f d i e l p z),[]⟩=z:=by kernel_rfl
theorem F5.zem:IR.run F5.t22 C N O K (F5.fr c b g f d i e l p z) h nx =
 zK 2 b h fun v1=>C.fn 35 (.of 35) [v1] h nx fun v2 h3 n4=>C.fn 28 (.of 28) [d,i,(I 0),v2] h3 n4 fun v5 h6 n7=>K (F5.fr c b v5 f d i e l p z) h6 n7:=by kernel_rfl
theorem F5.tab:T.get none (.of 5) tbl=some F5:=by kernel_rfl
theorem F5.bind (k:T AV->OP):yO F5.params [a0] F5.init k=k (F5.fr a0 .undef .undef .undef .undef .undef .undef .undef .undef .undef):=by kernel_rfl
theorem F5.jq:F5.body=F5.t30:=by kernel_rfl
theorem F5.go:zX tbl N C (.of 5) [a0] h nx K0=IR.run F5.t30 C N (fnO F5.res K0) (wo F5.res K0) (F5.fr a0 .undef .undef .undef .undef .undef .undef .undef .undef .undef) h nx:=by
 rw [zJ F5.tab,F5.bind,F5.jq];kernel_rfl
theorem F5.ret:wo F5.res K0 (F5.fr c b g f d i e l p z) h nx=K0 g h nx:=by kernel_rfl
def F35.t0:IR:=.reg [.w (.loc (.of 1)) none (.box (.t (.of 0))),.q (.of 2) (.mv (.c .zf))]
def F35.t1:IR:=.reg [.q (.of 3) (.mv (.c .zf))]
def F35.t2:IR:=.reg [.s (.zu 0 (.t (.of 1))),.s (.load (.s 0)),.w .push none (.call (.c (.fn 108 (.of 108) [])) [(.s 0)]),.w .push none (.call (.c (.fn 107 (.of 107) [])) [(.s 0)]),.s (.mv (.s 0)),.s (.ext 0 (.s 0)),.s (.ext 1 (.s 1)),.q (.of 4) (.mv (.s 1)),.s (.mv (.s 0))]
def F35.t3:IR:=.reg [.q (.of 5) (.mv (.c (I 0)))]
def F35.t4:IR:=.reg [.s (.mv (.t (.of 5))),.s (.mv (.t (.of 4))),.q (.of 7) (.bin .lss .int (.s 1) (.s 0))]
def F35.t5:IR:=.cond (.t (.of 7)) .skip (.exit 0)
def F35.t6:IR:=.seq F35.t4 F35.t5
def F35.t7:IR:=.yu [] [(.s (.zu 0 (.t (.of 1))),1,[]),(.s (.load (.s 0)),1,[]),(.s (.mv (.t (.of 5))),0,[]),(.w .push none (.call (.c (.fn 49 (.of 49) [])) [(.s 0)]),0,[]),(.w .push none (.call (.c (.fn 109 (.of 109) [])) [(.s 2),(.s 0)]),0,[]),(.q (.of 6) (.mv (.s 0)),0,[])]
def F35.t8:IR:=.reg [.s (.zi 2 (.t (.of 1))),.s (.mv (.t (.of 6))),.w (.loc (.of 8)) none (.call (.c (.fn 74 (.of 74) [])) [(.s 1),(.s 0)])]
def F35.t9:IR:=.reg [.s (.mv (.t (.of 3))),.s (.mv (.t (.of 6))),.s (.build [.zf,(.bool false)] [(0,1,(.s 0))]),.w .push none (.zx 2 1 [.zf,(.bool false)] [(0,2,(.s 0))]),.w .push none (.appq 2 32 (.s 3) (.s 0)),.q (.of 3) (.mv (.s 0))]
def F35.t10:IR:=.cond (.t (.of 8)) F35.t9 .skip
def F35.t11:IR:=.seq F35.t8 F35.t10
def F35.t12:IR:=.seq F35.t7 F35.t11
def F35.t13:IR:=.block 1 F35.t12
def F35.t14:IR:=.reg [.s (.mv (.t (.of 5))),.s (.bin .add .int (.s 0) (.c (I 1))),.q (.of 5) (.mv (.s 0))]
def F35.t15:IR:=.seq F35.t13 F35.t14
def F35.t16:IR:=.seq F35.t6 F35.t15
def F35.t17:IR:=.loop F35.t16
def F35.t18:IR:=.block 0 F35.t17
def F35.t19:IR:=.seq F35.t3 F35.t18
def F35.t20:IR:=.reg [.s (.mv (.t (.of 3))),.q (.of 2) (.mv (.s 0))]
def F35.t21:IR:=.seq F35.t20 .ret
def F35.t22:IR:=.seq F35.t19 F35.t21
def F35.t23:IR:=.seq F35.t2 F35.t22
def F35.t24:IR:=.seq F35.t1 F35.t23
def F35.t25:IR:=.seq F35.t0 F35.t24
theorem F35.fU:IR.run F35.t0 C N O K (F35.fr c b g f d i e l p) h nx =
 rW c h nx fun v1 h2 n3=>K (F35.fr c v1 .zf f d i e l p) h2 n3:=by kernel_rfl
theorem F35.fV:IR.run F35.t1 C N O K (F35.fr c b g f d i e l p) h nx =
 K (F35.fr c b g .zf d i e l p) h nx:=by kernel_rfl
theorem F35.rP:IR.run F35.t2 C N O K (F35.fr c b g f d i e l p) h nx =
 zM 0 b fun v1=>zE v1 h fun v2=>C.fn 108 (.of 108) [v2] h nx fun v3 h4 n5=>C.fn 107 (.of 107) [v3] h4 n5 fun v6 h7 n8=>fF 0 v6 fun v9=>fF 1 v6 fun vA=>K (F35.fr c b g f v9 i e l p) h7 n8:=by kernel_rfl
theorem F35.au:IR.run F35.t3 C N O K (F35.fr c b g f d i e l p) h nx =
 K (F35.fr c b g f d (I 0) e l p) h nx:=by kernel_rfl
theorem F35.t4_s:IR.run F35.t4 C N O K (F35.fr c b g f d i e l p) h nx =
 zy .lss .int i d fun v1=>K (F35.fr c b g f d i e v1 p) h nx:=by kernel_rfl
theorem F35.v7:Arg.ev (.t (.of 7)) ⟨(F35.fr c b g f d i e l p),[]⟩=l:=by kernel_rfl
theorem F35.t7_s:IR.run F35.t7 C N O K (F35.fr c b g f d i e l p) h nx =
 zM 0 b fun v1=>zE v1 h fun v2=>C.fn 49 (.of 49) [i] h nx fun v3 h4 n5=>(zE v1 h4 fun vA=>zI vA v2 ((zM 0 b fun v9=>zI v9 v1 (C.fn 109 (.of 109) [v2,v3] h4 n5 fun v6 h7 n8=>K (F35.fr c b g f d i v6 l p) h7 n8)))):=by kernel_rfl
theorem F35.aG:IR.run F35.t8 C N O K (F35.fr c b g f d i e l p) h nx =
 zK 2 b h fun v1=>C.fn 74 (.of 74) [v1,e] h nx fun v2 h3 n4=>K (F35.fr c b g f d i e l v2) h3 n4:=by kernel_rfl
theorem F35.aQ:IR.run F35.t9 C N O K (F35.fr c b g f d i e l p) h nx =
 uP [.zf,(.bool false)] [(0,1,e)] fun v1=>yV 2 1 [.zf,(.bool false)] [(0,2,v1)] h nx fun v2 h3 n4=>xL C 2 32 f v2 h3 n4 fun v5 h6 n7=>K (F35.fr c b g v5 d i e l p) h6 n7:=by kernel_rfl
theorem F35.v8:Arg.ev (.t (.of 8)) ⟨(F35.fr c b g f d i e l p),[]⟩=p:=by kernel_rfl
theorem F35.zah:IR.run F35.t14 C N O K (F35.fr c b g f d i e l p) h nx =
 zy .add .int i (I 1) fun v1=>K (F35.fr c b g f d v1 e l p) h nx:=by kernel_rfl
theorem F35.zuo (Inv:Nat->AV->AV->T Blk->Pa->Prop) {m:Nat} (hm:m<N) (hi:Inv m f i h nx)
  (step:∀ (m:Nat) (z3 z5 z6 z7 z8:AV) (h:T Blk) (nx:Pa) (R:Ks Prop),Inv m z3 z5 h nx->(∀ (m':Nat) (w3 w5 w6 w7 w8:AV) (h':T Blk) (nx':Pa),m'<m->Inv m' w3 w5 h' nx'->R (F35.fr c b g w3 d w5 w6 w7 w8) h' nx'=.ok True)->IR.run F35.t16 C N O R (F35.fr c b g z3 d z5 z6 z7 z8) h nx=.ok True) :
  IR.run F35.t17 C N O K (F35.fr c b g f d i e l p) h nx=.ok True:=by
 rw [F35.t17];refine yH (fun m tm h nx=>∃ z3 z5 z6 z7 z8,tm=(F35.fr c b g z3 d z5 z6 z7 z8)/\Inv m z3 z5 h nx) ?_ hm ⟨_,_,_,_,_,rfl,hi⟩;rintro m tm h nx R ⟨z3,z5,z6,z7,z8,rfl,hi⟩ hR;exact step m z3 z5 z6 z7 z8 h nx R hi fun m' w3 w5 w6 w7 w8 h' nx' hlt hi'=>hR m' _ h' nx' hlt ⟨_,_,_,_,_,rfl,hi'⟩
theorem F35.zeq:IR.run F35.t20 C N O K (F35.fr c b g f d i e l p) h nx =
 K (F35.fr c b f f d i e l p) h nx:=by kernel_rfl
theorem F35.tab:T.get none (.of 35) tbl=some F35:=by kernel_rfl
theorem F35.bind (k:T AV->OP):yO F35.params [a0] F35.init k=k (F35.fr a0 .undef .undef .undef .undef .undef .undef .undef .undef):=by kernel_rfl
theorem F35.jq:F35.body=F35.t25:=by kernel_rfl
theorem F35.go:zX tbl N C (.of 35) [a0] h nx K0=IR.run F35.t25 C N (fnO F35.res K0) (wo F35.res K0) (F35.fr a0 .undef .undef .undef .undef .undef .undef .undef .undef) h nx:=by
 rw [zJ F35.tab,F35.bind,F35.jq];kernel_rfl
theorem F35.ret:wo F35.res K0 (F35.fr c b g f d i e l p) h nx=K0 g h nx:=by kernel_rfl
end
end Go.Ev
