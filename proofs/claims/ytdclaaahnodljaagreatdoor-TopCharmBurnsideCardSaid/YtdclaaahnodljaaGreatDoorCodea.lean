import Derived.Test.YtdclaaahnodljaaGreatDoorIrT
import Derived.KernelRfl
import Derived.Test.YtdclaaahnodljaaGreatDoorEvD
set_option linter.unusedSimpArgs false
set_option linter.unusedVariables false
noncomputable section
namespace Go.Ev
open Go Go.Proofs
set_option maxRecDepth 100000
variable {N:Nat} {C:Calls Prop} {K0:Kw Prop} {K R:Ks Prop} {h:T Blk} {nx:Pa} {b d g i f l p a0 a1 s u a2 v a c e o q w y z A B G E D F H L M P Q U V:AV}
theorem yx.oV (X3:IR) (O:ji Prop) (t:T AV):IR.run (yx.g2 X3) C N O K t h nx=IR.run X3 C N (O.blk 0 K) K t h nx:=by kernel_rfl
theorem yx.tab:T.get none (.of 139) tbl=some yx:=by kernel_rfl
theorem yx.go:zP tbl N C (.of 139) [a0] h nx K0 =
 sLen a0 fun v1=>zk .gtr .int v1 (I 256) fun v2=>zO v2 (K0 (I 5) h nx) (sLen a0 fun v3=>gN 1 1 [(.bool false)] v3 v3 h nx fun v4 h5 n6=>IR.run yx.b2 C N (fnO yx.res K0) (IR.run yx.b10 C N (fnO yx.res K0) (qw yx.res K0)) (yx.fr a0 (I 0) v4 (I 0) v2 .undef .undef) h5 n6):=by
 rw [zH yx.tab];kernel_rfl
theorem yx.L2 (Inv:Nat->AV->T Blk->Pa->Prop) {m:Nat} (hm:m<N) (hi:Inv m i h nx)
  (step:∀ (m:Nat) (z1 z3 z5 z6:AV) (h:T Blk) (nx:Pa) (R:Ks Prop),Inv m z3 h nx->(∀ (m':Nat) (w1 w3 w5 w6:AV) (h':T Blk) (nx':Pa),m'<m->Inv m' w3 h' nx'->R (yx.fr b w1 g w3 f w5 w6) h' nx'=.ok True) ->
   (sLen b fun v1=>zk .lss .int z3 v1 fun v2=>zO v2 (zK 1 b z3 fun v3=>zF v3 h fun v4=>zk .lss .int v4 (I 0) fun v5=>sG v5 false (fun k=>k b) fun v6=>sG v5 false (fun k=>k z3) fun v7=>sG v5 false (fun k=>zK 1 v6 v7 k) fun v8=>sG v5 false (fun k=>zF v8 h k) fun v9=>sG v5 false (fun k=>k b) fun vA=>sG v5 false (fun k=>sLen vA k) fun vB=>sG v5 false (fun k=>zk .geq .int v9 vB k) fun vC=>jR v5 (.bool true) vC fun vD=>sG vD false (fun k=>k g) fun vE=>sG vD false (fun k=>k b) fun vF=>sG vD false (fun k=>k z3) fun vG=>sG vD false (fun k=>zK 1 vF vG k) fun vH=>sG vD false (fun k=>zF vH h k) fun vI=>sG vD false (fun k=>zK 1 vE vI k) fun vJ=>sG vD false (fun k=>zF vJ h k) fun vK=>jR vD (.bool true) vK fun vL=>zO vL (K0 (I 14) h nx) ((IR.run yx.b8 C N (((fnO yx.res K0).blk 0 K).blk 1 (IR.run yx.b9 C N ((fnO yx.res K0).blk 0 K) R)) (IR.run yx.b9 C N ((fnO yx.res K0).blk 0 K) R)) (yx.fr b z1 g z3 f v2 vL) h nx)) (K (yx.fr b z1 g z3 f v2 z6) h nx))=.ok True) :
  IR.run yx.b2 C N (fnO yx.res K0) K (yx.fr b d g i f l p) h nx=.ok True:=by
 rw [yx.b2,yx.oV,yx.b3];refine yD (fun m tm h nx=>∃ z1 z3 z5 z6,tm=(yx.fr b z1 g z3 f z5 z6)/\Inv m z3 h nx) ?_ hm ⟨_,_,_,_,rfl,hi⟩;rintro m tm h nx R ⟨z1,z3,z5,z6,rfl,hi⟩ hR;refine Eq.trans ?_ (step m z1 z3 z5 z6 h nx R hi fun m' w1 w3 w5 w6 h' nx' hlt hi'=>hR m' _ h' nx' hlt ⟨_,_,_,_,rfl,hi'⟩)
 kernel_rfl
theorem yx.k10:IR.run yx.b10 C N (fnO yx.res K0) K (yx.fr b d g i f l p) h nx =
 K0 (I 0) h nx:=by kernel_rfl
theorem yx.k9 {E0:Ks Prop}:IR.run yx.b9 C N ((fnO yx.res K0).blk 0 E0) K (yx.fr b d g i f l p) h nx =
 zk .add .int i (I 1) fun v1=>K (yx.fr b d g v1 f l p) h nx:=by kernel_rfl
theorem yx.k8 {E0 E1:Ks Prop}:IR.run yx.b8 C N (((fnO yx.res K0).blk 0 E0).blk 1 E1) K (yx.fr b d g i f l p) h nx =
 zK 1 b i fun v1=>zF v1 h fun v2=>zK 1 g v2 fun v3=>zM 1 v3 (.bool true) h nx fun v4 h5 n6=>K (yx.fr b d g i f l p) h5 n6:=by kernel_rfl
theorem F80.tab:T.get none (.of 80) tbl=some F80:=by kernel_rfl
theorem F80.go:zP tbl N C (.of 80) [a0,a1] h nx K0 =
 bU a0 h nx fun v1 h2 n3=>C.fn 79 (.of 79) [a1] h2 n3 fun v4 h5 n6=>zk .neq .int v4 (I 0) fun v7=>zO v7 (K0 (I 3) h5 n6) (zL 0 v1 fun v8=>zF v8 h5 fun v9=>sLen v9 fun vA=>zk .neq .int vA a1 fun vB=>zO vB (K0 (I 2) h5 n6) (zL 0 v1 fun vC=>zF vC h5 fun vD=>C.fn 139 (.of 139) [vD] h5 n6 fun vE hA nA=>K0 vE hA nA)):=by
 rw [zH F80.tab];kernel_rfl
theorem F79.tab:T.get none (.of 79) tbl=some F79:=by kernel_rfl
theorem F79.go:zP tbl N C (.of 79) [a0] h nx K0 =
 zk .lss .int a0 (I 0) fun v1=>sG v1 false (fun k=>k a0) fun v2=>sG v1 false (fun k=>zk .gtr .int v2 (I 256) k) fun v3=>jR v1 (.bool true) v3 fun v4=>zO v4 (K0 (I 3) h nx) (K0 (I 0) h nx):=by
 rw [zH F79.tab];kernel_rfl
theorem F48.tab:T.get none (.of 48) tbl=some F48:=by kernel_rfl
theorem F48.go:zP tbl N C (.of 48) [a0] h nx K0 =
 zk .eql (.nil .sl) a0 .zf fun v1=>zO v1 (K0 .zf h nx) (yU 1 0 [(I 0)] [] h nx fun v2 h3 n4=>sZ 1 8 v2 a0 h3 n4 fun v5 h6 n7=>K0 v5 h6 n7):=by
 rw [zH F48.tab];kernel_rfl
theorem F24.oV (X3:IR) (O:ji Prop) (t:T AV):IR.run (F24.g2 X3) C N O K t h nx=IR.run X3 C N (O.blk 0 K) K t h nx:=by kernel_rfl
theorem F24.tab:T.get none (.of 24) tbl=some F24:=by kernel_rfl
theorem F24.go:zP tbl N C (.of 24) [a0,a1] h nx K0 =
 sLen a0 fun v1=>sLen a1 fun v2=>zk .neq .int v1 v2 fun v3=>zO v3 (K0 (.bool false) h nx) (IR.run F24.b2 C N (fnO F24.res K0) (IR.run F24.b9 C N (fnO F24.res K0) (qw F24.res K0)) (F24.fr a0 a1 (.bool false) (I 0) v3 .undef .undef) h nx):=by
 rw [zH F24.tab];kernel_rfl
theorem F24.L2 (Inv:Nat->AV->T Blk->Pa->Prop) {m:Nat} (hm:m<N) (hi:Inv m i h nx)
  (step:∀ (m:Nat) (z2 z3 z5 z6:AV) (h:T Blk) (nx:Pa) (R:Ks Prop),Inv m z3 h nx->(∀ (m':Nat) (w2 w3 w5 w6:AV) (h':T Blk) (nx':Pa),m'<m->Inv m' w3 h' nx'->R (F24.fr b d w2 w3 f w5 w6) h' nx'=.ok True) ->
   (sLen b fun v1=>zk .lss .int z3 v1 fun v2=>zO v2 (zK 1 b z3 fun v3=>zF v3 h fun v4=>zK 1 d z3 fun v5=>zF v5 h fun v6=>zk .neq .int v4 v6 fun v7=>zO v7 (K0 (.bool false) h nx) (zk .add .int z3 (I 1) fun v8=>R (F24.fr b d z2 v8 f v2 v7) h nx)) (K (F24.fr b d z2 z3 f v2 z6) h nx))=.ok True) :
  IR.run F24.b2 C N (fnO F24.res K0) K (F24.fr b d g i f l p) h nx=.ok True:=by
 rw [F24.b2,F24.oV,F24.b3];refine yD (fun m tm h nx=>∃ z2 z3 z5 z6,tm=(F24.fr b d z2 z3 f z5 z6)/\Inv m z3 h nx) ?_ hm ⟨_,_,_,_,rfl,hi⟩;rintro m tm h nx R ⟨z2,z3,z5,z6,rfl,hi⟩ hR;refine Eq.trans ?_ (step m z2 z3 z5 z6 h nx R hi fun m' w2 w3 w5 w6 h' nx' hlt hi'=>hR m' _ h' nx' hlt ⟨_,_,_,_,rfl,hi'⟩)
 kernel_rfl
theorem F24.k9:IR.run F24.b9 C N (fnO F24.res K0) K (F24.fr b d g i f l p) h nx =
 K0 (.bool true) h nx:=by kernel_rfl
theorem rX.tab:T.get none (.of 105) tbl=some rX:=by kernel_rfl
theorem rX.go:zP tbl N C (.of 105) [a0,a1] h nx K0 =
 zO a0 (K0 a1 h nx) (K0 (I 0) h nx):=by
 rw [zH rX.tab];kernel_rfl
theorem F66.tab:T.get none (.of 66) tbl=some F66:=by kernel_rfl
theorem F66.go:zP tbl N C (.of 66) [a0,a1] h nx K0 =
 C.fn 127 (.of 127) [a0,a1] h nx fun v1 h2 n3=>zk .geq .int v1 (I 0) fun v4=>K0 v4 h2 n3:=by
 rw [zH F66.tab];kernel_rfl
theorem jv.xq (X2:IR) (O:ji Prop) (t:T AV):IR.run (jv.g1 X2) C N O K t h nx=IR.run X2 C N (O.blk 0 K) K t h nx:=by kernel_rfl
theorem jv.tab:T.get none (.of 127) tbl=some jv:=by kernel_rfl
theorem jv.go:zP tbl N C (.of 127) [a0,a1] h nx K0 =
 sLen a0 fun v1=>IR.run jv.b1 C N (fnO jv.res K0) (IR.run jv.b8 C N (fnO jv.res K0) (qw jv.res K0)) (jv.fr a0 a1 (I 0) .undef v1 (I 0) .undef .undef) h nx:=by
 rw [zH jv.tab];kernel_rfl
theorem jv.L1 (Inv:Nat->AV->T Blk->Pa->Prop) {m:Nat} (hm:m<N) (hi:Inv m l h nx)
  (step:∀ (m:Nat) (z2 z3 z5 z6 z7:AV) (h:T Blk) (nx:Pa) (R:Ks Prop),Inv m z5 h nx->(∀ (m':Nat) (w2 w3 w5 w6 w7:AV) (h':T Blk) (nx':Pa),m'<m->Inv m' w5 h' nx'->R (jv.fr b d w2 w3 f w5 w6 w7) h' nx'=.ok True) ->
   (zk .lss .int z5 f fun v1=>zO v1 (zK 1 b z5 fun v2=>zF v2 h fun v3=>oW C d [v3] h nx fun v4 h5 n6=>zO v4 (K0 z5 h5 n6) (zk .add .int z5 (I 1) fun v7=>R (jv.fr b d z2 z5 f v7 v1 v4) h5 n6)) (K (jv.fr b d z2 z3 f z5 v1 z7) h nx))=.ok True) :
  IR.run jv.b1 C N (fnO jv.res K0) K (jv.fr b d g i f l p s) h nx=.ok True:=by
 rw [jv.b1,jv.xq,jv.b2];refine yD (fun m tm h nx=>∃ z2 z3 z5 z6 z7,tm=(jv.fr b d z2 z3 f z5 z6 z7)/\Inv m z5 h nx) ?_ hm ⟨_,_,_,_,_,rfl,hi⟩;rintro m tm h nx R ⟨z2,z3,z5,z6,z7,rfl,hi⟩ hR;refine Eq.trans ?_ (step m z2 z3 z5 z6 z7 h nx R hi fun m' w2 w3 w5 w6 w7 h' nx' hlt hi'=>hR m' _ h' nx' hlt ⟨_,_,_,_,_,rfl,hi'⟩)
 kernel_rfl
theorem jv.k8:IR.run jv.b8 C N (fnO jv.res K0) K (jv.fr b d g i f l p s) h nx =
 K0 (I (-1)) h nx:=by kernel_rfl
theorem jy.xq (X2:IR) (O:ji Prop) (t:T AV):IR.run (jy.g1 X2) C N O K t h nx=IR.run X2 C N (O.blk 0 K) K t h nx:=by kernel_rfl
theorem jy.tab:T.get none (.of 104) tbl=some jy:=by kernel_rfl
theorem jy.go:zP tbl N C (.of 104) [a0] h nx K0 =
 sLen a0 fun v1=>IR.run jy.b1 C N (fnO jy.res K0) (IR.run jy.b8 C N (fnO jy.res K0) (qw jy.res K0)) (jy.fr a0 (I 0) .undef a0 v1 (I 0) .undef .undef) h nx:=by
 rw [zH jy.tab];kernel_rfl
theorem jy.L1 (Inv:Nat->AV->T Blk->Pa->Prop) {m:Nat} (hm:m<N) (hi:Inv m l h nx)
  (step:∀ (m:Nat) (z1 z2 z5 z6 z7:AV) (h:T Blk) (nx:Pa) (R:Ks Prop),Inv m z5 h nx->(∀ (m':Nat) (w1 w2 w5 w6 w7:AV) (h':T Blk) (nx':Pa),m'<m->Inv m' w5 h' nx'->R (jy.fr b w1 w2 i f w5 w6 w7) h' nx'=.ok True) ->
   (zk .lss .int z5 f fun v1=>zO v1 (zK 1 i z5 fun v2=>zF v2 h fun v3=>zk .neq .int v3 (I 0) fun v4=>zO v4 (K0 v3 h nx) (zk .add .int z5 (I 1) fun v5=>R (jy.fr b z1 v3 i f v5 v1 v4) h nx)) (K (jy.fr b z1 z2 i f z5 v1 z7) h nx))=.ok True) :
  IR.run jy.b1 C N (fnO jy.res K0) K (jy.fr b d g i f l p s) h nx=.ok True:=by
 rw [jy.b1,jy.xq,jy.b2];refine yD (fun m tm h nx=>∃ z1 z2 z5 z6 z7,tm=(jy.fr b z1 z2 i f z5 z6 z7)/\Inv m z5 h nx) ?_ hm ⟨_,_,_,_,_,rfl,hi⟩;rintro m tm h nx R ⟨z1,z2,z5,z6,z7,rfl,hi⟩ hR;refine Eq.trans ?_ (step m z1 z2 z5 z6 z7 h nx R hi fun m' w1 w2 w5 w6 w7 h' nx' hlt hi'=>hR m' _ h' nx' hlt ⟨_,_,_,_,_,rfl,hi'⟩)
 kernel_rfl
theorem jy.k8:IR.run jy.b8 C N (fnO jy.res K0) K (jy.fr b d g i f l p s) h nx =
 K0 (I 0) h nx:=by kernel_rfl
theorem aG.tab:T.get none (.of 160) tbl=some aG:=by kernel_rfl
theorem aG.go:zP tbl N C (.of 160) [a0] h nx K0 =
 C.fn 66 (.of 66) [a0,(.fn 216 (.of 216) [])] h nx fun v1 h2 n3=>K0 v1 h2 n3:=by
 rw [zH aG.tab];kernel_rfl
theorem aH.tab:T.get none (.of 216) tbl=some aH:=by kernel_rfl
theorem aH.go:zP tbl N C (.of 216) [a0] h nx K0 =
 zk .lss .int a0 (I (-999999999)) fun v1=>sG v1 false (fun k=>k a0) fun v2=>sG v1 false (fun k=>zk .gtr .int v2 (I 999999999) k) fun v3=>jR v1 (.bool true) v3 fun v4=>K0 v4 h nx:=by
 rw [zH aH.tab];kernel_rfl
theorem jg.xq (X2:IR) (O:ji Prop) (t:T AV):IR.run (jg.g1 X2) C N O K t h nx=IR.run X2 C N (O.blk 0 K) K t h nx:=by kernel_rfl
theorem jg.tab:T.get none (.of 140) tbl=some jg:=by kernel_rfl
theorem jg.go:zP tbl N C (.of 140) [a0,a1] h nx K0 =
 IR.run jg.b1 C N (fnO jg.res K0) (IR.run jg.b8 C N (fnO jg.res K0) (qw jg.res K0)) (jg.fr a0 a1 (.bool false) (I 0) .undef .undef) h nx:=by
 rw [zH jg.tab];kernel_rfl
theorem jg.L1 (Inv:Nat->AV->T Blk->Pa->Prop) {m:Nat} (hm:m<N) (hi:Inv m i h nx)
  (step:∀ (m:Nat) (z2 z3 z4 z5:AV) (h:T Blk) (nx:Pa) (R:Ks Prop),Inv m z3 h nx->(∀ (m':Nat) (w2 w3 w4 w5:AV) (h':T Blk) (nx':Pa),m'<m->Inv m' w3 h' nx'->R (jg.fr b d w2 w3 w4 w5) h' nx'=.ok True) ->
   (sLen b fun v1=>zk .lss .int z3 v1 fun v2=>sG v2 true (fun k=>k z3) fun v3=>sG v2 true (fun k=>k d) fun v4=>sG v2 true (fun k=>sLen v4 k) fun v5=>sG v2 true (fun k=>zk .lss .int v3 v5 k) fun v6=>jR v2 v6 (.bool false) fun v7=>zO v7 ((IR.run jg.b4 C N ((fnO jg.res K0).blk 0 K) R) (jg.fr b d z2 z3 v7 z5) h nx) (K (jg.fr b d z2 z3 v7 z5) h nx))=.ok True) :
  IR.run jg.b1 C N (fnO jg.res K0) K (jg.fr b d g i f l) h nx=.ok True:=by
 rw [jg.b1,jg.xq,jg.b2];refine yD (fun m tm h nx=>∃ z2 z3 z4 z5,tm=(jg.fr b d z2 z3 z4 z5)/\Inv m z3 h nx) ?_ hm ⟨_,_,_,_,rfl,hi⟩;rintro m tm h nx R ⟨z2,z3,z4,z5,rfl,hi⟩ hR;refine Eq.trans ?_ (step m z2 z3 z4 z5 h nx R hi fun m' w2 w3 w4 w5 h' nx' hlt hi'=>hR m' _ h' nx' hlt ⟨_,_,_,_,rfl,hi'⟩)
 kernel_rfl
theorem jg.k8:IR.run jg.b8 C N (fnO jg.res K0) K (jg.fr b d g i f l) h nx =
 sLen b fun v1=>sLen d fun v2=>zk .lss .int v1 v2 fun v3=>K0 v3 h nx:=by kernel_rfl
theorem jg.k4 {E0:Ks Prop}:IR.run jg.b4 C N ((fnO jg.res K0).blk 0 E0) K (jg.fr b d g i f l) h nx =
 zK 1 b i fun v1=>zF v1 h fun v2=>zK 1 d i fun v3=>zF v3 h fun v4=>zk .neq .int v2 v4 fun v5=>zO v5 (zK 1 b i fun v6=>zF v6 h fun v7=>zK 1 d i fun v8=>zF v8 h fun v9=>zk .lss .int v7 v9 fun vA=>K0 vA h nx) (zk .add .int i (I 1) fun vB=>K (jg.fr b d g vB f v5) h nx):=by kernel_rfl
theorem jk.xq (X2:IR) (O:ji Prop) (t:T AV):IR.run (jk.g1 X2) C N O K t h nx=IR.run X2 C N (O.blk 0 K) K t h nx:=by kernel_rfl
theorem jk.tab:T.get none (.of 161) tbl=some jk:=by kernel_rfl
theorem jk.go:zP tbl N C (.of 161) [a0,a1] h nx K0 =
 sLen a0 fun v1=>IR.run jk.b1 C N (fnO jk.res K0) (IR.run jk.b9 C N (fnO jk.res K0) (qw jk.res K0)) (jk.fr a0 a1 (I 0) .undef .undef .undef .undef a0 v1 (I 0) .undef .undef .undef .undef) h nx:=by
 rw [zH jk.tab];kernel_rfl
theorem jk.L1 (Inv:Nat->AV->T Blk->Pa->Prop) {m:Nat} (hm:m<N) (hi:Inv m v h nx)
  (step:∀ (m:Nat) (z2 z3 z4 z5 z6 z9 zA zB zC:AV) (h:T Blk) (nx:Pa) (R:Ks Prop),Inv m z9 h nx->(∀ (m':Nat) (w2 w3 w4 w5 w6 w9 wA wB wC:AV) (h':T Blk) (nx':Pa),m'<m->Inv m' w9 h' nx'->R (jk.fr b d w2 w3 w4 w5 w6 s u w9 wA wB wC o) h' nx'=.ok True) ->
   (zk .lss .int z9 u fun v1=>zO v1 (zK 1 s z9 fun v2=>zF v2 h fun v3=>sLen d fun v4=>zk .geq .int z9 v4 fun v5=>zO v5 (K0 (I 1) h nx) (zK 1 d z9 fun v6=>zF v6 h fun v7=>C.fn 217 (.of 217) [v3,v7] h nx fun v8 h9 nB=>zk .neq .int v8 (I 0) fun vB=>zO vB (K0 v8 h9 nB) (zk .add .int z9 (I 1) fun vC=>R (jk.fr b d z2 z9 v3 v7 v8 s u vC v1 v5 vB o) h9 nB))) (K (jk.fr b d z2 z3 z4 z5 z6 s u z9 v1 zB zC o) h nx))=.ok True) :
  IR.run jk.b1 C N (fnO jk.res K0) K (jk.fr b d g i f l p s u v a c e o) h nx=.ok True:=by
 rw [jk.b1,jk.xq,jk.b2];refine yD (fun m tm h nx=>∃ z2 z3 z4 z5 z6 z9 zA zB zC,tm=(jk.fr b d z2 z3 z4 z5 z6 s u z9 zA zB zC o)/\Inv m z9 h nx) ?_ hm ⟨_,_,_,_,_,_,_,_,_,rfl,hi⟩;rintro m tm h nx R ⟨z2,z3,z4,z5,z6,z9,zA,zB,zC,rfl,hi⟩ hR;refine Eq.trans ?_ (step m z2 z3 z4 z5 z6 z9 zA zB zC h nx R hi fun m' w2 w3 w4 w5 w6 w9 wA wB wC h' nx' hlt hi'=>hR m' _ h' nx' hlt ⟨_,_,_,_,_,_,_,_,_,rfl,hi'⟩)
 kernel_rfl
theorem jk.k9:IR.run jk.b9 C N (fnO jk.res K0) K (jk.fr b d g i f l p s u v a c e o) h nx =
 sLen b fun v1=>sLen d fun v2=>zk .lss .int v1 v2 fun v3=>zO v3 (K0 (I (-1)) h nx) (K0 (I 0) h nx):=by kernel_rfl
theorem bT.tab:T.get none (.of 217) tbl=some bT:=by kernel_rfl
theorem bT.go:zP tbl N C (.of 217) [a0,a1] h nx K0 =
 C.fn 261 (.of 261) [a0] h nx fun v1 h2 n3=>C.fn 261 (.of 261) [a1] h2 n3 fun v4 h5 n6=>zO v1 (zO v4 (K0 (I 0) h5 n6) (K0 (I (-1)) h5 n6)) (zO v4 (K0 (I 1) h5 n6) (zk .lss .int a0 a1 fun v7=>zO v7 (K0 (I (-1)) h5 n6) (zk .gtr .int a0 a1 fun v8=>zO v8 (K0 (I 1) h5 n6) (K0 (I 0) h5 n6)))):=by
 rw [zH bT.tab];kernel_rfl
theorem aI.tab:T.get none (.of 261) tbl=some aI:=by kernel_rfl
theorem aI.go:zP tbl N C (.of 261) [a0] h nx K0 =
 zk .neq .int a0 a0 fun v1=>K0 v1 h nx:=by
 rw [zH aI.tab];kernel_rfl
theorem F81.tab:T.get none (.of 81) tbl=some F81:=by kernel_rfl
theorem F81.go:zP tbl N C (.of 81) [a0,a1] h nx K0 =
 bU a0 h nx fun v1 h2 n3=>bU a1 h2 n3 fun v4 h5 n6=>zL 0 v1 fun v7=>zF v7 h5 fun v8=>zL 0 v4 fun v9=>zF v9 h5 fun vA=>C.fn 24 (.of 24) [v8,vA] h5 n6 fun vB hB nC=>zO vB (zL 1 v1 fun vE=>zF vE hB fun vF=>sNot vF fun vG=>sG vG true (fun k=>zL 1 v4 k) fun vH=>sG vG true (fun k=>zF vH hB k) fun vI=>jR vG vI (.bool false) fun vJ=>K0 vJ hB nC) (zL 0 v1 fun vK=>zF vK hB fun vL=>zL 0 v4 fun vM=>zF vM hB fun vN=>C.fn 140 (.of 140) [vL,vN] hB nC fun vO hC nD=>K0 vO hC nD):=by
 rw [zH F81.tab];kernel_rfl
theorem F82.xq (X2:IR) (O:ji Prop) (t:T AV):IR.run (F82.g1 X2) C N O K t h nx=IR.run X2 C N (O.blk 0 K) K t h nx:=by kernel_rfl
theorem F82.tab:T.get none (.of 82) tbl=some F82:=by kernel_rfl
theorem F82.go:zP tbl N C (.of 82) [a0,a1] h nx K0 =
 bU a1 h nx fun v1 h2 n3=>IR.run F82.b1 C N (fnO F82.res K0) (IR.run F82.b8 C N (fnO F82.res K0) (qw F82.res K0)) (F82.fr a0 a1 v1 (I 0) (I 0) .undef .undef) h2 n3:=by
 rw [zH F82.tab];kernel_rfl
theorem F82.L1 (Inv:Nat->AV->T Blk->Pa->Prop) {m:Nat} (hm:m<N) (hi:Inv m f h nx)
  (step:∀ (m:Nat) (z3 z4 z5 z6:AV) (h:T Blk) (nx:Pa) (R:Ks Prop),Inv m z4 h nx->(∀ (m':Nat) (w3 w4 w5 w6:AV) (h':T Blk) (nx':Pa),m'<m->Inv m' w4 h' nx'->R (F82.fr b d g w3 w4 w5 w6) h' nx'=.ok True) ->
   (sLen b fun v1=>zk .lss .int z4 v1 fun v2=>zO v2 (zK 2 b z4 fun v3=>zI 2 v3 h fun v4=>zI 2 g h fun v5=>C.fn 141 (.of 141) [v4,v5] h nx fun v6 h7 n8=>zO v6 (K0 z4 h7 n8) (zk .add .int z4 (I 1) fun v9=>R (F82.fr b d g z3 v9 v2 v6) h7 n8)) (K (F82.fr b d g z3 z4 v2 z6) h nx))=.ok True) :
  IR.run F82.b1 C N (fnO F82.res K0) K (F82.fr b d g i f l p) h nx=.ok True:=by
 rw [F82.b1,F82.xq,F82.b2];refine yD (fun m tm h nx=>∃ z3 z4 z5 z6,tm=(F82.fr b d g z3 z4 z5 z6)/\Inv m z4 h nx) ?_ hm ⟨_,_,_,_,rfl,hi⟩;rintro m tm h nx R ⟨z3,z4,z5,z6,rfl,hi⟩ hR;refine Eq.trans ?_ (step m z3 z4 z5 z6 h nx R hi fun m' w3 w4 w5 w6 h' nx' hlt hi'=>hR m' _ h' nx' hlt ⟨_,_,_,_,rfl,hi'⟩)
 kernel_rfl
theorem F82.k8:IR.run F82.b8 C N (fnO F82.res K0) K (F82.fr b d g i f l p) h nx =
 K0 (I (-1)) h nx:=by kernel_rfl
theorem F83.tab:T.get none (.of 83) tbl=some F83:=by kernel_rfl
theorem F83.go:zP tbl N C (.of 83) [a0,a1] h nx K0 =
 bU a0 h nx fun v1 h2 n3=>bU a1 h2 n3 fun v4 h5 n6=>yJ [.zf,(.bool false)] h5 n6 fun v7 h8 n9=>zL 0 v1 fun vA=>zF vA h8 fun vB=>zL 0 v4 fun vC=>zF vC h8 fun vD=>zL 1 v1 fun vE=>zF vE h8 fun vF=>zL 1 v4 fun vG=>zF vG h8 fun vH=>zk .neq .bool vF vH fun vI=>C.fn 142 (.of 142) [vB,vD] h8 n9 fun vJ hD nE=>(zk .neq .bool vF vH fun vP=>zR vP vI ((zF vG hD fun vQ=>zR vQ vH ((zL 1 v4 fun vR=>zR vR vG ((zF vE hD fun vS=>zR vS vF ((zL 1 v1 fun vT=>zR vT vE (uH [.zf,(.bool false)] [(0,1,vJ),(1,1,vI)] fun vM=>zM 2 v7 vM hD nE fun vN hE nF=>zI 2 v7 hE fun vU=>K0 vU hE nF)))))))))):=by
 rw [zH F83.tab];kernel_rfl
theorem aJ.tab:T.get none (.of 141) tbl=some aJ:=by kernel_rfl
theorem aJ.go:zP tbl N C (.of 141) [a0,a1] h nx K0 =
 bU a0 h nx fun v1 h2 n3=>bU a1 h2 n3 fun v4 h5 n6=>zL 1 v1 fun v7=>zF v7 h5 fun v8=>zL 1 v4 fun v9=>zF v9 h5 fun vA=>zk .eql .bool v8 vA fun vB=>sG vB true (fun k=>zL 0 v1 k) fun vC=>sG vB true (fun k=>zF vC h5 k) fun vD=>sG vB true (fun k=>zL 0 v4 k) fun vE=>sG vB true (fun k=>zF vE h5 k) fun vF=>sGW vB true (fun k=>C.fn 24 (.of 24) [vD,vF] h5 n6 k) h5 n6 fun vG hF nG=>jR vB vG (.bool false) fun vJ=>K0 vJ hF nG:=by
 rw [zH aJ.tab];kernel_rfl
theorem gq.xq (X2:IR) (O:ji Prop) (t:T AV):IR.run (gq.g1 X2) C N O K t h nx=IR.run X2 C N (O.blk 0 K) K t h nx:=by kernel_rfl
theorem gq.tab:T.get none (.of 142) tbl=some gq:=by kernel_rfl
theorem gq.go:zP tbl N C (.of 142) [a0,a1] h nx K0 =
 IR.run gq.b1 C N (fnO gq.res K0) (IR.run gq.b8 C N (fnO gq.res K0) (qw gq.res K0)) (gq.fr a0 a1 .zf .zf (I 0) .undef) h nx:=by
 rw [zH gq.tab];kernel_rfl
theorem gq.L1 (Inv:Nat->AV->AV->T Blk->Pa->Prop) {m:Nat} (hm:m<N) (hi:Inv m i f h nx)
  (step:∀ (m:Nat) (z3 z4 z5:AV) (h:T Blk) (nx:Pa) (R:Ks Prop),Inv m z3 z4 h nx->(∀ (m':Nat) (w3 w4 w5:AV) (h':T Blk) (nx':Pa),m'<m->Inv m' w3 w4 h' nx'->R (gq.fr b d g w3 w4 w5) h' nx'=.ok True) ->
   (sLen d fun v1=>zk .lss .int z4 v1 fun v2=>zO v2 (zK 1 d z4 fun v3=>zF v3 h fun v4=>zK 1 b v4 fun v5=>zF v5 h fun v6=>yU 1 1 [(I 0)] [(0,1,v6)] h nx fun v7 h8 n9=>sZ 1 8 z3 v7 h8 n9 fun vA hG nH=>zk .add .int z4 (I 1) fun vD=>R (gq.fr b d g vA vD v2) hG nH) (K (gq.fr b d g z3 z4 v2) h nx))=.ok True) :
  IR.run gq.b1 C N (fnO gq.res K0) K (gq.fr b d g i f l) h nx=.ok True:=by
 rw [gq.b1,gq.xq,gq.b2];refine yD (fun m tm h nx=>∃ z3 z4 z5,tm=(gq.fr b d g z3 z4 z5)/\Inv m z3 z4 h nx) ?_ hm ⟨_,_,_,rfl,hi⟩;rintro m tm h nx R ⟨z3,z4,z5,rfl,hi⟩ hR;refine Eq.trans ?_ (step m z3 z4 z5 h nx R hi fun m' w3 w4 w5 h' nx' hlt hi'=>hR m' _ h' nx' hlt ⟨_,_,_,rfl,hi'⟩)
 kernel_rfl
theorem gq.k8:IR.run gq.b8 C N (fnO gq.res K0) K (gq.fr b d g i f l) h nx =
 K0 i h nx:=by kernel_rfl
theorem F31.ztw (X5:IR) (O:ji Prop) (t:T AV):IR.run (F31.g4 X5) C N O K t h nx=IR.run X5 C N (O.blk 0 K) K t h nx:=by kernel_rfl
theorem F31.zrq (X13:IR) (O:ji Prop) (t:T AV):IR.run (F31.g12 X13) C N O K t h nx=IR.run X13 C N (O.blk 2 K) K t h nx:=by kernel_rfl
theorem F31.zrr (X27:IR) (O:ji Prop) (t:T AV):IR.run (F31.g26 X27) C N O K t h nx=IR.run X27 C N (O.blk 6 K) K t h nx:=by kernel_rfl
theorem F31.zrt (X21:IR) (O:ji Prop) (t:T AV):IR.run (F31.g20 X21) C N O K t h nx=IR.run X21 C N (O.blk 4 K) K t h nx:=by kernel_rfl
theorem F31.tab:T.get none (.of 31) tbl=some F31:=by kernel_rfl
theorem F31.go:zP tbl N C (.of 31) [a0,a1] h nx K0 =
 C.fn 79 (.of 79) [a1] h nx fun v1 h2 n3=>zk .neq .int v1 (I 0) fun v4=>zO v4 (K0 (I 3) h2 n3) (sLen a0 fun v5=>zk .eql .int v5 (I 0) fun v6=>zO v6 (K0 (I 12) h2 n3) (sLen a0 fun v7=>zk .gtr .int v7 (I 1536) fun v8=>zO v8 (K0 (I 5) h2 n3) (IR.run F31.b4 C N (fnO F31.res K0) (IR.run F31.b11 C N (fnO F31.res K0) (qw F31.res K0)) (F31.fr a0 a1 (I 0) (I 0) .undef .undef .undef .undef v4 v6 v8 .undef .undef .undef .undef .undef .undef .undef) h2 n3))):=by
 rw [zH F31.tab];kernel_rfl
theorem F31.L4 (Inv:Nat->AV->T Blk->Pa->Prop) {m:Nat} (hm:m<N) (hi:Inv m i h nx)
  (step:∀ (m:Nat) (z2 z3 z4 zB zC:AV) (h:T Blk) (nx:Pa) (R:Ks Prop),Inv m z3 h nx->(∀ (m':Nat) (w2 w3 w4 wB wC:AV) (h':T Blk) (nx':Pa),m'<m->Inv m' w3 h' nx'->R (F31.fr b d w2 w3 w4 l p s u v a wB wC o q w y z) h' nx'=.ok True) ->
   (sLen b fun v1=>zk .lss .int z3 v1 fun v2=>zO v2 (zK 2 b z3 fun v3=>zI 2 v3 h fun v4=>C.fn 80 (.of 80) [v4,d] h nx fun v5 h6 n7=>zk .neq .int v5 (I 0) fun v8=>zO v8 (K0 v5 h6 n7) (zk .add .int z3 (I 1) fun v9=>R (F31.fr b d z2 v9 v5 l p s u v a v2 v8 o q w y z) h6 n7)) (K (F31.fr b d z2 z3 z4 l p s u v a v2 zC o q w y z) h nx))=.ok True) :
  IR.run F31.b4 C N (fnO F31.res K0) K (F31.fr b d g i f l p s u v a c e o q w y z) h nx=.ok True:=by
 rw [F31.b4,F31.ztw,F31.b5];refine yD (fun m tm h nx=>∃ z2 z3 z4 zB zC,tm=(F31.fr b d z2 z3 z4 l p s u v a zB zC o q w y z)/\Inv m z3 h nx) ?_ hm ⟨_,_,_,_,_,rfl,hi⟩;rintro m tm h nx R ⟨z2,z3,z4,zB,zC,rfl,hi⟩ hR;refine Eq.trans ?_ (step m z2 z3 z4 zB zC h nx R hi fun m' w2 w3 w4 wB wC h' nx' hlt hi'=>hR m' _ h' nx' hlt ⟨_,_,_,_,_,rfl,hi'⟩)
 kernel_rfl
theorem F31.k11:IR.run F31.b11 C N (fnO F31.res K0) K (F31.fr b d g i f l p s u v a c e o q w y z) h nx =
 IR.run F31.b12 C N (fnO F31.res K0) (IR.run F31.b19 C N (fnO F31.res K0) K) (F31.fr b d g i f (I 1) p s u v a c e o q w y z) h nx:=by kernel_rfl
theorem F31.L12 (Inv:Nat->AV->T Blk->Pa->Prop) {m:Nat} (hm:m<N) (hi:Inv m l h nx)
  (step:∀ (m:Nat) (z2 z5 zD zE:AV) (h:T Blk) (nx:Pa) (R:Ks Prop),Inv m z5 h nx->(∀ (m':Nat) (w2 w5 wD wE:AV) (h':T Blk) (nx':Pa),m'<m->Inv m' w5 h' nx'->R (F31.fr b d w2 i f w5 p s u v a c e wD wE w y z) h' nx'=.ok True) ->
   (sLen b fun v1=>zk .lss .int z5 v1 fun v2=>zO v2 (zk .sub .int z5 (I 1) fun v3=>zK 2 b v3 fun v4=>zI 2 v4 h fun v5=>zK 2 b z5 fun v6=>zI 2 v6 h fun v7=>C.fn 81 (.of 81) [v5,v7] h nx fun v8 h9 nB=>sNot v8 fun vB=>zO vB (K0 (I 11) h9 nB) (zk .add .int z5 (I 1) fun vC=>R (F31.fr b d z2 i f vC p s u v a c e v2 vB w y z) h9 nB)) (K (F31.fr b d z2 i f z5 p s u v a c e v2 zE w y z) h nx))=.ok True) :
  IR.run F31.b12 C N (fnO F31.res K0) K (F31.fr b d g i f l p s u v a c e o q w y z) h nx=.ok True:=by
 rw [F31.b12,F31.zrq,F31.b13];refine yD (fun m tm h nx=>∃ z2 z5 zD zE,tm=(F31.fr b d z2 i f z5 p s u v a c e zD zE w y z)/\Inv m z5 h nx) ?_ hm ⟨_,_,_,_,rfl,hi⟩;rintro m tm h nx R ⟨z2,z5,zD,zE,rfl,hi⟩ hR;refine Eq.trans ?_ (step m z2 z5 zD zE h nx R hi fun m' w2 w5 wD wE h' nx' hlt hi'=>hR m' _ h' nx' hlt ⟨_,_,_,_,rfl,hi'⟩)
 kernel_rfl
theorem F31.k19:IR.run F31.b19 C N (fnO F31.res K0) K (F31.fr b d g i f l p s u v a c e o q w y z) h nx =
 IR.run F31.b20 C N (fnO F31.res K0) (IR.run F31.b34 C N (fnO F31.res K0) K) (F31.fr b d g i f l (I 0) s u v a c e o q w y z) h nx:=by kernel_rfl
theorem F31.L20 (Inv:Nat->AV->T Blk->Pa->Prop) {m:Nat} (hm:m<N) (hi:Inv m p h nx)
  (step:∀ (m:Nat) (z2 z6 z7 zG zJ zN:AV) (h:T Blk) (nx:Pa) (R:Ks Prop),Inv m z6 h nx->(∀ (m':Nat) (w2 w6 w7 wF wG wH:AV) (h':T Blk) (nx':Pa),m'<m->Inv m' w6 h' nx'->R (F31.fr b d w2 i f l w6 w7 u v a c e o q wF wG wH) h' nx'=.ok True) ->
   (sLen b fun v1=>zk .lss .int z6 v1 fun v2=>zO v2 (IR.run F31.b26 C N (((fnO F31.res K0).blk 4 K).blk 5 (IR.run F31.b33 C N ((fnO F31.res K0).blk 4 K) R)) (IR.run F31.b33 C N ((fnO F31.res K0).blk 4 K) R) (F31.fr b d z2 i f l z6 (I 0) u v a c e o q v2 zJ zN) h nx) (K (F31.fr b d z2 i f l z6 z7 u v a c e o q v2 zJ zN) h nx))=.ok True) :
  IR.run F31.b20 C N (fnO F31.res K0) K (F31.fr b d g i f l p s u v a c e o q w y z) h nx=.ok True:=by
 rw [F31.b20,F31.zrt,F31.b21];refine yD (fun m tm h nx=>∃ z2 z6 z7 zG zJ zN,tm=(F31.fr b d z2 i f l z6 z7 u v a c e o q zG zJ zN)/\Inv m z6 h nx) ?_ hm ⟨_,_,_,_,_,_,rfl,hi⟩;rintro m tm h nx R ⟨z2,z6,z7,zG,zJ,zN,rfl,hi⟩ hR;refine Eq.trans ?_ (step m z2 z6 z7 zG zJ zN h nx R hi fun m' w2 w6 w7 wF wG wH h' nx' hlt hi'=>hR m' _ h' nx' hlt ⟨_,_,_,_,_,_,rfl,hi'⟩)
 kernel_rfl
theorem F31.k34:IR.run F31.b34 C N (fnO F31.res K0) K (F31.fr b d g i f l p s u v a c e o q w y z) h nx =
 K0 (I 0) h nx:=by kernel_rfl
theorem F31.k33 {E4:Ks Prop}:IR.run F31.b33 C N ((fnO F31.res K0).blk 4 E4) K (F31.fr b d g i f l p s u v a c e o q w y z) h nx =
 zk .add .int p (I 1) fun v1=>K (F31.fr b d g i f l v1 s u v a c e o q w y z) h nx:=by kernel_rfl
theorem F31.L26 {E4 E5:Ks Prop} (Inv:Nat->AV->T Blk->Pa->Prop) {m:Nat} (hm:m<N) (hi:Inv m s h nx)
  (step:∀ (m:Nat) (z2 z7 zJ zN:AV) (h:T Blk) (nx:Pa) (R:Ks Prop),Inv m z7 h nx->(∀ (m':Nat) (w2 w7 wG wH:AV) (h':T Blk) (nx':Pa),m'<m->Inv m' w7 h' nx'->R (F31.fr b d w2 i f l p w7 u v a c e o q w wG wH) h' nx'=.ok True) ->
   (sLen b fun v1=>zk .lss .int z7 v1 fun v2=>zO v2 (zK 2 b p fun v3=>zI 2 v3 h fun v4=>zK 2 b z7 fun v5=>zI 2 v5 h fun v6=>C.fn 83 (.of 83) [v4,v6] h nx fun v7 h8 n9=>zR b b (C.fn 82 (.of 82) [b,v7] h8 n9 fun vA hG nH=>zk .lss .int vA (I 0) fun vD=>zO vD (K0 (I 28) hG nH) (zk .add .int z7 (I 1) fun vE=>R (F31.fr b d z2 i f l p vE u v a c e o q w v2 vD) hG nH))) (K (F31.fr b d z2 i f l p z7 u v a c e o q w v2 zN) h nx))=.ok True) :
  IR.run F31.b26 C N (((fnO F31.res K0).blk 4 E4).blk 5 E5) K (F31.fr b d g i f l p s u v a c e o q w y z) h nx=.ok True:=by
 rw [F31.b26,F31.zrr,F31.b27];refine yD (fun m tm h nx=>∃ z2 z7 zJ zN,tm=(F31.fr b d z2 i f l p z7 u v a c e o q w zJ zN)/\Inv m z7 h nx) ?_ hm ⟨_,_,_,_,rfl,hi⟩;rintro m tm h nx R ⟨z2,z7,zJ,zN,rfl,hi⟩ hR;refine Eq.trans ?_ (step m z2 z7 zJ zN h nx R hi fun m' w2 w7 wG wH h' nx' hlt hi'=>hR m' _ h' nx' hlt ⟨_,_,_,_,rfl,hi'⟩)
 kernel_rfl
theorem aK.tab:T.get none (.of 162) tbl=some aK:=by kernel_rfl
theorem aK.go:zP tbl N C (.of 162) [a0,a1,a2] h nx K0 =
 C.fn 218 (.of 218) [a0,a1,a2] h nx fun v1 h2 n3=>fB 0 v1 fun v4=>fB 1 v1 fun v5=>K0 (.tup [v4,v5]) h2 n3:=by
 rw [zH aK.tab];kernel_rfl
theorem uo.xq (X2:IR) (O:ji Prop) (t:T AV):IR.run (uo.g1 X2) C N O K t h nx=IR.run X2 C N (O.blk 0 K) K t h nx:=by kernel_rfl
theorem uo.tab:T.get none (.of 218) tbl=some uo:=by kernel_rfl
theorem uo.go:zP tbl N C (.of 218) [a0,a1,a2] h nx K0 =
 sLen a0 fun v1=>IR.run uo.b1 C N (fnO uo.res K0) (IR.run uo.b6 C N (fnO uo.res K0) (qw uo.res K0)) (uo.fr a0 a1 a2 (I 0) (.bool false) v1 (I 0) v1 .undef .undef .undef) h nx:=by
 rw [zH uo.tab];kernel_rfl
theorem uo.L1 (Inv:Nat->AV->AV->T Blk->Pa->Prop) {m:Nat} (hm:m<N) (hi:Inv m p s h nx)
  (step:∀ (m:Nat) (z6 z7 z8 z9 zA:AV) (h:T Blk) (nx:Pa) (R:Ks Prop),Inv m z6 z7 h nx->(∀ (m':Nat) (w6 w7 w8 w9 wA:AV) (h':T Blk) (nx':Pa),m'<m->Inv m' w6 w7 h' nx'->R (uo.fr b d g i f l w6 w7 w8 w9 wA) h' nx'=.ok True) ->
   (zk .lss .int z6 z7 fun v1=>zO v1 (zk .add .int z6 z7 fun v2=>vV .u64 v2 fun v3=>zk .shr .int v3 (.int .u64 1) fun v4=>vV .i64 v4 fun v5=>zK 1 b v5 fun v6=>zF v6 h fun v7=>oW C g [v7,d] h nx fun v8 h9 nB=>zk .lss .int v8 (I 0) fun vB=>zO vB (zk .add .int v5 (I 1) fun vC=>R (uo.fr b d g i f l vC z7 v5 v1 vB) h9 nB) (R (uo.fr b d g i f l z6 v5 v5 v1 vB) h9 nB)) (K (uo.fr b d g i f l z6 z7 z8 v1 zA) h nx))=.ok True) :
  IR.run uo.b1 C N (fnO uo.res K0) K (uo.fr b d g i f l p s u v a) h nx=.ok True:=by
 rw [uo.b1,uo.xq,uo.b2];refine yD (fun m tm h nx=>∃ z6 z7 z8 z9 zA,tm=(uo.fr b d g i f l z6 z7 z8 z9 zA)/\Inv m z6 z7 h nx) ?_ hm ⟨_,_,_,_,_,rfl,hi⟩;rintro m tm h nx R ⟨z6,z7,z8,z9,zA,rfl,hi⟩ hR;refine Eq.trans ?_ (step m z6 z7 z8 z9 zA h nx R hi fun m' w6 w7 w8 w9 wA h' nx' hlt hi'=>hR m' _ h' nx' hlt ⟨_,_,_,_,_,rfl,hi'⟩)
 kernel_rfl
theorem uo.k6:IR.run uo.b6 C N (fnO uo.res K0) K (uo.fr b d g i f l p s u v a) h nx =
 zk .lss .int p l fun v1=>sG v1 true (fun k=>k g) fun v2=>sG v1 true (fun k=>k b) fun v3=>sG v1 true (fun k=>k p) fun v4=>sG v1 true (fun k=>zK 1 v3 v4 k) fun v5=>sG v1 true (fun k=>zF v5 h k) fun v6=>sG v1 true (fun k=>k d) fun v7=>sGW v1 true (fun k=>oW C v2 [v6,v7] h nx k) h nx fun v8 h9 nB=>sG v1 true (fun k=>zk .eql .int v8 (I 0) k) fun vB=>jR v1 vB (.bool false) fun vC=>K0 (.tup [p,vC]) h9 nB:=by kernel_rfl
theorem jo.xq (X2:IR) (O:ji Prop) (t:T AV):IR.run (jo.g1 X2) C N O K t h nx=IR.run X2 C N (O.blk 0 K) K t h nx:=by kernel_rfl
theorem jo.tab:T.get none (.of 163) tbl=some jo:=by kernel_rfl
theorem jo.go:zP tbl N C (.of 163) [a0,a1] h nx K0 =
 bU a0 h nx fun v1 h2 n3=>sLen a1 fun v4=>gN 1 8 [(I 0)] v4 v4 h2 n3 fun v5 h6 n7=>sLen a1 fun v8=>IR.run jo.b1 C N (fnO jo.res K0) (IR.run jo.b9 C N (fnO jo.res K0) (qw jo.res K0)) (jo.fr a0 a1 v1 .zf v5 .undef .undef a1 v8 (I 0) .undef .undef) h6 n7:=by
 rw [zH jo.tab];kernel_rfl
theorem jo.L1 (Inv:Nat->AV->T Blk->Pa->Prop) {m:Nat} (hm:m<N) (hi:Inv m v h nx)
  (step:∀ (m:Nat) (z5 z6 z9 zA zB:AV) (h:T Blk) (nx:Pa) (R:Ks Prop),Inv m z9 h nx->(∀ (m':Nat) (w5 w6 w9 wA wB:AV) (h':T Blk) (nx':Pa),m'<m->Inv m' w9 h' nx'->R (jo.fr b d g i f w5 w6 s u w9 wA wB) h' nx'=.ok True) ->
   (zk .lss .int z9 u fun v1=>zO v1 (zK 1 s z9 fun v2=>zF v2 h fun v3=>zL 1 g fun v4=>zF v4 h fun v5=>zO v5 (sLen d fun v6=>zk .add .int v6 (I 1) fun v7=>zk .sub .int v7 v3 fun v8=>zL 0 g fun v9=>zF v9 h fun vA=>zK 1 vA z9 fun vB=>zF vB h fun vC=>zK 1 f vC fun vD=>zM 1 vD v8 h nx fun vE hA nA=>zk .add .int z9 (I 1) fun vH=>R (jo.fr b d g i f z9 v8 s u vH v1 v5) hA nA) (zL 0 g fun vI=>zF vI h fun vJ=>zK 1 vJ z9 fun vK=>zF vK h fun vL=>zK 1 f vL fun vM=>zM 1 vM v3 h nx fun vN hE nF=>zk .add .int z9 (I 1) fun vU=>R (jo.fr b d g i f z9 v3 s u vU v1 v5) hE nF)) (K (jo.fr b d g i f z5 z6 s u z9 v1 zB) h nx))=.ok True) :
  IR.run jo.b1 C N (fnO jo.res K0) K (jo.fr b d g i f l p s u v a c) h nx=.ok True:=by
 rw [jo.b1,jo.xq,jo.b2];refine yD (fun m tm h nx=>∃ z5 z6 z9 zA zB,tm=(jo.fr b d g i f z5 z6 s u z9 zA zB)/\Inv m z9 h nx) ?_ hm ⟨_,_,_,_,_,rfl,hi⟩;rintro m tm h nx R ⟨z5,z6,z9,zA,zB,rfl,hi⟩ hR;refine Eq.trans ?_ (step m z5 z6 z9 zA zB h nx R hi fun m' w5 w6 w9 wA wB h' nx' hlt hi'=>hR m' _ h' nx' hlt ⟨_,_,_,_,_,rfl,hi'⟩)
 kernel_rfl
theorem jo.k9:IR.run jo.b9 C N (fnO jo.res K0) K (jo.fr b d g i f l p s u v a c) h nx =
 K0 f h nx:=by kernel_rfl
theorem F39.ztx (X9:IR) (O:ji Prop) (t:T AV):IR.run (F39.g8 X9) C N O K t h nx=IR.run X9 C N (O.blk 2 K) K t h nx:=by kernel_rfl
theorem F39.oV (X3:IR) (O:ji Prop) (t:T AV):IR.run (F39.g2 X3) C N O K t h nx=IR.run X3 C N (O.blk 0 K) K t h nx:=by kernel_rfl
theorem F39.zru (X19:IR) (O:ji Prop) (t:T AV):IR.run (F39.g18 X19) C N O K t h nx=IR.run X19 C N (O.blk 4 K) K t h nx:=by kernel_rfl
theorem F39.tab:T.get none (.of 39) tbl=some F39:=by kernel_rfl
theorem F39.go:zP tbl N C (.of 39) [a0,a1] h nx K0 =
 C.fn 96 (.of 96) [a0,a1] h nx fun v1 h2 n3=>fB 0 v1 fun v4=>fB 1 v1 fun v5=>zk .neq .int v5 (I 0) fun v6=>zO v6 (K0 (.tup [.zf,v5]) h2 n3) (sLen a1 fun v7=>gN 1 8 [(I 0)] v7 v7 h2 n3 fun v8 h9 nB=>sLen a1 fun vB=>IR.run F39.b2 C N (fnO F39.res K0) (IR.run F39.b17 C N (fnO F39.res K0) (qw F39.res K0)) (F39.fr a0 a1 .zf (I 0) v4 v5 v8 .undef .undef .undef .undef .undef .undef v6 vB (I 0) .undef .undef .undef .undef .undef .undef .undef .undef .undef .undef) h9 nB):=by
 rw [zH F39.tab];kernel_rfl
theorem F39.L2 (Inv:Nat->AV->T Blk->Pa->Prop) {m:Nat} (hm:m<N) (hi:Inv m w h nx)
  (step:∀ (m:Nat) (z7 z8 z9 zG zJ zN zQ zS zT:AV) (h:T Blk) (nx:Pa) (R:Ks Prop),Inv m zG h nx->(∀ (m':Nat) (w7 w8 w9 wF wG wH wI wJ wK:AV) (h':T Blk) (nx':Pa),m'<m->Inv m' wF h' nx'->R (F39.fr b d g i f l p w7 w8 w9 a c e o q wF wG wH wI wJ wK E D F H L) h' nx'=.ok True) ->
   (zk .lss .int zG q fun v1=>zO v1 (sLen f fun v2=>IR.run F39.b8 C N (((fnO F39.res K0).blk 0 K).blk 1 (IR.run F39.b16 C N ((fnO F39.res K0).blk 0 K) R)) (IR.run F39.b15 C N (((fnO F39.res K0).blk 0 K).blk 1 (IR.run F39.b16 C N ((fnO F39.res K0).blk 0 K) R)) (IR.run F39.b16 C N ((fnO F39.res K0).blk 0 K) R)) (F39.fr b d g i f l p zG zG z9 a c e o q zG v1 f v2 (I 0) zT E D F H L) h nx) (K (F39.fr b d g i f l p z7 z8 z9 a c e o q zG v1 zN zQ zS zT E D F H L) h nx))=.ok True) :
  IR.run F39.b2 C N (fnO F39.res K0) K (F39.fr b d g i f l p s u v a c e o q w y z A B G E D F H L) h nx=.ok True:=by
 rw [F39.b2,F39.oV,F39.b3];refine yD (fun m tm h nx=>∃ z7 z8 z9 zG zJ zN zQ zS zT,tm=(F39.fr b d g i f l p z7 z8 z9 a c e o q zG zJ zN zQ zS zT E D F H L)/\Inv m zG h nx) ?_ hm ⟨_,_,_,_,_,_,_,_,_,rfl,hi⟩;rintro m tm h nx R ⟨z7,z8,z9,zG,zJ,zN,zQ,zS,zT,rfl,hi⟩ hR;refine Eq.trans ?_ (step m z7 z8 z9 zG zJ zN zQ zS zT h nx R hi fun m' w7 w8 w9 wF wG wH wI wJ wK h' nx' hlt hi'=>hR m' _ h' nx' hlt ⟨_,_,_,_,_,_,_,_,_,rfl,hi'⟩)
 kernel_rfl
theorem F39.k17:IR.run F39.b17 C N (fnO F39.res K0) K (F39.fr b d g i f l p s u v a c e o q w y z A B G E D F H L) h nx =
 sLen p fun v1=>IR.run F39.b18 C N (fnO F39.res K0) (IR.run F39.b25 C N (fnO F39.res K0) K) (F39.fr b d g i f l p s u v .zf c e o q w y z A B G p v1 (I 0) H L) h nx:=by kernel_rfl
theorem F39.k16 {E0:Ks Prop}:IR.run F39.b16 C N ((fnO F39.res K0).blk 0 E0) K (F39.fr b d g i f l p s u v a c e o q w y z A B G E D F H L) h nx =
 zk .add .int w (I 1) fun v1=>K (F39.fr b d g i f l p s u v a c e o q v1 y z A B G E D F H L) h nx:=by kernel_rfl
theorem F39.L8 {E0 E1:Ks Prop} (Inv:Nat->AV->AV->T Blk->Pa->Prop) {m:Nat} (hm:m<N) (hi:Inv m u B h nx)
  (step:∀ (m:Nat) (z8 z9 zS zT:AV) (h:T Blk) (nx:Pa) (R:Ks Prop),Inv m z8 zS h nx->(∀ (m':Nat) (w8 w9 wJ wK:AV) (h':T Blk) (nx':Pa),m'<m->Inv m' w8 wJ h' nx'->R (F39.fr b d g i f l p s w8 w9 a c e o q w y z A wJ wK E D F H L) h' nx'=.ok True) ->
   (zk .lss .int zS A fun v1=>zO v1 (zK 1 z zS fun v2=>zF v2 h fun v3=>zK 1 v3 s fun v4=>zF v4 h fun v5=>sMin false z8 [v5] fun v6=>zk .add .int zS (I 1) fun v7=>R (F39.fr b d g i f l p s v6 v3 a c e o q w y z A v7 v1 E D F H L) h nx) (K (F39.fr b d g i f l p s z8 z9 a c e o q w y z A zS v1 E D F H L) h nx))=.ok True) :
  IR.run F39.b8 C N (((fnO F39.res K0).blk 0 E0).blk 1 E1) K (F39.fr b d g i f l p s u v a c e o q w y z A B G E D F H L) h nx=.ok True:=by
 rw [F39.b8,F39.ztx,F39.b9];refine yD (fun m tm h nx=>∃ z8 z9 zS zT,tm=(F39.fr b d g i f l p s z8 z9 a c e o q w y z A zS zT E D F H L)/\Inv m z8 zS h nx) ?_ hm ⟨_,_,_,_,rfl,hi⟩;rintro m tm h nx R ⟨z8,z9,zS,zT,rfl,hi⟩ hR;refine Eq.trans ?_ (step m z8 z9 zS zT h nx R hi fun m' w8 w9 wJ wK h' nx' hlt hi'=>hR m' _ h' nx' hlt ⟨_,_,_,_,rfl,hi'⟩)
 kernel_rfl
theorem F39.k15 {E0 E1:Ks Prop}:IR.run F39.b15 C N (((fnO F39.res K0).blk 0 E0).blk 1 E1) K (F39.fr b d g i f l p s u v a c e o q w y z A B G E D F H L) h nx =
 zK 1 p u fun v1=>zF v1 h fun v2=>zk .add .int v2 (I 1) fun v3=>zK 1 p u fun v4=>zM 1 v4 v3 h nx fun v5 h6 n7=>K (F39.fr b d g i f l p s u v a c e o q w y z A B G E D F H L) h6 n7:=by kernel_rfl
theorem F39.L18 (Inv:Nat->AV->AV->T Blk->Pa->Prop) {m:Nat} (hm:m<N) (hi:Inv m a F h nx)
  (step:∀ (m:Nat) (zA zB zC zU zV zW:AV) (h:T Blk) (nx:Pa) (R:Ks Prop),Inv m zA zU h nx->(∀ (m':Nat) (wA wB wC wL wM wN:AV) (h':T Blk) (nx':Pa),m'<m->Inv m' wA wL h' nx'->R (F39.fr b d g i f l p s u v wA wB wC o q w y z A B G E D wL wM wN) h' nx'=.ok True) ->
   (zk .lss .int zU D fun v1=>zO v1 (zK 1 E zU fun v2=>zF v2 h fun v3=>zk .gtr .int v3 (I 0) fun v4=>zO v4 (zK 1 d zU fun v5=>zF v5 h fun v6=>C.fn 48 (.of 48) [v6] h nx fun v7 h8 n9=>uH [.zf,(I 0)] [(0,1,v7),(1,1,v3)] fun vA=>yU 2 1 [.zf,(I 0)] [(0,2,vA)] h8 n9 fun vB hB nC=>vW C 2 32 zA vB hB nC fun vE hA nA=>zk .add .int zU (I 1) fun vH=>R (F39.fr b d g i f l p s u v vE zU v3 o q w y z A B G E D vH v1 v4) hA nA) (zk .add .int zU (I 1) fun vI=>R (F39.fr b d g i f l p s u v zA zU v3 o q w y z A B G E D vI v1 v4) h nx)) (K (F39.fr b d g i f l p s u v zA zB zC o q w y z A B G E D zU v1 zW) h nx))=.ok True) :
  IR.run F39.b18 C N (fnO F39.res K0) K (F39.fr b d g i f l p s u v a c e o q w y z A B G E D F H L) h nx=.ok True:=by
 rw [F39.b18,F39.zru,F39.b19];refine yD (fun m tm h nx=>∃ zA zB zC zU zV zW,tm=(F39.fr b d g i f l p s u v zA zB zC o q w y z A B G E D zU zV zW)/\Inv m zA zU h nx) ?_ hm ⟨_,_,_,_,_,_,rfl,hi⟩;rintro m tm h nx R ⟨zA,zB,zC,zU,zV,zW,rfl,hi⟩ hR;refine Eq.trans ?_ (step m zA zB zC zU zV zW h nx R hi fun m' wA wB wC wL wM wN h' nx' hlt hi'=>hR m' _ h' nx' hlt ⟨_,_,_,_,_,_,rfl,hi'⟩)
 kernel_rfl
theorem F39.k25:IR.run F39.b25 C N (fnO F39.res K0) K (F39.fr b d g i f l p s u v a c e o q w y z A B G E D F H L) h nx =
 K0 (.tup [a,(I 0)]) h nx:=by kernel_rfl
theorem F33.tab:T.get none (.of 33) tbl=some F33:=by kernel_rfl
theorem F33.go:zP tbl N C (.of 33) [a0,a1] h nx K0 =
 C.fn 39 (.of 39) [a0,a1] h nx fun v1 h2 n3=>fB 0 v1 fun v4=>fB 1 v1 fun v5=>sLen v4 fun v6=>K0 (.tup [v6,v5]) h2 n3:=by
 rw [zH F33.tab];kernel_rfl
theorem F96.zty (X4:IR) (O:ji Prop) (t:T AV):IR.run (F96.g3 X4) C N O K t h nx=IR.run X4 C N (O.blk 0 K) K t h nx:=by kernel_rfl
theorem F96.zrv (X18:IR) (O:ji Prop) (t:T AV):IR.run (F96.g17 X18) C N O K t h nx=IR.run X18 C N (O.blk 4 K) K t h nx:=by kernel_rfl
theorem F96.zrx (X12:IR) (O:ji Prop) (t:T AV):IR.run (F96.g11 X12) C N O K t h nx=IR.run X12 C N (O.blk 2 K) K t h nx:=by kernel_rfl
theorem F96.tab:T.get none (.of 96) tbl=some F96:=by kernel_rfl
theorem F96.go:zP tbl N C (.of 96) [a0,a1] h nx K0 =
 sLen a0 fun v1=>zk .gtr .int v1 (I 0) fun v2=>zO v2 (zK 2 a0 (I 0) fun v3=>zL 0 v3 fun v4=>zF v4 h fun v5=>sLen v5 fun v6=>(IR.run F96.b1 C N (fnO F96.res K0) (qw F96.res K0)) (F96.fr a0 a1 .zf (I 0) v6 .undef .undef .undef .undef .undef .undef .undef .undef .undef .undef v2 .undef .undef .undef .undef .undef .undef .undef .undef .undef .undef .undef .undef .undef .undef .undef) h nx) ((IR.run F96.b1 C N (fnO F96.res K0) (qw F96.res K0)) (F96.fr a0 a1 .zf (I 0) (I 0) .undef .undef .undef .undef .undef .undef .undef .undef .undef .undef v2 .undef .undef .undef .undef .undef .undef .undef .undef .undef .undef .undef .undef .undef .undef .undef) h nx):=by
 rw [zH F96.tab];kernel_rfl
theorem F96.k1:IR.run F96.b1 C N (fnO F96.res K0) K (F96.fr b d g i f l p s u v a c e o q w y z A B G E D F H L M P Q U V) h nx =
 C.fn 84 (.of 84) [b,f] h nx fun v1 h2 n3=>sLen d fun v4=>zk .gtr .int v4 (I 1024) fun v5=>C.fn 105 (.of 105) [v5,(I 5)] h2 n3 fun v6 h7 n8=>yU 1 2 [(I 0)] [(0,1,v1),(1,1,v6)] h7 n8 fun v9 hH nI=>C.fn 104 (.of 104) [v9] hH nI fun vC hI nJ=>zk .neq .int vC (I 0) fun vF=>zO vF (K0 (.tup [.zf,vC]) hI nJ) (sLen d fun vG=>IR.run F96.b3 C N (fnO F96.res K0) (IR.run F96.b10 C N (fnO F96.res K0) K) (F96.fr b d g i f vC p s u v a c e o q w vF d vG (I 0) G E D F H L M P Q U V) hI nJ):=by kernel_rfl
theorem F96.L3 (Inv:Nat->AV->T Blk->Pa->Prop) {m:Nat} (hm:m<N) (hi:Inv m B h nx)
  (step:∀ (m:Nat) (z2 z3 z6 z7 z8 zS zT zX:AV) (h:T Blk) (nx:Pa) (R:Ks Prop),Inv m zS h nx->(∀ (m':Nat) (w2 w3 w6 w7 w8 wJ wK wO:AV) (h':T Blk) (nx':Pa),m'<m->Inv m' wJ h' nx'->R (F96.fr b d w2 w3 f l w6 w7 w8 v a c e o q w y z A wJ wK wO D F H L M P Q U V) h' nx'=.ok True) ->
   (zk .lss .int zS A fun v1=>zO v1 (zK 1 z zS fun v2=>zF v2 h fun v3=>sLen v3 fun v4=>zk .neq .int v4 f fun v5=>C.fn 105 (.of 105) [v5,(I 2)] h nx fun v6 h7 n8=>C.fn 160 (.of 160) [v3] h7 n8 fun v9 hH nI=>C.fn 105 (.of 105) [v9,(I 3)] hH nI fun vC hI nJ=>zk .gtr .int zS (I 0) fun vF=>sG vF true (fun k=>k d) fun vG=>sG vF true (fun k=>k zS) fun vH=>sG vF true (fun k=>zk .sub .int vH (I 1) k) fun vI=>sG vF true (fun k=>zK 1 vG vI k) fun vJ=>sG vF true (fun k=>zF vJ hI k) fun vK=>sG vF true (fun k=>k v3) fun vL=>sGW vF true (fun k=>C.fn 161 (.of 161) [vK,vL] hI nJ k) hI nJ fun vM hJ nK=>sG vF true (fun k=>zk .geq .int vM (I 0) k) fun vX=>jR vF vX (.bool false) fun vU=>C.fn 105 (.of 105) [vU,(I 11)] hJ nK fun vT hK nL=>yU 1 3 [(I 0)] [(0,1,v6),(1,1,vC),(2,1,vT)] hK nL fun vQ hL nM=>C.fn 104 (.of 104) [vQ] hL nM fun vY hM nN=>zk .neq .int vY (I 0) fun vZ=>zO vZ (K0 (.tup [.zf,vY]) hM nN) (zk .add .int zS (I 1) fun v37=>R (F96.fr b d z2 z3 f l zS v3 vY v a c e o q w y z A v37 v1 vZ D F H L M P Q U V) hM nN)) (K (F96.fr b d z2 z3 f l z6 z7 z8 v a c e o q w y z A zS v1 zX D F H L M P Q U V) h nx))=.ok True) :
  IR.run F96.b3 C N (fnO F96.res K0) K (F96.fr b d g i f l p s u v a c e o q w y z A B G E D F H L M P Q U V) h nx=.ok True:=by
 rw [F96.b3,F96.zty,F96.b4];refine yD (fun m tm h nx=>∃ z2 z3 z6 z7 z8 zS zT zX,tm=(F96.fr b d z2 z3 f l z6 z7 z8 v a c e o q w y z A zS zT zX D F H L M P Q U V)/\Inv m zS h nx) ?_ hm ⟨_,_,_,_,_,_,_,_,rfl,hi⟩;rintro m tm h nx R ⟨z2,z3,z6,z7,z8,zS,zT,zX,rfl,hi⟩ hR;refine Eq.trans ?_ (step m z2 z3 z6 z7 z8 zS zT zX h nx R hi fun m' w2 w3 w6 w7 w8 wJ wK wO h' nx' hlt hi'=>hR m' _ h' nx' hlt ⟨_,_,_,_,_,_,_,_,rfl,hi'⟩)
 kernel_rfl
theorem F96.k10:IR.run F96.b10 C N (fnO F96.res K0) K (F96.fr b d g i f l p s u v a c e o q w y z A B G E D F H L M P Q U V) h nx =
 sLen b fun v1=>IR.run F96.b11 C N (fnO F96.res K0) (IR.run F96.b27 C N (fnO F96.res K0) K) (F96.fr b d g i f l p s u .zf a c e o q w y z A B G E b v1 (I 0) L M P Q U V) h nx:=by kernel_rfl
theorem F96.L11 (Inv:Nat->AV->AV->T Blk->Pa->Prop) {m:Nat} (hm:m<N) (hi:Inv m v H h nx)
  (step:∀ (m:Nat) (z2 z3 z9 zA zB zC zD zE zV zW zY zZ z28 z29 z30:AV) (h:T Blk) (nx:Pa) (R:Ks Prop),Inv m z9 zV h nx->(∀ (m':Nat) (w2 w3 w9 wA wB wC wD wE wM wN wP wQ wR wS wT:AV) (h':T Blk) (nx':Pa),m'<m->Inv m' w9 wM h' nx'->R (F96.fr b d w2 w3 f l p s u w9 wA wB wC wD wE w y z A B G E D F wM wN wP wQ wR wS wT) h' nx'=.ok True) ->
   (zk .lss .int zV F fun v1=>zO v1 (zK 2 D zV fun v2=>zI 2 v2 h fun v3=>yJ [.zf,(.bool false)] h nx fun v4 h5 n6=>zM 2 v4 v3 h5 n6 fun v7 h8 n9=>sLen d fun vA=>IR.run F96.b17 C N (((fnO F96.res K0).blk 2 K).blk 3 (IR.run F96.b26 C N ((fnO F96.res K0).blk 2 K) R)) (IR.run F96.b25 C N (((fnO F96.res K0).blk 2 K).blk 3 (IR.run F96.b26 C N ((fnO F96.res K0).blk 2 K) R)) (IR.run F96.b26 C N ((fnO F96.res K0).blk 2 K) R)) (F96.fr b d z2 z3 f l p s u z9 v4 .zf zC zD zE w y z A B G E D F zV v1 d vA (I 0) z29 z30) h8 n9) (K (F96.fr b d z2 z3 f l p s u z9 zA zB zC zD zE w y z A B G E D F zV v1 zY zZ z28 z29 z30) h nx))=.ok True) :
  IR.run F96.b11 C N (fnO F96.res K0) K (F96.fr b d g i f l p s u v a c e o q w y z A B G E D F H L M P Q U V) h nx=.ok True:=by
 rw [F96.b11,F96.zrx,F96.b12];refine yD (fun m tm h nx=>∃ z2 z3 z9 zA zB zC zD zE zV zW zY zZ z28 z29 z30,tm=(F96.fr b d z2 z3 f l p s u z9 zA zB zC zD zE w y z A B G E D F zV zW zY zZ z28 z29 z30)/\Inv m z9 zV h nx) ?_ hm ⟨_,_,_,_,_,_,_,_,_,_,_,_,_,_,_,rfl,hi⟩;rintro m tm h nx R ⟨z2,z3,z9,zA,zB,zC,zD,zE,zV,zW,zY,zZ,z28,z29,z30,rfl,hi⟩ hR;refine Eq.trans ?_ (step m z2 z3 z9 zA zB zC zD zE zV zW zY zZ z28 z29 z30 h nx R hi fun m' w2 w3 w9 wA wB wC wD wE wM wN wP wQ wR wS wT h' nx' hlt hi'=>hR m' _ h' nx' hlt ⟨_,_,_,_,_,_,_,_,_,_,_,_,_,_,_,rfl,hi'⟩)
 kernel_rfl
theorem F96.k27:IR.run F96.b27 C N (fnO F96.res K0) K (F96.fr b d g i f l p s u v a c e o q w y z A B G E D F H L M P Q U V) h nx =
 K0 (.tup [v,(I 0)]) h nx:=by kernel_rfl
theorem F96.k26 {E2:Ks Prop}:IR.run F96.b26 C N ((fnO F96.res K0).blk 2 E2) K (F96.fr b d g i f l p s u v a c e o q w y z A B G E D F H L M P Q U V) h nx =
 zk .add .int H (I 1) fun v1=>K (F96.fr b d g i f l p s u v a c e o q w y z A B G E D F v1 L M P Q U V) h nx:=by kernel_rfl
theorem F96.L17 {E2 E3:Ks Prop} (Inv:Nat->AV->AV->T Blk->Pa->Prop) {m:Nat} (hm:m<N) (hi:Inv m c Q h nx)
  (step:∀ (m:Nat) (z2 z3 zB zC zD zE z28 z29 z30:AV) (h:T Blk) (nx:Pa) (R:Ks Prop),Inv m zB z28 h nx->(∀ (m':Nat) (w2 w3 wB wC wD wE wR wS wT:AV) (h':T Blk) (nx':Pa),m'<m->Inv m' wB wR h' nx'->R (F96.fr b d w2 w3 f l p s u v a wB wC wD wE w y z A B G E D F H L M P wR wS wT) h' nx'=.ok True) ->
   (zk .lss .int z28 P fun v1=>zO v1 (zK 1 M z28 fun v2=>zF v2 h fun v3=>zI 2 a h fun v4=>C.fn 163 (.of 163) [v4,v3] h nx fun v5 h6 n7=>C.fn 162 (.of 162) [d,v5,(.fn 161 (.of 161) [])] h6 n7 fun v8 h9 nB=>fB 0 v8 fun vB=>fB 1 v8 fun vC=>sNot vC fun vD=>zO vD (K0 (.tup [.zf,(I 7)]) h9 nB) (yU 1 1 [(I 0)] [(0,1,vB)] h9 nB fun vE hA nA=>sZ 1 8 zB vE hA nA fun vH hN nO=>zk .add .int z28 (I 1) fun vK=>R (F96.fr b d z2 z3 f l p s u v a vH v3 vB vC w y z A B G E D F H L M P vK v1 vD) hN nO)) (K (F96.fr b d z2 z3 f l p s u v a zB zC zD zE w y z A B G E D F H L M P z28 v1 z30) h nx))=.ok True) :
  IR.run F96.b17 C N (((fnO F96.res K0).blk 2 E2).blk 3 E3) K (F96.fr b d g i f l p s u v a c e o q w y z A B G E D F H L M P Q U V) h nx=.ok True:=by
 rw [F96.b17,F96.zrv,F96.b18];refine yD (fun m tm h nx=>∃ z2 z3 zB zC zD zE z28 z29 z30,tm=(F96.fr b d z2 z3 f l p s u v a zB zC zD zE w y z A B G E D F H L M P z28 z29 z30)/\Inv m zB z28 h nx) ?_ hm ⟨_,_,_,_,_,_,_,_,_,rfl,hi⟩;rintro m tm h nx R ⟨z2,z3,zB,zC,zD,zE,z28,z29,z30,rfl,hi⟩ hR;refine Eq.trans ?_ (step m z2 z3 zB zC zD zE z28 z29 z30 h nx R hi fun m' w2 w3 wB wC wD wE wR wS wT h' nx' hlt hi'=>hR m' _ h' nx' hlt ⟨_,_,_,_,_,_,_,_,_,rfl,hi'⟩)
 kernel_rfl
theorem F96.k25 {E2 E3:Ks Prop}:IR.run F96.b25 C N (((fnO F96.res K0).blk 2 E2).blk 3 E3) K (F96.fr b d g i f l p s u v a c e o q w y z A B G E D F H L M P Q U V) h nx =
 yU 1 1 [.zf] [(0,1,c)] h nx fun v1 h2 n3=>sZ 1 24 v v1 h2 n3 fun v4 h5 n6=>K (F96.fr b d g i f l p s u v4 a c e o q w y z A B G E D F H L M P Q U V) h5 n6:=by kernel_rfl
theorem F84.tab:T.get none (.of 84) tbl=some F84:=by kernel_rfl
theorem F84.go:zP tbl N C (.of 84) [a0,a1] h nx K0 =
 C.fn 143 (.of 143) [a0,a1] h nx fun v1 h2 n3=>fB 0 v1 fun v4=>fB 1 v1 fun v5=>fB 2 v1 fun v6=>K0 v6 h2 n3:=by
 rw [zH F84.tab];kernel_rfl
theorem gu.xq (X2:IR) (O:ji Prop) (t:T AV):IR.run (gu.g1 X2) C N O K t h nx=IR.run X2 C N (O.blk 0 K) K t h nx:=by kernel_rfl
theorem gu.tab:T.get none (.of 199) tbl=some gu:=by kernel_rfl
theorem gu.go:zP tbl N C (.of 199) [a0,a1] h nx K0 =
 sLen a0 fun v1=>IR.run gu.b1 C N (fnO gu.res K0) (IR.run gu.b8 C N (fnO gu.res K0) (qw gu.res K0)) (gu.fr a0 a1 (I 0) .undef .undef a0 v1 (I 0) .undef .undef) h nx:=by
 rw [zH gu.tab];kernel_rfl
theorem gu.L1 (Inv:Nat->AV->T Blk->Pa->Prop) {m:Nat} (hm:m<N) (hi:Inv m s h nx)
  (step:∀ (m:Nat) (z2 z3 z4 z7 z8 z9:AV) (h:T Blk) (nx:Pa) (R:Ks Prop),Inv m z7 h nx->(∀ (m':Nat) (w2 w3 w4 w7 w8 w9:AV) (h':T Blk) (nx':Pa),m'<m->Inv m' w7 h' nx'->R (gu.fr b d w2 w3 w4 l p w7 w8 w9) h' nx'=.ok True) ->
   (zk .lss .int z7 p fun v1=>zO v1 (zK 2 l z7 fun v2=>zI 2 v2 h fun v3=>yJ [.zf,(.bool false)] h nx fun v4 h5 n6=>zM 2 v4 v3 h5 n6 fun v7 h8 n9=>zI 2 v4 h8 fun vA=>C.fn 64 (.of 64) [vA,d] h8 n9 fun vB hB nC=>zk .neq .int vB (I 0) fun vE=>zO vE (K0 vB hB nC) (zk .add .int z7 (I 1) fun vF=>R (gu.fr b d z2 v4 vB l p vF v1 vE) hB nC)) (K (gu.fr b d z2 z3 z4 l p z7 v1 z9) h nx))=.ok True) :
  IR.run gu.b1 C N (fnO gu.res K0) K (gu.fr b d g i f l p s u v) h nx=.ok True:=by
 rw [gu.b1,gu.xq,gu.b2];refine yD (fun m tm h nx=>∃ z2 z3 z4 z7 z8 z9,tm=(gu.fr b d z2 z3 z4 l p z7 z8 z9)/\Inv m z7 h nx) ?_ hm ⟨_,_,_,_,_,_,rfl,hi⟩;rintro m tm h nx R ⟨z2,z3,z4,z7,z8,z9,rfl,hi⟩ hR;refine Eq.trans ?_ (step m z2 z3 z4 z7 z8 z9 h nx R hi fun m' w2 w3 w4 w7 w8 w9 h' nx' hlt hi'=>hR m' _ h' nx' hlt ⟨_,_,_,_,_,_,rfl,hi'⟩)
 kernel_rfl
theorem gu.k8:IR.run gu.b8 C N (fnO gu.res K0) K (gu.fr b d g i f l p s u v) h nx =
 K0 (I 0) h nx:=by kernel_rfl
theorem F86.tab:T.get none (.of 86) tbl=some F86:=by kernel_rfl
theorem F86.go:zP tbl N C (.of 86) [a0] h nx K0 =
 bU a0 h nx fun v1 h2 n3=>K0 (.fn 144 (.of 144) [v1]) h2 n3:=by
 rw [zH F86.tab];kernel_rfl
theorem bV.tab:T.get none (.of 114) tbl=some bV:=by kernel_rfl
theorem bV.go:zP tbl N C (.of 114) [a0,a1] h nx K0 =
 bU a0 h nx fun v1 h2 n3=>bU a1 h2 n3 fun v4 h5 n6=>zL 0 v1 fun v7=>zF v7 h5 fun v8=>zL 0 v4 fun v9=>zF v9 h5 fun vA=>C.fn 161 (.of 161) [v8,vA] h5 n6 fun vB hB nC=>zk .neq .int vB (I 0) fun vE=>sG vE false (fun k=>zL 1 v1 k) fun vF=>sG vE false (fun k=>zF vF hB k) fun vG=>sG vE false (fun k=>zL 1 v4 k) fun vH=>sG vE false (fun k=>zF vH hB k) fun vI=>sG vE false (fun k=>zk .eql .bool vG vI k) fun vJ=>jR vE (.bool true) vJ fun vK=>zO vK (K0 vB hB nC) ((IR.run bV.b1 C N (fnO bV.res K0) (qw bV.res K0)) (bV.fr a0 a1 v1 v4 (I 0) vB vK .undef) hB nC):=by
 rw [zH bV.tab];kernel_rfl
theorem bV.k1:IR.run bV.b1 C N (fnO bV.res K0) K (bV.fr b d g i f l p s) h nx =
 zL 1 g fun v1=>zF v1 h fun v2=>zO v2 (K0 (I 1) h nx) (K0 (I (-1)) h nx):=by kernel_rfl
theorem F64.tab:T.get none (.of 64) tbl=some F64:=by kernel_rfl
theorem F64.go:zP tbl N C (.of 64) [a0,a1] h nx K0 =
 bU a0 h nx fun v1 h2 n3=>zL 0 v1 fun v4=>zF v4 h2 fun v5=>sLen v5 fun v6=>zk .neq .int v6 a1 fun v7=>zL 0 v1 fun v8=>zF v8 h2 fun v9=>C.fn 125 (.of 125) [a1] h2 n3 fun vA hG nH=>(zF v8 hG fun vZ=>zR vZ v9 ((zL 0 v1 fun v35=>zR v35 v8 ((zk .neq .int v6 a1 fun v34=>zR v34 v7 (zR a1 a1 ((sLen v5 fun vY=>zR vY v6 ((zF v4 hG fun v32=>zR v32 v5 ((zL 0 v1 fun vP=>zR vP v4 (C.fn 76 (.of 76) [v7,(I 2)] hG nH fun vD hO nP=>(zF v8 hO fun vQ=>zR vQ v9 ((zL 0 v1 fun vR=>zR vR v8 (C.fn 126 (.of 126) [v9] hO nP fun vG hF nG=>sNot vG fun vJ=>C.fn 76 (.of 76) [vJ,(I 14)] hF nG fun vK hP nQ=>yU 1 3 [(I 0)] [(0,1,vA),(1,1,vD),(2,1,vK)] hP nQ fun vN hE nF=>C.fn 72 (.of 72) [vN] hE nF fun vU hQ nR=>K0 vU hQ nR))))))))))))))))):=by
 rw [zH F64.tab];kernel_rfl
theorem ku.xq (X2:IR) (O:ji Prop) (t:T AV):IR.run (ku.g1 X2) C N O K t h nx=IR.run X2 C N (O.blk 0 K) K t h nx:=by kernel_rfl
theorem ku.tab:T.get none (.of 144) tbl=some ku:=by kernel_rfl
theorem ku.go:zP tbl N C (.of 144) [a0,a1] h nx K0 =
 zF a1 h fun v1=>sLen v1 fun v2=>IR.run ku.b1 C N (fnO ku.res K0) (qw ku.res K0) (ku.fr a0 a1 .undef .undef v1 v2 (I 0) .undef .undef) h nx:=by
 rw [zH ku.tab];kernel_rfl
theorem ku.L1 (Inv:Nat->AV->T Blk->Pa->Prop) {m:Nat} (hm:m<N) (hi:Inv m p h nx)
  (step:∀ (m:Nat) (z2 z3 z6 z7 z8:AV) (h:T Blk) (nx:Pa) (R:Ks Prop),Inv m z6 h nx->(∀ (m':Nat) (w2 w3 w6 w7 w8:AV) (h':T Blk) (nx':Pa),m'<m->Inv m' w6 h' nx'->R (ku.fr b d w2 w3 f l w6 w7 w8) h' nx'=.ok True) ->
   (zk .lss .int z6 l fun v1=>zO v1 (zK 2 f z6 fun v2=>zI 2 v2 h fun v3=>yJ [.zf,(.bool false)] h nx fun v4 h5 n6=>zM 2 v4 v3 h5 n6 fun v7 h8 n9=>zI 2 v4 h8 fun vA=>oW C b [z6,vA] h8 n9 fun vB hB nC=>sNot vB fun vE=>zO vE (K0 (.tup []) hB nC) (zk .add .int z6 (I 1) fun vF=>R (ku.fr b d z6 v4 f l vF v1 vE) hB nC)) (K (ku.fr b d z2 z3 f l z6 v1 z8) h nx))=.ok True) :
  IR.run ku.b1 C N (fnO ku.res K0) K (ku.fr b d g i f l p s u) h nx=.ok True:=by
 rw [ku.b1,ku.xq,ku.b2];refine yD (fun m tm h nx=>∃ z2 z3 z6 z7 z8,tm=(ku.fr b d z2 z3 f l z6 z7 z8)/\Inv m z6 h nx) ?_ hm ⟨_,_,_,_,_,rfl,hi⟩;rintro m tm h nx R ⟨z2,z3,z6,z7,z8,rfl,hi⟩ hR;refine Eq.trans ?_ (step m z2 z3 z6 z7 z8 h nx R hi fun m' w2 w3 w6 w7 w8 h' nx' hlt hi'=>hR m' _ h' nx' hlt ⟨_,_,_,_,_,rfl,hi'⟩)
 kernel_rfl
theorem gy.xq (X2:IR) (O:ji Prop) (t:T AV):IR.run (gy.g1 X2) C N O K t h nx=IR.run X2 C N (O.blk 0 K) K t h nx:=by kernel_rfl
theorem gy.tab:T.get none (.of 248) tbl=some gy:=by kernel_rfl
theorem gy.go:zP tbl N C (.of 248) [a0] h nx K0 =
 yJ [.zf,(.bool false)] h nx fun v1 h2 n3=>gN 1 8 [(I 0)] a0 a0 h2 n3 fun v4 h5 n6=>uH [.zf,(.bool false)] [(0,1,v4)] fun v7=>yJ [.zf,(.bool false)] h5 n6 fun v8 h9 nB=>zM 2 v8 v7 h9 nB fun vB hB nC=>zL 0 v8 fun vE=>zF vE hB fun vF=>sLen vF fun vG=>IR.run gy.b1 C N (fnO gy.res K0) (IR.run gy.b8 C N (fnO gy.res K0) (qw gy.res K0)) (gy.fr a0 v1 v8 .undef vG (I 0) .undef) hB nC:=by
 rw [zH gy.tab];kernel_rfl
theorem gy.L1 (Inv:Nat->AV->T Blk->Pa->Prop) {m:Nat} (hm:m<N) (hi:Inv m l h nx)
  (step:∀ (m:Nat) (z3 z5 z6:AV) (h:T Blk) (nx:Pa) (R:Ks Prop),Inv m z5 h nx->(∀ (m':Nat) (w3 w5 w6:AV) (h':T Blk) (nx':Pa),m'<m->Inv m' w5 h' nx'->R (gy.fr b d g w3 f w5 w6) h' nx'=.ok True) ->
   (zk .lss .int z5 f fun v1=>zO v1 (zL 0 g fun v2=>zF v2 h fun v3=>zK 1 v3 z5 fun v4=>zM 1 v4 z5 h nx fun v5 h6 n7=>zk .add .int z5 (I 1) fun v8=>R (gy.fr b d g z5 f v8 v1) h6 n7) (K (gy.fr b d g z3 f z5 v1) h nx))=.ok True) :
  IR.run gy.b1 C N (fnO gy.res K0) K (gy.fr b d g i f l p) h nx=.ok True:=by
 rw [gy.b1,gy.xq,gy.b2];refine yD (fun m tm h nx=>∃ z3 z5 z6,tm=(gy.fr b d g z3 f z5 z6)/\Inv m z5 h nx) ?_ hm ⟨_,_,_,rfl,hi⟩;rintro m tm h nx R ⟨z3,z5,z6,rfl,hi⟩ hR;refine Eq.trans ?_ (step m z3 z5 z6 h nx R hi fun m' w3 w5 w6 h' nx' hlt hi'=>hR m' _ h' nx' hlt ⟨_,_,_,rfl,hi'⟩)
 kernel_rfl
theorem gy.k8:IR.run gy.b8 C N (fnO gy.res K0) K (gy.fr b d g i f l p) h nx =
 zI 2 g h fun v1=>zM 2 d v1 h nx fun v2 h3 n4=>zI 2 d h3 fun v5=>K0 v5 h3 n4:=by kernel_rfl
theorem jq.xq (X2:IR) (O:ji Prop) (t:T AV):IR.run (jq.g1 X2) C N O K t h nx=IR.run X2 C N (O.blk 0 K) K t h nx:=by kernel_rfl
theorem jq.tab:T.get none (.of 112) tbl=some jq:=by kernel_rfl
theorem jq.go:zP tbl N C (.of 112) [a0] h nx K0 =
 bU a0 h nx fun v1 h2 n3=>zL 0 v1 fun v4=>zF v4 h2 fun v5=>sLen v5 fun v6=>zk .add .int v6 (I 1) fun v7=>gN 1 1 [(.int .u8 0)] (I 0) v7 h2 n3 fun v8 h9 nB=>zL 0 v1 fun vB=>zF vB h9 fun vC=>sLen vC fun vD=>IR.run jq.b1 C N (fnO jq.res K0) (IR.run jq.b8 C N (fnO jq.res K0) (qw jq.res K0)) (jq.fr a0 v1 (.str []) v8 .undef vC vD (I 0) .undef .undef) h9 nB:=by
 rw [zH jq.tab];kernel_rfl
theorem jq.L1 (Inv:Nat->AV->AV->T Blk->Pa->Prop) {m:Nat} (hm:m<N) (hi:Inv m i s h nx)
  (step:∀ (m:Nat) (z3 z4 z7 z8:AV) (h:T Blk) (nx:Pa) (R:Ks Prop),Inv m z3 z7 h nx->(∀ (m':Nat) (w3 w4 w7 w8:AV) (h':T Blk) (nx':Pa),m'<m->Inv m' w3 w7 h' nx'->R (jq.fr b d g w3 w4 l p w7 w8 v) h' nx'=.ok True) ->
   (zk .lss .int z7 p fun v1=>zO v1 (zK 1 l z7 fun v2=>zF v2 h fun v3=>vV .u8 v3 fun v4=>yU 1 1 [(.int .u8 0)] [(0,1,v4)] h nx fun v5 h6 n7=>sZ 1 1 z3 v5 h6 n7 fun v8 h9 nB=>zk .add .int z7 (I 1) fun vB=>R (jq.fr b d g v8 v3 l p vB v1 v) h9 nB) (K (jq.fr b d g z3 z4 l p z7 v1 v) h nx))=.ok True) :
  IR.run jq.b1 C N (fnO jq.res K0) K (jq.fr b d g i f l p s u v) h nx=.ok True:=by
 rw [jq.b1,jq.xq,jq.b2];refine yD (fun m tm h nx=>∃ z3 z4 z7 z8,tm=(jq.fr b d g z3 z4 l p z7 z8 v)/\Inv m z3 z7 h nx) ?_ hm ⟨_,_,_,_,rfl,hi⟩;rintro m tm h nx R ⟨z3,z4,z7,z8,rfl,hi⟩ hR;refine Eq.trans ?_ (step m z3 z4 z7 z8 h nx R hi fun m' w3 w4 w7 w8 h' nx' hlt hi'=>hR m' _ h' nx' hlt ⟨_,_,_,_,rfl,hi'⟩)
 kernel_rfl
theorem jq.k8:IR.run jq.b8 C N (fnO jq.res K0) K (jq.fr b d g i f l p s u v) h nx =
 zL 1 d fun v1=>zF v1 h fun v2=>zO v2 (yU 1 1 [(.int .u8 0)] [(0,1,(.int .u8 1))] h nx fun v3 h4 n5=>sZ 1 1 i v3 h4 n5 fun v6 h7 n8=>sB2s v6 h7 fun v9=>K0 v9 h7 n8) (sB2s i h fun vA=>K0 vA h nx):=by kernel_rfl
theorem aN.tab:T.get none (.of 249) tbl=some aN:=by kernel_rfl
theorem aN.go:zP tbl N C (.of 249) [a0,a1] h nx K0 =
 bU a1 h nx fun v1 h2 n3=>zI 2 v1 h2 fun v4=>C.fn 112 (.of 112) [v4] h2 n3 fun v5 h6 n7=>zlc .str (.agg [.zf,(.bool false)]) true a0 v5 h6 fun v8=>fB 0 v8 fun v9=>fB 1 v8 fun vA=>yJ [.zf,(.bool false)] h6 n7 fun vB hB nC=>zM 2 vB v9 hB nC fun vE hA nA=>K0 vA hA nA:=by
 rw [zH aN.tab];kernel_rfl
theorem uf.xq (X2:IR) (O:ji Prop) (t:T AV):IR.run (uf.g1 X2) C N O K t h nx=IR.run X2 C N (O.blk 0 K) K t h nx:=by kernel_rfl
theorem uf.tab:T.get none (.of 250) tbl=some uf:=by kernel_rfl
theorem uf.go:zP tbl N C (.of 250) [a0,a1] h nx K0 =
 bU a0 h nx fun v1 h2 n3=>bU a1 h2 n3 fun v4 h5 n6=>yJ [.zf,(.bool false)] h5 n6 fun v7 h8 n9=>sChk (true&&true) (zL 0 v4 fun vA=>zF vA h8 fun vB=>sLen vB fun vC=>sChk (mkSl 8 vC vC&&true) (zL 1 v1 fun vD=>zF vD h8 fun vE=>zL 1 v4 fun vF=>zF vF h8 fun vG=>zk .neq .bool vE vG fun vH=>gN 1 8 [(I 0)] vC vC h8 n9 fun vI hS nS=>(zk .neq .bool vE vG fun v47=>zR v47 vH ((zF vF hS fun v46=>zR v46 vG ((zL 1 v4 fun v45=>zR v45 vF ((zF vD hS fun v44=>zR v44 vE ((zL 1 v1 fun v43=>zR v43 vD ((sLen vB fun v42=>zR v42 vC ((zF vA hS fun v41=>zR v41 vB ((zL 0 v4 fun v40=>zR v40 vA (uH [.zf,(.bool false)] [(0,1,vI),(1,1,vH)] fun vL=>yJ [.zf,(.bool false)] hS nS fun vM hJ nK=>(uH [.zf,(.bool false)] [(0,1,vI),(1,1,vH)] fun v39=>zR v39 vL ((zk .neq .bool vE vG fun v38=>zR v38 vH ((zF vF hJ fun v37=>zR v37 vG ((zL 1 v4 fun vZ=>zR vZ vF ((zF vD hJ fun v35=>zR v35 vE ((zL 1 v1 fun v34=>zR v34 vD ((sLen vB fun vY=>zR vY vC ((zF vA hJ fun v32=>zR v32 vB ((zL 0 v4 fun vP=>zR vP vA (zM 2 vM vL hJ nK fun vX hT nT=>zL 0 v4 fun vS=>zF vS hT fun vR=>sLen vR fun vQ=>IR.run uf.b1 C N (fnO uf.res K0) (IR.run uf.b8 C N (fnO uf.res K0) (qw uf.res K0)) (uf.fr a0 a1 v1 v4 v7 vM .undef .undef vR vQ (I 0) .undef) hT nT)))))))))))))))))))))))))))))))))))):=by
 rw [zH uf.tab];kernel_rfl
theorem uf.L1 (Inv:Nat->AV->T Blk->Pa->Prop) {m:Nat} (hm:m<N) (hi:Inv m a h nx)
  (step:∀ (m:Nat) (z6 z7 zA zB:AV) (h:T Blk) (nx:Pa) (R:Ks Prop),Inv m zA h nx->(∀ (m':Nat) (w6 w7 wA wB:AV) (h':T Blk) (nx':Pa),m'<m->Inv m' wA h' nx'->R (uf.fr b d g i f l w6 w7 u v wA wB) h' nx'=.ok True) ->
   (zk .lss .int zA v fun v1=>zO v1 (zK 1 u zA fun v2=>zF v2 h fun v3=>zL 0 l fun v4=>zF v4 h fun v5=>zL 0 g fun v6=>zF v6 h fun v7=>zK 1 v7 v3 fun v8=>zF v8 h fun v9=>zK 1 v5 zA fun vA=>zM 1 vA v9 h nx fun vB hB nC=>zk .add .int zA (I 1) fun vE=>R (uf.fr b d g i f l zA v3 u v vE v1) hB nC) (K (uf.fr b d g i f l z6 z7 u v zA v1) h nx))=.ok True) :
  IR.run uf.b1 C N (fnO uf.res K0) K (uf.fr b d g i f l p s u v a c) h nx=.ok True:=by
 rw [uf.b1,uf.xq,uf.b2];refine yD (fun m tm h nx=>∃ z6 z7 zA zB,tm=(uf.fr b d g i f l z6 z7 u v zA zB)/\Inv m zA h nx) ?_ hm ⟨_,_,_,_,rfl,hi⟩;rintro m tm h nx R ⟨z6,z7,zA,zB,rfl,hi⟩ hR;refine Eq.trans ?_ (step m z6 z7 zA zB h nx R hi fun m' w6 w7 wA wB h' nx' hlt hi'=>hR m' _ h' nx' hlt ⟨_,_,_,_,rfl,hi'⟩)
 kernel_rfl
theorem uf.k8:IR.run uf.b8 C N (fnO uf.res K0) K (uf.fr b d g i f l p s u v a c) h nx =
 zI 2 l h fun v1=>zM 2 f v1 h nx fun v2 h3 n4=>zI 2 f h3 fun v5=>K0 v5 h3 n4:=by kernel_rfl
theorem aO.tab:T.get none (.of 126) tbl=some aO:=by kernel_rfl
theorem aO.go:zP tbl N C (.of 126) [a0] h nx K0 =
 C.fn 187 (.of 187) [a0] h nx fun v1 h2 n3=>zk .eql .int v1 (I 0) fun v4=>K0 v4 h2 n3:=by
 rw [zH aO.tab];kernel_rfl
theorem jc.oV (X3:IR) (O:ji Prop) (t:T AV):IR.run (jc.g2 X3) C N O K t h nx=IR.run X3 C N (O.blk 0 K) K t h nx:=by kernel_rfl
theorem jc.tab:T.get none (.of 187) tbl=some jc:=by kernel_rfl
theorem jc.go:zP tbl N C (.of 187) [a0] h nx K0 =
 sLen a0 fun v1=>zk .gtr .int v1 (I 256) fun v2=>zO v2 (K0 (I 5) h nx) (sLen a0 fun v3=>gN 1 1 [(.bool false)] v3 v3 h nx fun v4 h5 n6=>sLen a0 fun v7=>IR.run jc.b2 C N (fnO jc.res K0) (IR.run jc.b10 C N (fnO jc.res K0) (qw jc.res K0)) (jc.fr a0 (I 0) v4 .undef v2 a0 v7 (I 0) .undef .undef) h5 n6):=by
 rw [zH jc.tab];kernel_rfl
theorem jc.L2 (Inv:Nat->AV->T Blk->Pa->Prop) {m:Nat} (hm:m<N) (hi:Inv m s h nx)
  (step:∀ (m:Nat) (z1 z3 z7 z8 z9:AV) (h:T Blk) (nx:Pa) (R:Ks Prop),Inv m z7 h nx->(∀ (m':Nat) (w1 w3 w7 w8 w9:AV) (h':T Blk) (nx':Pa),m'<m->Inv m' w7 h' nx'->R (jc.fr b w1 g w3 f l p w7 w8 w9) h' nx'=.ok True) ->
   (zk .lss .int z7 p fun v1=>zO v1 (zK 1 l z7 fun v2=>zF v2 h fun v3=>zk .lss .int v3 (I 0) fun v4=>sG v4 false (fun k=>k v3) fun v5=>sG v4 false (fun k=>k b) fun v6=>sG v4 false (fun k=>sLen v6 k) fun v7=>sG v4 false (fun k=>zk .geq .int v5 v7 k) fun v8=>jR v4 (.bool true) v8 fun v9=>sG v9 false (fun k=>k g) fun vA=>sG v9 false (fun k=>k v3) fun vB=>sG v9 false (fun k=>zK 1 vA vB k) fun vC=>sG v9 false (fun k=>zF vC h k) fun vD=>jR v9 (.bool true) vD fun vE=>zO vE (K0 (I 14) h nx) ((IR.run jc.b8 C N (((fnO jc.res K0).blk 0 K).blk 1 (IR.run jc.b9 C N ((fnO jc.res K0).blk 0 K) R)) (IR.run jc.b9 C N ((fnO jc.res K0).blk 0 K) R)) (jc.fr b z1 g v3 f l p z7 v1 vE) h nx)) (K (jc.fr b z1 g z3 f l p z7 v1 z9) h nx))=.ok True) :
  IR.run jc.b2 C N (fnO jc.res K0) K (jc.fr b d g i f l p s u v) h nx=.ok True:=by
 rw [jc.b2,jc.oV,jc.b3];refine yD (fun m tm h nx=>∃ z1 z3 z7 z8 z9,tm=(jc.fr b z1 g z3 f l p z7 z8 z9)/\Inv m z7 h nx) ?_ hm ⟨_,_,_,_,_,rfl,hi⟩;rintro m tm h nx R ⟨z1,z3,z7,z8,z9,rfl,hi⟩ hR;refine Eq.trans ?_ (step m z1 z3 z7 z8 z9 h nx R hi fun m' w1 w3 w7 w8 w9 h' nx' hlt hi'=>hR m' _ h' nx' hlt ⟨_,_,_,_,_,rfl,hi'⟩)
 kernel_rfl
theorem jc.k10:IR.run jc.b10 C N (fnO jc.res K0) K (jc.fr b d g i f l p s u v) h nx =
 K0 (I 0) h nx:=by kernel_rfl
theorem jc.k9 {E0:Ks Prop}:IR.run jc.b9 C N ((fnO jc.res K0).blk 0 E0) K (jc.fr b d g i f l p s u v) h nx =
 zk .add .int s (I 1) fun v1=>K (jc.fr b d g i f l p v1 u v) h nx:=by kernel_rfl
theorem jc.k8 {E0 E1:Ks Prop}:IR.run jc.b8 C N (((fnO jc.res K0).blk 0 E0).blk 1 E1) K (jc.fr b d g i f l p s u v) h nx =
 zK 1 g i fun v1=>zM 1 v1 (.bool true) h nx fun v2 h3 n4=>K (jc.fr b d g i f l p s u v) h3 n4:=by kernel_rfl
theorem F72.xq (X2:IR) (O:ji Prop) (t:T AV):IR.run (F72.g1 X2) C N O K t h nx=IR.run X2 C N (O.blk 0 K) K t h nx:=by kernel_rfl
theorem F72.tab:T.get none (.of 72) tbl=some F72:=by kernel_rfl
theorem F72.go:zP tbl N C (.of 72) [a0] h nx K0 =
 sLen a0 fun v1=>IR.run F72.b1 C N (fnO F72.res K0) (IR.run F72.b8 C N (fnO F72.res K0) (qw F72.res K0)) (F72.fr a0 (I 0) .undef a0 v1 (I 0) .undef .undef) h nx:=by
 rw [zH F72.tab];kernel_rfl
theorem F72.L1 (Inv:Nat->AV->T Blk->Pa->Prop) {m:Nat} (hm:m<N) (hi:Inv m l h nx)
  (step:∀ (m:Nat) (z1 z2 z5 z6 z7:AV) (h:T Blk) (nx:Pa) (R:Ks Prop),Inv m z5 h nx->(∀ (m':Nat) (w1 w2 w5 w6 w7:AV) (h':T Blk) (nx':Pa),m'<m->Inv m' w5 h' nx'->R (F72.fr b w1 w2 i f w5 w6 w7) h' nx'=.ok True) ->
   (zk .lss .int z5 f fun v1=>zO v1 (zK 1 i z5 fun v2=>zF v2 h fun v3=>zk .neq .int v3 (I 0) fun v4=>zO v4 (K0 v3 h nx) (zk .add .int z5 (I 1) fun v5=>R (F72.fr b z1 v3 i f v5 v1 v4) h nx)) (K (F72.fr b z1 z2 i f z5 v1 z7) h nx))=.ok True) :
  IR.run F72.b1 C N (fnO F72.res K0) K (F72.fr b d g i f l p s) h nx=.ok True:=by
 rw [F72.b1,F72.xq,F72.b2];refine yD (fun m tm h nx=>∃ z1 z2 z5 z6 z7,tm=(F72.fr b z1 z2 i f z5 z6 z7)/\Inv m z5 h nx) ?_ hm ⟨_,_,_,_,_,rfl,hi⟩;rintro m tm h nx R ⟨z1,z2,z5,z6,z7,rfl,hi⟩ hR;refine Eq.trans ?_ (step m z1 z2 z5 z6 z7 h nx R hi fun m' w1 w2 w5 w6 w7 h' nx' hlt hi'=>hR m' _ h' nx' hlt ⟨_,_,_,_,_,rfl,hi'⟩)
 kernel_rfl
theorem F72.k8:IR.run F72.b8 C N (fnO F72.res K0) K (F72.fr b d g i f l p s) h nx =
 K0 (I 0) h nx:=by kernel_rfl
theorem aP.tab:T.get none (.of 125) tbl=some aP:=by kernel_rfl
theorem aP.go:zP tbl N C (.of 125) [a0] h nx K0 =
 zk .lss .int a0 (I 0) fun v1=>sG v1 false (fun k=>k a0) fun v2=>sG v1 false (fun k=>zk .gtr .int v2 (I 256) k) fun v3=>jR v1 (.bool true) v3 fun v4=>C.fn 76 (.of 76) [v4,(I 3)] h nx fun v5 h6 n7=>K0 v5 h6 n7:=by
 rw [zH aP.tab];kernel_rfl
theorem F76.tab:T.get none (.of 76) tbl=some F76:=by kernel_rfl
theorem F76.go:zP tbl N C (.of 76) [a0,a1] h nx K0 =
 zO a0 (K0 a1 h nx) (K0 (I 0) h nx):=by
 rw [zH F76.tab];kernel_rfl
theorem zu.zry (X14:IR) (O:ji Prop) (t:T AV):IR.run (zu.g13 X14) C N O K t h nx=IR.run X14 C N (O.blk 4 K) K t h nx:=by kernel_rfl
theorem zu.zld (X8:IR) (O:ji Prop) (t:T AV):IR.run (zu.g7 X8) C N O K t h nx=IR.run X8 C N (O.blk 2 K) K t h nx:=by kernel_rfl
theorem zu.tab:T.get none (.of 200) tbl=some zu:=by kernel_rfl
theorem zu.go:zP tbl N C (.of 200) [a0,a1,a2] h nx K0 =
 bU a2 h nx fun v1 h2 n3=>yJ [.qc] h2 n3 fun v4 h5 n6=>yJ [.zf] h5 n6 fun v7 h8 n9=>yJ [(.bool false)] h8 n9 fun vA hG nH=>C.fn 248 (.of 248) [a1] hG nH fun vD hO nP=>yJ [.zf,(.bool false)] hO nP fun vG hF nG=>zM 2 vG vD hF nG fun vJ hD nE=>sChk (true&&(true&&true)) (zI 2 vG hD fun vM=>zI 2 vG hD fun vN=>C.fn 112 (.of 112) [vM] hD nE fun vO hC nD=>(zI 2 vG hC fun v52=>zR v52 vN ((zI 2 vG hC fun v51=>zR v51 vM (zc8 hC nD fun vT hK nL=>(zI 2 vG hK fun v50=>zR v50 vN ((zI 2 vG hK fun v49=>zR v49 vM (oZ .str vT vO vN hK nL fun vQ hL nM=>(zI 2 vG hL fun v48=>zR v48 vN ((zI 2 vG hL fun v47=>zR v47 vM (yJ [.qc] hL nM fun vY hM nN=>zR vT vT ((zI 2 vG hM fun v46=>zR v46 vN ((zI 2 vG hM fun v45=>zR v45 vM (zM 1 vY vT hM nN fun vZ hU nU=>yJ [.zf] hU nU fun v39 hV nV=>C.fn 86 (.of 86) [a0] hV nV fun v42 hW nW=>IR.run (.rf (.t (.of 14)) [(.of 15),(.of 16)] zu.b3 zu.b4) C N ((fnO zu.res K0).blk 0 (IR.run zu.b23 C N (fnO zu.res K0) (qw zu.res K0))) (IR.run zu.b23 C N (fnO zu.res K0) (qw zu.res K0)) (zu.fr a0 a1 a2 v1 v4 v7 vA vG vY v39 .undef .undef .undef .undef v42 .undef .undef .undef .undef .undef .undef .undef .undef .undef .undef) hW nW)))))))))))))))))):=by
 rw [zH zu.tab];kernel_rfl
theorem zu.k23:IR.run zu.b23 C N (fnO zu.res K0) K (zu.fr b d g i f l p s u v a c e o q w y z A B G E D F H) h nx =
 zF u h fun v1=>zF v h fun v2=>zM 1 f v1 h nx fun v3 h4 n5=>(zF v h4 fun vF=>zR vF v2 (zM 1 l v2 h4 n5 fun v6 h7 n8=>zM 1 p (.bool true) h7 n8 fun v9 hH nI=>zF f hH fun vC=>zF l hH fun vD=>zF p hH fun vE=>K0 (.tup [vC,vD,vE]) hH nI)):=by kernel_rfl
theorem zu.p4 {N:Nat} {C:Calls Prop} {K0:Kw Prop} {id nx:Pa} {j:Jump} {h:T Blk} {b d g i f l p s u v a c e o q w y z A B G E D F H z0 z1:AV} (hl:T.get .no id h=.loop .ready j (zu.fr b d g i f l p s u v a c e o q w y z A B G E D F H) [.of 15,.of 16] zu.b3 zu.b4) :
 qV N C id [z0,z1] h nx K0 =
 yJ [.zf,(.bool false)] h nx fun v1 h2 n3=>zM 2 v1 z1 h2 n3 fun v4 h5 n6=>rMid N C id K0 zu.b4 (zu.fr b d g i f l p s u v v1 c e o q z0 z1 z A B G E D F H) h5 n6:=by
 rw [zc9 hl (tm1:=(zu.fr b d g i f l p s u v a c e o q z0 z1 z A B G E D F H)) (by intro k;kernel_rfl)];kernel_rfl
theorem zu.y4 {N:Nat} {C:Calls Prop} {K0:Kw Prop} {id nx:Pa} {h:T Blk} {b d g i f l p s u v a c e o q w y z A B G E D F H:AV} :
 IR.run zu.b4 C N (rO id K0) (yO id K0 .none true) (zu.fr b d g i f l p s u v a c e o q w y z A B G E D F H) h nx =
 zF u h fun v1=>zI 2 a h fun v2=>C.fn 249 (.of 249) [v1,v2] h nx fun v3 h4 n5=>zO v3 (yO id K0 .none true .e h4 n5) (zF v h4 fun v6=>zI 2 a h4 fun v7=>yU 2 1 [.zf,(.bool false)] [(0,2,v7)] h4 n5 fun v8 h9 nB=>vW C 2 32 v6 v8 h9 nB fun vB hB nC=>zM 1 v vB hB nC fun vE hA nA=>sChk (true&&true) (zI 2 s hA fun vH=>zI 2 s hA fun vI=>C.fn 112 (.of 112) [vH] hA nA fun vJ hD nE=>(zI 2 s hD fun v38=>zR v38 vI ((zI 2 s hD fun v37=>zR v37 vH (zc8 hD nE fun vM hJ nK=>(zI 2 s hJ fun vZ=>zR vZ vI ((zI 2 s hJ fun v35=>zR v35 vH (oZ .str vM vJ vI hJ nK fun vX hT nT=>zM 1 u vM hT nT fun vS hX nX=>zI 2 s hX fun vP=>yU 2 1 [.zf,(.bool false)] [(0,2,vP)] hX nX fun v32 hY nY=>IR.run zu.b7 C N ((rO id K0).blk 1 (yO id K0 .none true)) (yO id K0 .none true) (zu.fr b d g i f l p s u v a v32 e o q w y v3 A B G E D F H) hY nY)))))))))):=by kernel_rfl
theorem zu.L7 {id:Pa} {E1:Ks Prop} (Inv:Nat->AV->T Blk->Pa->Prop) {m:Nat} (hm:m<N) (hi:Inv m c h nx)
  (step:∀ (m:Nat) (zB zC zD zQ zS zT zX z22 zU zV:AV) (h:T Blk) (nx:Pa) (R:Ks Prop),Inv m zB h nx->(∀ (m':Nat) (wB wC wD wI wJ wK wO wU wL wM:AV) (h':T Blk) (nx':Pa),m'<m->Inv m' wB h' nx'->R (zu.fr b d g i f l p s u v a wB wC wD q w y z wI wJ wK wO wU wL wM) h' nx'=.ok True) ->
   (sLen zB fun v1=>zk .gtr .int v1 (I 0) fun v2=>zO v2 (zF v h fun v3=>sLen v3 fun v4=>IR.run zu.b13 C N ((((rO id K0).blk 1 E1).blk 2 K).blk 3 (IR.run zu.b22 C N (((rO id K0).blk 1 E1).blk 2 K) R)) (IR.run zu.b22 C N (((rO id K0).blk 1 E1).blk 2 K) R) (zu.fr b d g i f l p s u v a zB zC zD q w y z v2 v3 v4 (I 0) z22 zU zV) h nx) (K (zu.fr b d g i f l p s u v a zB zC zD q w y z v2 zS zT zX z22 zU zV) h nx))=.ok True) :
  IR.run zu.b7 C N ((rO id K0).blk 1 E1) K (zu.fr b d g i f l p s u v a c e o q w y z A B G E D F H) h nx=.ok True:=by
 rw [zu.b7,zu.zld,zu.b8];refine yD (fun m tm h nx=>∃ zB zC zD zQ zS zT zX z22 zU zV,tm=(zu.fr b d g i f l p s u v a zB zC zD q w y z zQ zS zT zX z22 zU zV)/\Inv m zB h nx) ?_ hm ⟨_,_,_,_,_,_,_,_,_,_,rfl,hi⟩;rintro m tm h nx R ⟨zB,zC,zD,zQ,zS,zT,zX,z22,zU,zV,rfl,hi⟩ hR;refine Eq.trans ?_ (step m zB zC zD zQ zS zT zX z22 zU zV h nx R hi fun m' wB wC wD wI wJ wK wO wU wL wM h' nx' hlt hi'=>hR m' _ h' nx' hlt ⟨_,_,_,_,_,_,_,_,_,_,rfl,hi'⟩)
 kernel_rfl
theorem zu.k22 {id:Pa} {E1 E2:Ks Prop}:IR.run zu.b22 C N (((rO id K0).blk 1 E1).blk 2 E2) K (zu.fr b d g i f l p s u v a c e o q w y z A B G E D F H) h nx =
 zda 2 c (some (I 1)) none none fun v1=>K (zu.fr b d g i f l p s u v a v1 e o q w y z A B G E D F H) h nx:=by kernel_rfl
theorem zu.L13 {id:Pa} {E1 E2 E3:Ks Prop} (Inv:Nat->AV->AV->T Blk->Pa->Prop) {m:Nat} (hm:m<N) (hi:Inv m c E h nx)
  (step:∀ (m:Nat) (zB zC zD zX z22 zU zV:AV) (h:T Blk) (nx:Pa) (R:Ks Prop),Inv m zB zX h nx->(∀ (m':Nat) (wB wC wD wO wU wL wM:AV) (h':T Blk) (nx':Pa),m'<m->Inv m' wB wO h' nx'->R (zu.fr b d g i f l p s u v a wB wC wD q w y z A B G wO wU wL wM) h' nx'=.ok True) ->
   (zk .lss .int zX G fun v1=>zO v1 (zK 2 B zX fun v2=>zI 2 v2 h fun v3=>yJ [.zf,(.bool false)] h nx fun v4 h5 n6=>zM 2 v4 v3 h5 n6 fun v7 h8 n9=>sChk (true&&true) (zI 2 v4 h8 fun vA=>zK 2 zB (I 0) fun vB=>zI 2 vB h8 fun vC=>C.fn 250 (.of 250) [vA,vC] h8 n9 fun vD hO nP=>(zI 2 vB hO fun v65=>zR v65 vC ((zK 2 zB (I 0) fun v64=>zR v64 vB (zR zB zB ((zI 2 v4 hO fun v63=>zR v63 vA (yJ [.zf,(.bool false)] hO nP fun vG hF nG=>(zI 2 vB hF fun v62=>zR v62 vC ((zK 2 zB (I 0) fun v61=>zR v61 vB (zR zB zB ((zI 2 v4 hF fun v60=>zR v60 vA (zM 2 vG vD hF nG fun vJ hD nE=>zF u hD fun vM=>zI 2 vG hD fun vN=>C.fn 249 (.of 249) [vM,vN] hD nE fun vO hC nD=>zO vO (zk .add .int zX (I 1) fun vT=>R (zu.fr b d g i f l p s u v a zB v4 vG q w y z A B G vT v1 vO zV) hC nD) (zF u hC fun vS=>zif vS hC fun vR=>zF i hC fun vQ=>zk .eql .int vR vQ fun vP=>zO vP (zM 1 f .qc hC nD fun v32 hY nY=>zM 1 l .zf hY nY fun v35 hZ nZ=>zM 1 p (.bool false) hZ nZ fun v38 h39 n40=>yO id K0 .ret false .e h39 n40) (zF u hC fun v41=>zI 2 vG hC fun v42=>zI 2 vG hC fun v43=>C.fn 112 (.of 112) [v42] hC nD fun v44 h45 n46=>(zI 2 vG h45 fun v59=>zR v59 v43 ((zF u h45 fun v58=>zR v58 v41 (oZ .str v41 v44 v43 h45 n46 fun v47 h48 n49=>zI 2 vG h48 fun v50=>yU 2 1 [.zf,(.bool false)] [(0,2,v50)] h48 n49 fun v51 h52 n53=>vW C 2 32 zB v51 h52 n53 fun v54 h55 n56=>zk .add .int zX (I 1) fun v57=>R (zu.fr b d g i f l p s u v a v54 v4 vG q w y z A B G v57 v1 vO vP) h55 n56)))))))))))))))))))))) (K (zu.fr b d g i f l p s u v a zB zC zD q w y z A B G zX v1 zU zV) h nx))=.ok True) :
  IR.run zu.b13 C N ((((rO id K0).blk 1 E1).blk 2 E2).blk 3 E3) K (zu.fr b d g i f l p s u v a c e o q w y z A B G E D F H) h nx=.ok True:=by
 rw [zu.b13,zu.zry,zu.b14];refine yD (fun m tm h nx=>∃ zB zC zD zX z22 zU zV,tm=(zu.fr b d g i f l p s u v a zB zC zD q w y z A B G zX z22 zU zV)/\Inv m zB zX h nx) ?_ hm ⟨_,_,_,_,_,_,_,rfl,hi⟩;rintro m tm h nx R ⟨zB,zC,zD,zX,z22,zU,zV,rfl,hi⟩ hR;refine Eq.trans ?_ (step m zB zC zD zX z22 zU zV h nx R hi fun m' wB wC wD wO wU wL wM h' nx' hlt hi'=>hR m' _ h' nx' hlt ⟨_,_,_,_,_,_,_,rfl,hi'⟩)
 kernel_rfl
theorem yu.tab:T.get none (.of 143) tbl=some yu:=by kernel_rfl
theorem yu.go:zP tbl N C (.of 143) [a0,a1] h nx K0 =
 bU a0 h nx fun v1 h2 n3=>yJ [.qc] h2 n3 fun v4 h5 n6=>yJ [.zf] h5 n6 fun v7 h8 n9=>yJ [(I 0)] h8 n9 fun vA hG nH=>zF v1 hG fun vD=>sLen vD fun vE=>zk .eql .int vE (I 0) fun vF=>zF v1 hG fun vG=>sLen vG fun vH=>zk .gtr .int vH (I 1536) fun vI=>C.fn 125 (.of 125) [a1] hG nH fun vJ hD nE=>(zk .gtr .int vH (I 1536) fun v76=>zR v76 vI ((sLen vG fun v75=>zR v75 vH ((zF v1 hD fun v74=>zR v74 vG ((zk .eql .int vE (I 0) fun v73=>zR v73 vF ((sLen vD fun v72=>zR v72 vE ((zF v1 hD fun v71=>zR v71 vD (C.fn 76 (.of 76) [vF,(I 12)] hD nE fun vM hJ nK=>(zk .gtr .int vH (I 1536) fun v70=>zR v70 vI ((sLen vG fun v69=>zR v69 vH ((zF v1 hJ fun v68=>zR v68 vG (C.fn 76 (.of 76) [vI,(I 5)] hJ nK fun vX hT nT=>yU 1 3 [(I 0)] [(0,1,vJ),(1,1,vM),(2,1,vX)] hT nT fun vS hX nX=>C.fn 72 (.of 72) [vS] hX nX fun vP h32 n33=>zk .neq .int vP (I 0) fun v34=>zO v34 (zM 1 v4 .qc h32 n33 fun v35 hZ nZ=>zM 1 v7 .zf hZ nZ fun v38 h39 n40=>zM 1 vA vP h39 n40 fun v41 h42 n43=>zF v4 h42 fun v44=>zF v7 h42 fun v45=>zF vA h42 fun v46=>K0 (.tup [v44,v45,v46]) h42 n43) (zF v1 h32 fun v47=>C.fn 199 (.of 199) [v47,a1] h32 n33 fun v48 h49 n50=>zk .neq .int v48 (I 0) fun v51=>zO v51 (zM 1 v4 .qc h49 n50 fun v52 h53 n54=>zM 1 v7 .zf h53 n54 fun v55 h56 n57=>zM 1 vA v48 h56 n57 fun v58 h59 n60=>zF v4 h59 fun v61=>zF v7 h59 fun v62=>zF vA h59 fun v63=>K0 (.tup [v61,v62,v63]) h59 n60) (zF v1 h49 fun v64=>C.fn 86 (.of 86) [v64] h49 n50 fun v65 h66 n67=>IR.run (.rf (.t (.of 15)) [(.of 16),(.of 17)] yu.b5 yu.b6) C N ((fnO yu.res K0).blk 0 (IR.run yu.b8 C N (fnO yu.res K0) (qw yu.res K0))) (IR.run yu.b8 C N (fnO yu.res K0) (qw yu.res K0)) (yu.fr a0 a1 v1 v4 v7 vA vP v48 .undef .undef .undef .undef .undef v34 v51 v65 .undef .undef .undef .undef) h66 n67)))))))))))))))))))):=by
 rw [zH yu.tab];kernel_rfl
theorem yu.k8:IR.run yu.b8 C N (fnO yu.res K0) K (yu.fr b d g i f l p s u v a c e o q w y z A B) h nx =
 zF g h fun v1=>zF g h fun v2=>sLen v2 fun v3=>C.fn 200 (.of 200) [v1,d,v3] h nx fun v4 h5 n6=>fB 0 v4 fun v7=>fB 1 v4 fun v8=>fB 2 v4 fun v9=>sNot v9 fun vA=>sG vA false (fun k=>k v7) fun vB=>sG vA false (fun k=>zif vB h5 k) fun vC=>sG vA false (fun k=>zF g h5 k) fun vD=>sG vA false (fun k=>sLen vD k) fun vE=>sG vA false (fun k=>zk .neq .int vC vE k) fun vF=>jR vA (.bool true) vF fun vG=>zO vG (zM 1 i .qc h5 n6 fun vH hN nO=>zM 1 f .zf hN nO fun vK hP nQ=>zM 1 l (I 28) hP nQ fun vN hE nF=>zF i hE fun vU=>zF f hE fun vT=>zF l hE fun vS=>K0 (.tup [vU,vT,vS]) hE nF) ((IR.run yu.b9 C N (fnO yu.res K0) K) (yu.fr b d g i f l p s u v v7 v8 v9 o q w y z A vG) h5 n6):=by kernel_rfl
theorem yu.p6 {N:Nat} {C:Calls Prop} {K0:Kw Prop} {id nx:Pa} {j:Jump} {h:T Blk} {b d g i f l p s u v a c e o q w y z A B z0 z1:AV} (hl:T.get .no id h=.loop .ready j (yu.fr b d g i f l p s u v a c e o q w y z A B) [.of 16,.of 17] yu.b5 yu.b6) :
 qV N C id [z0,z1] h nx K0 =
 yJ [.zf,(.bool false)] h nx fun v1 h2 n3=>zM 2 v1 z1 h2 n3 fun v4 h5 n6=>rMid N C id K0 yu.b6 (yu.fr b d g i f l p s z0 v1 a c e o q w z0 z1 A B) h5 n6:=by
 rw [zc9 hl (tm1:=(yu.fr b d g i f l p s u v a c e o q w z0 z1 A B)) (by intro k;kernel_rfl)];kernel_rfl
theorem yu.y6 {N:Nat} {C:Calls Prop} {K0:Kw Prop} {id nx:Pa} {h:T Blk} {b d g i f l p s u v a c e o q w y z A B:AV} :
 IR.run yu.b6 C N (rO id K0) (yO id K0 .none true) (yu.fr b d g i f l p s u v a c e o q w y z A B) h nx =
 zk .gtr .int u (I 0) fun v1=>sG v1 true (fun k=>zF g h k) fun v2=>sG v1 true (fun k=>k u) fun v3=>sG v1 true (fun k=>zk .sub .int v3 (I 1) k) fun v4=>sG v1 true (fun k=>zK 2 v2 v4 k) fun v5=>sG v1 true (fun k=>zI 2 v5 h k) fun v6=>sG v1 true (fun k=>zI 2 v h k) fun v7=>sGW v1 true (fun k=>C.fn 114 (.of 114) [v6,v7] h nx k) h nx fun v8 h9 nB=>sG v1 true (fun k=>zk .geq .int v8 (I 0) k) fun vB=>jR v1 vB (.bool false) fun vC=>zO vC (zM 1 i .qc h9 nB fun vD hO nP=>zM 1 f .zf hO nP fun vG hF nG=>zM 1 l (I 11) hF nG fun vJ hD nE=>yO id K0 .ret false .e hD nE) (yO id K0 .none true .e h9 nB):=by kernel_rfl
theorem yu.k9:IR.run yu.b9 C N (fnO yu.res K0) K (yu.fr b d g i f l p s u v a c e o q w y z A B) h nx =
 zM 1 i a h nx fun v1 h2 n3=>zM 1 f c h2 n3 fun v4 h5 n6=>zM 1 l (I 0) h5 n6 fun v7 h8 n9=>zF i h8 fun vA=>zF f h8 fun vB=>zF l h8 fun vC=>K0 (.tup [vA,vB,vC]) h8 n9:=by kernel_rfl
theorem F60.xq (X2:IR) (O:ji Prop) (t:T AV):IR.run (F60.g1 X2) C N O K t h nx=IR.run X2 C N (O.blk 0 K) K t h nx:=by kernel_rfl
theorem F60.zld (X8:IR) (O:ji Prop) (t:T AV):IR.run (F60.g7 X8) C N O K t h nx=IR.run X8 C N (O.blk 2 K) K t h nx:=by kernel_rfl
theorem F60.tab:T.get none (.of 60) tbl=some F60:=by kernel_rfl
theorem F60.go:zP tbl N C (.of 60) [a0] h nx K0 =
 zgh a0 h nx fun v1 h2 n3=>IR.run F60.b1 C N (fnO F60.res K0) (IR.run F60.b6 C N (fnO F60.res K0) (qw F60.res K0)) (F60.fr a0 .zf .zf .undef .undef .undef v1 .undef .undef .undef .undef .undef) h2 n3:=by
 rw [zH F60.tab];kernel_rfl
theorem F60.L1 (Inv:Nat->AV->T Blk->Pa->Prop) {m:Nat} (hm:m<N) (hi:Inv m g h nx)
  (step:∀ (m:Nat) (z2 z3 z7:AV) (h:T Blk) (nx:Pa) (R:Ks Prop),Inv m z2 h nx->(∀ (m':Nat) (w2 w3 w7:AV) (h':T Blk) (nx':Pa),m'<m->Inv m' w2 h' nx'->R (F60.fr b d w2 w3 f l p w7 u v a c) h' nx'=.ok True) ->
   (zle C p h nx fun v1 h2 n3=>fB 0 v1 fun v4=>zO v4 (zgi p h2 fun v5=>fB 1 v5 fun v6=>yJ [.zf,(.bool false)] h2 n3 fun v7 h8 n9=>zM 2 v7 v6 h8 n9 fun vA hG nH=>zI 2 v7 hG fun vD=>yU 2 1 [.zf,(.bool false)] [(0,2,vD)] hG nH fun vE hA nA=>vW C 2 32 z2 vE hA nA fun vH hN nO=>R (F60.fr b d vH v7 f l p v4 u v a c) hN nO) (K (F60.fr b d z2 z3 f l p v4 u v a c) h2 n3))=.ok True) :
  IR.run F60.b1 C N (fnO F60.res K0) K (F60.fr b d g i f l p s u v a c) h nx=.ok True:=by
 rw [F60.b1,F60.xq,F60.b2];refine yD (fun m tm h nx=>∃ z2 z3 z7,tm=(F60.fr b d z2 z3 f l p z7 u v a c)/\Inv m z2 h nx) ?_ hm ⟨_,_,_,rfl,hi⟩;rintro m tm h nx R ⟨z2,z3,z7,rfl,hi⟩ hR;refine Eq.trans ?_ (step m z2 z3 z7 h nx R hi fun m' w2 w3 w7 h' nx' hlt hi'=>hR m' _ h' nx' hlt ⟨_,_,_,rfl,hi'⟩)
 kernel_rfl
theorem F60.k6:IR.run F60.b6 C N (fnO F60.res K0) K (F60.fr b d g i f l p s u v a c) h nx =
 C.fn 113 (.of 113) [g,(.fn 114 (.of 114) [])] h nx fun v1 h2 n3=>sLen g fun v4=>IR.run F60.b7 C N (fnO F60.res K0) (IR.run F60.b14 C N (fnO F60.res K0) K) (F60.fr b d g i .zf l p s g v4 (I 0) c) h2 n3:=by kernel_rfl
theorem F60.L7 (Inv:Nat->AV->AV->T Blk->Pa->Prop) {m:Nat} (hm:m<N) (hi:Inv m f a h nx)
  (step:∀ (m:Nat) (z4 z5 zA zB:AV) (h:T Blk) (nx:Pa) (R:Ks Prop),Inv m z4 zA h nx->(∀ (m':Nat) (w4 w5 wA wB:AV) (h':T Blk) (nx':Pa),m'<m->Inv m' w4 wA h' nx'->R (F60.fr b d g i w4 w5 p s u v wA wB) h' nx'=.ok True) ->
   (zk .lss .int zA v fun v1=>zO v1 (zK 2 u zA fun v2=>zI 2 v2 h fun v3=>yJ [.zf,(.bool false)] h nx fun v4 h5 n6=>zM 2 v4 v3 h5 n6 fun v7 h8 n9=>zI 2 v4 h8 fun vA=>yU 2 1 [.zf,(.bool false)] [(0,2,vA)] h8 n9 fun vB hB nC=>vW C 2 32 z4 vB hB nC fun vE hA nA=>zk .add .int zA (I 1) fun vH=>R (F60.fr b d g i vE v4 p s u v vH v1) hA nA) (K (F60.fr b d g i z4 z5 p s u v zA v1) h nx))=.ok True) :
  IR.run F60.b7 C N (fnO F60.res K0) K (F60.fr b d g i f l p s u v a c) h nx=.ok True:=by
 rw [F60.b7,F60.zld,F60.b8];refine yD (fun m tm h nx=>∃ z4 z5 zA zB,tm=(F60.fr b d g i z4 z5 p s u v zA zB)/\Inv m z4 zA h nx) ?_ hm ⟨_,_,_,_,rfl,hi⟩;rintro m tm h nx R ⟨z4,z5,zA,zB,rfl,hi⟩ hR;refine Eq.trans ?_ (step m z4 z5 zA zB h nx R hi fun m' w4 w5 wA wB h' nx' hlt hi'=>hR m' _ h' nx' hlt ⟨_,_,_,_,rfl,hi'⟩)
 kernel_rfl
theorem F60.k14:IR.run F60.b14 C N (fnO F60.res K0) K (F60.fr b d g i f l p s u v a c) h nx =
 K0 f h nx:=by kernel_rfl
end Go.Ev
namespace Go.Ev
open Go Go.Proofs
set_option maxRecDepth 100000
section
variable {N:Nat} {C:Calls Prop} {K0:Kw Prop} {K:Ks Prop} {h:T Blk} {nx:Pa} {b d g i f l p s u v a c a0 a1:AV} {O:ji Prop} {tm:T AV} {Kt:KTm} {r:List RO} {s0 s1 s2 s3 s4 s5 s6 s7 s8 s9 s10 s11 s12 s13 s14 s15 s16 s17 s18 s19 s20 s21 s22 s23 s24 s25 s26 s27 s28 s29 s30 s31 s32 s33 s34 s35 s36 s37 s38 s39 s40 s41 s42 s43 s44 s45 s46 s47 s48 s49 s50 s51 s52 s53 s54 s55 s56 s57 s58 s59:AV}
end
end Go.Ev
namespace Go.Ev
open Go Go.Proofs
set_option maxRecDepth 100000
section
variable {N:Nat} {C:Calls Prop} {K0:Kw Prop} {K:Ks Prop} {h:T Blk} {nx:Pa} {b d a0:AV} {O:ji Prop} {tm:T AV} {Kt:KTm} {r:List RO} {s0 s1 s2 s3 s4 s5 s6 s7 s8 s9 s10 s11 s12 s13 s14 s15 s16 s17 s18 s19 s20 s21 s22 s23 s24 s25 s26 s27 s28 s29 s30 s31 s32 s33 s34 s35 s36 s37 s38 s39 s40 s41 s42 s43 s44 s45 s46 s47 s48 s49 s50 s51 s52 s53 s54 s55 s56 s57 s58 s59:AV}
end
end Go.Ev
namespace Go.Ev
open Go Go.Proofs
set_option maxRecDepth 100000
section
variable {N:Nat} {C:Calls Prop} {K0:Kw Prop} {K:Ks Prop} {h:T Blk} {nx:Pa} {b d a0:AV} {O:ji Prop} {tm:T AV} {Kt:KTm} {r:List RO} {s0 s1 s2 s3 s4 s5 s6 s7 s8 s9 s10 s11 s12 s13 s14 s15 s16 s17 s18 s19 s20 s21 s22 s23 s24 s25 s26 s27 s28 s29 s30 s31 s32 s33 s34 s35 s36 s37 s38 s39 s40 s41 s42 s43 s44 s45 s46 s47 s48 s49 s50 s51 s52 s53 s54 s55 s56 s57 s58 s59:AV}
end
end Go.Ev
namespace Go.Ev
open Go Go.Proofs
set_option maxRecDepth 100000
section
variable {N:Nat} {C:Calls Prop} {K0:Kw Prop} {K:Ks Prop} {h:T Blk} {nx:Pa} {b d g a0:AV} {O:ji Prop} {tm:T AV} {Kt:KTm} {r:List RO} {s0 s1 s2 s3 s4 s5 s6 s7 s8 s9 s10 s11 s12 s13 s14 s15 s16 s17 s18 s19 s20 s21 s22 s23 s24 s25 s26 s27 s28 s29 s30 s31 s32 s33 s34 s35 s36 s37 s38 s39 s40 s41 s42 s43 s44 s45 s46 s47 s48 s49 s50 s51 s52 s53 s54 s55 s56 s57 s58 s59:AV}
end
end Go.Ev
namespace Go.Ev
open Go Go.Proofs
set_option maxRecDepth 100000
section
variable {N:Nat} {C:Calls Prop} {K0:Kw Prop} {K:Ks Prop} {h:T Blk} {nx:Pa} {b d g i f a0:AV} {O:ji Prop} {tm:T AV} {Kt:KTm} {r:List RO} {s0 s1 s2 s3 s4 s5 s6 s7 s8 s9 s10 s11 s12 s13 s14 s15 s16 s17 s18 s19 s20 s21 s22 s23 s24 s25 s26 s27 s28 s29 s30 s31 s32 s33 s34 s35 s36 s37 s38 s39 s40 s41 s42 s43 s44 s45 s46 s47 s48 s49 s50 s51 s52 s53 s54 s55 s56 s57 s58 s59:AV}
end
end Go.Ev
namespace Go.Ev
open Go Go.Proofs
set_option maxRecDepth 100000
section
variable {N:Nat} {C:Calls Prop} {K0:Kw Prop} {K:Ks Prop} {h:T Blk} {nx:Pa} {b d g i f l a0 a1:AV} {O:ji Prop} {tm:T AV} {Kt:KTm} {r:List RO} {s0 s1 s2 s3 s4 s5 s6 s7 s8 s9 s10 s11 s12 s13 s14 s15 s16 s17 s18 s19 s20 s21 s22 s23 s24 s25 s26 s27 s28 s29 s30 s31 s32 s33 s34 s35 s36 s37 s38 s39 s40 s41 s42 s43 s44 s45 s46 s47 s48 s49 s50 s51 s52 s53 s54 s55 s56 s57 s58 s59:AV}
end
end Go.Ev
namespace Go.Ev
open Go Go.Proofs
set_option maxRecDepth 100000
section
variable {N:Nat} {C:Calls Prop} {K0:Kw Prop} {K:Ks Prop} {h:T Blk} {nx:Pa} {b d g i f l p a0 a1:AV} {O:ji Prop} {tm:T AV} {Kt:KTm} {r:List RO} {s0 s1 s2 s3 s4 s5 s6 s7 s8 s9 s10 s11 s12 s13 s14 s15 s16 s17 s18 s19 s20 s21 s22 s23 s24 s25 s26 s27 s28 s29 s30 s31 s32 s33 s34 s35 s36 s37 s38 s39 s40 s41 s42 s43 s44 s45 s46 s47 s48 s49 s50 s51 s52 s53 s54 s55 s56 s57 s58 s59:AV}
end
end Go.Ev
namespace Go.Ev
open Go Go.Proofs
set_option maxRecDepth 100000
section
variable {N:Nat} {C:Calls Prop} {K0:Kw Prop} {K:Ks Prop} {h:T Blk} {nx:Pa} {b d g i f l p s u v a c a0 a1:AV} {O:ji Prop} {tm:T AV} {Kt:KTm} {r:List RO} {s0 s1 s2 s3 s4 s5 s6 s7 s8 s9 s10 s11 s12 s13 s14 s15 s16 s17 s18 s19 s20 s21 s22 s23 s24 s25 s26 s27 s28 s29 s30 s31 s32 s33 s34 s35 s36 s37 s38 s39 s40 s41 s42 s43 s44 s45 s46 s47 s48 s49 s50 s51 s52 s53 s54 s55 s56 s57 s58 s59:AV}
end
end Go.Ev
namespace Go.Ev
open Go Go.Proofs
set_option maxRecDepth 100000
section
variable {N:Nat} {C:Calls Prop} {K0:Kw Prop} {K:Ks Prop} {h:T Blk} {nx:Pa} {b d g i f a0 a1:AV} {O:ji Prop} {tm:T AV} {Kt:KTm} {r:List RO} {s0 s1 s2 s3 s4 s5 s6 s7 s8 s9 s10 s11 s12 s13 s14 s15 s16 s17 s18 s19 s20 s21 s22 s23 s24 s25 s26 s27 s28 s29 s30 s31 s32 s33 s34 s35 s36 s37 s38 s39 s40 s41 s42 s43 s44 s45 s46 s47 s48 s49 s50 s51 s52 s53 s54 s55 s56 s57 s58 s59:AV}
end
end Go.Ev
namespace Go.Ev
open Go Go.Proofs
set_option maxRecDepth 100000
section
variable {N:Nat} {C:Calls Prop} {K0:Kw Prop} {K:Ks Prop} {h:T Blk} {nx:Pa} {b d g i f l p s u v a a0 a1:AV} {O:ji Prop} {tm:T AV} {Kt:KTm} {r:List RO} {s0 s1 s2 s3 s4 s5 s6 s7 s8 s9 s10 s11 s12 s13 s14 s15 s16 s17 s18 s19 s20 s21 s22 s23 s24 s25 s26 s27 s28 s29 s30 s31 s32 s33 s34 s35 s36 s37 s38 s39 s40 s41 s42 s43 s44 s45 s46 s47 s48 s49 s50 s51 s52 s53 s54 s55 s56 s57 s58 s59:AV}
end
end Go.Ev
namespace Go.Ev
open Go Go.Proofs
set_option maxRecDepth 100000
section
variable {N:Nat} {C:Calls Prop} {K0:Kw Prop} {K:Ks Prop} {h:T Blk} {nx:Pa} {b d g i f l p s u v a c e a0:AV} {O:ji Prop} {tm:T AV} {Kt:KTm} {r:List RO} {s0 s1 s2 s3 s4 s5 s6 s7 s8 s9 s10 s11 s12 s13 s14 s15 s16 s17 s18 s19 s20 s21 s22 s23 s24 s25 s26 s27 s28 s29 s30 s31 s32 s33 s34 s35 s36 s37 s38 s39 s40 s41 s42 s43 s44 s45 s46 s47 s48 s49 s50 s51 s52 s53 s54 s55 s56 s57 s58 s59:AV}
def zh.t0:IR:=.reg [.w (.loc (.of 1)) none (.box (.t (.of 0))),.q (.of 2) (.mv (.c .zf))]
def zh.t1:IR:=.reg [.q (.of 3) (.mv (.c .zf))]
def zh.t2:IR:=.reg [.s (.zn 0 (.t (.of 1))),.s (.load (.s 0)),.s (.len (.s 0)),.w .push none (.ql 1 1 [(.bool false)] (.s 0) (.s 0)),.q (.of 4) (.mv (.s 0))]
def zh.t3:IR:=.reg [.s (.zn 0 (.t (.of 1))),.s (.load (.s 0)),.q (.of 8) (.len (.s 0)),.q (.of 9) (.mv (.c (I 0)))]
def zh.t4:IR:=.reg [.q (.of 10) (.bin .lss .int (.t (.of 9)) (.t (.of 8)))]
def zh.t5:IR:=.cond (.t (.of 10)) .skip (.exit 0)
def zh.t6:IR:=.reg [.s (.mv (.t (.of 9))),.q (.of 5) (.mv (.s 0))]
def zh.t7:IR:=.reg [.q (.of 6) (.mv (.c (I 0)))]
def zh.t8:IR:=.reg [.s (.mv (.t (.of 5))),.q (.of 7) (.mv (.s 0))]
def zh.t9:IR:=.reg [.s (.mv (.t (.of 4))),.s (.mv (.t (.of 7))),.s (.zo 1 (.s 1) (.s 0)),.s (.load (.s 0)),.q (.of 11) (.not (.s 0))]
def zh.t10:IR:=.cond (.t (.of 11)) .skip (.exit 2)
def zh.t11:IR:=.seq zh.t9 zh.t10
def zh.t12:IR:=.reg [.s (.mv (.t (.of 4))),.s (.mv (.t (.of 7))),.s (.zo 1 (.s 1) (.s 0)),.w .none none (.store 1 (.s 0) (.c (.bool true)))]
def zh.t13:IR:=.reg [.s (.mv (.t (.of 6))),.s (.bin .add .int (.s 0) (.c (I 1))),.q (.of 6) (.mv (.s 0))]
def zh.t14:IR:=.seq zh.t12 zh.t13
def zh.t15:IR:=.block 3 zh.t14
def zh.t16:IR:=.reg [.s (.zn 0 (.t (.of 1))),.s (.load (.s 0)),.s (.mv (.t (.of 7))),.s (.zo 1 (.s 1) (.s 0)),.s (.load (.s 0)),.q (.of 7) (.mv (.s 0))]
def zh.t17:IR:=.seq zh.t15 zh.t16
def zh.t18:IR:=.seq zh.t11 zh.t17
def zh.t19:IR:=.loop zh.t18
def zh.t20:IR:=.block 2 zh.t19
def zh.t21:IR:=.seq zh.t8 zh.t20
def zh.t22:IR:=.reg [.s (.mv (.t (.of 6))),.q (.of 12) (.bin .gtr .int (.s 0) (.c (I 0)))]
def zh.t23:IR:=.reg [.s (.mv (.t (.of 3))),.s (.mv (.t (.of 6))),.w .push none (.yg 1 1 [(I 0)] [(0,1,(.s 0))]),.w .push none (.app 1 8 (.s 2) (.s 0)),.q (.of 3) (.mv (.s 0))]
def zh.t24:IR:=.cond (.t (.of 12)) zh.t23 .skip
def zh.t25:IR:=.seq zh.t22 zh.t24
def zh.t26:IR:=.seq zh.t21 zh.t25
def zh.t27:IR:=.seq zh.t7 zh.t26
def zh.t28:IR:=.seq zh.t6 zh.t27
def zh.t29:IR:=.block 1 zh.t28
def zh.t30:IR:=.reg [.s (.bin .add .int (.t (.of 9)) (.c (I 1))),.q (.of 9) (.mv (.s 0))]
def zh.t31:IR:=.seq zh.t29 zh.t30
def zh.t32:IR:=.seq zh.t5 zh.t31
def zh.t33:IR:=.seq zh.t4 zh.t32
def zh.t34:IR:=.loop zh.t33
def zh.t35:IR:=.block 0 zh.t34
def zh.t36:IR:=.seq zh.t3 zh.t35
def zh.t37:IR:=.reg [.s (.mv (.t (.of 3))),.q (.of 2) (.mv (.s 0))]
def zh.t38:IR:=.seq zh.t37 .ret
def zh.t39:IR:=.seq zh.t36 zh.t38
def zh.t40:IR:=.seq zh.t2 zh.t39
def zh.t41:IR:=.seq zh.t1 zh.t40
def zh.t42:IR:=.seq zh.t0 zh.t41
theorem zh.tq:IR.run zh.t0 C N O K (zh.fr b d g i f l p s u v a c e) h nx =
 bU b h nx fun v1 h2 n3=>K (zh.fr b v1 .zf i f l p s u v a c e) h2 n3:=by kernel_rfl
theorem zh.tu:IR.run zh.t1 C N O K (zh.fr b d g i f l p s u v a c e) h nx =
 K (zh.fr b d g .zf f l p s u v a c e) h nx:=by kernel_rfl
theorem zh.eG:IR.run zh.t2 C N O K (zh.fr b d g i f l p s u v a c e) h nx =
 zL 0 d fun v1=>zF v1 h fun v2=>sLen v2 fun v3=>gN 1 1 [(.bool false)] v3 v3 h nx fun v4 h5 n6=>K (zh.fr b d g i v4 l p s u v a c e) h5 n6:=by kernel_rfl
theorem zh.t3_s:IR.run zh.t3 C N O K (zh.fr b d g i f l p s u v a c e) h nx =
 zL 0 d fun v1=>zF v1 h fun v2=>sLen v2 fun v3=>K (zh.fr b d g i f l p s v3 (I 0) a c e) h nx:=by kernel_rfl
theorem zh.t4_s:IR.run zh.t4 C N O K (zh.fr b d g i f l p s u v a c e) h nx =
 zk .lss .int v u fun v1=>K (zh.fr b d g i f l p s u v v1 c e) h nx:=by kernel_rfl
theorem zh.v10:Arg.ev (.t (.of 10)) ⟨(zh.fr b d g i f l p s u v a c e),[]⟩=a:=by kernel_rfl
theorem zh.t6_s:IR.run zh.t6 C N O K (zh.fr b d g i f l p s u v a c e) h nx =
 K (zh.fr b d g i f v p s u v a c e) h nx:=by kernel_rfl
theorem zh.t7_s:IR.run zh.t7 C N O K (zh.fr b d g i f l p s u v a c e) h nx =
 K (zh.fr b d g i f l (I 0) s u v a c e) h nx:=by kernel_rfl
theorem zh.t8_s:IR.run zh.t8 C N O K (zh.fr b d g i f l p s u v a c e) h nx =
 K (zh.fr b d g i f l p l u v a c e) h nx:=by kernel_rfl
theorem zh.t9_s:IR.run zh.t9 C N O K (zh.fr b d g i f l p s u v a c e) h nx =
 zK 1 f s fun v1=>zF v1 h fun v2=>sNot v2 fun v3=>K (zh.fr b d g i f l p s u v a v3 e) h nx:=by kernel_rfl
theorem zh.v11:Arg.ev (.t (.of 11)) ⟨(zh.fr b d g i f l p s u v a c e),[]⟩=c:=by kernel_rfl
theorem zh.ztz:IR.run zh.t12 C N O K (zh.fr b d g i f l p s u v a c e) h nx =
 zK 1 f s fun v1=>zM 1 v1 (.bool true) h nx fun v2 h3 n4=>K (zh.fr b d g i f l p s u v a c e) h3 n4:=by kernel_rfl
theorem zh.zt0:IR.run zh.t13 C N O K (zh.fr b d g i f l p s u v a c e) h nx =
 zk .add .int p (I 1) fun v1=>K (zh.fr b d g i f l v1 s u v a c e) h nx:=by kernel_rfl
theorem zh.zeh:IR.run zh.t16 C N O K (zh.fr b d g i f l p s u v a c e) h nx =
 zL 0 d fun v1=>zF v1 h fun v2=>zK 1 v2 s fun v3=>zF v3 h fun v4=>K (zh.fr b d g i f l p v4 u v a c e) h nx:=by kernel_rfl
theorem zh.zt1 (Inv:Nat->AV->AV->T Blk->Pa->Prop) {m:Nat} (hm:m<N) (hi:Inv m p s h nx)
  (step:∀ (m:Nat) (z6 z7 zB:AV) (h:T Blk) (nx:Pa) (R:Ks Prop),Inv m z6 z7 h nx->(∀ (m':Nat) (w6 w7 wB:AV) (h':T Blk) (nx':Pa),m'<m->Inv m' w6 w7 h' nx'->R (zh.fr b d g i f l w6 w7 u v a wB e) h' nx'=.ok True)->IR.run zh.t18 C N O R (zh.fr b d g i f l z6 z7 u v a zB e) h nx=.ok True) :
  IR.run zh.t19 C N O K (zh.fr b d g i f l p s u v a c e) h nx=.ok True:=by
 rw [zh.t19];refine yD (fun m tm h nx=>∃ z6 z7 zB,tm=(zh.fr b d g i f l z6 z7 u v a zB e)/\Inv m z6 z7 h nx) ?_ hm ⟨_,_,_,rfl,hi⟩;rintro m tm h nx R ⟨z6,z7,zB,rfl,hi⟩ hR;exact step m z6 z7 zB h nx R hi fun m' w6 w7 wB h' nx' hlt hi'=>hR m' _ h' nx' hlt ⟨_,_,_,rfl,hi'⟩
theorem zh.zlf:IR.run zh.t22 C N O K (zh.fr b d g i f l p s u v a c e) h nx =
 zk .gtr .int p (I 0) fun v1=>K (zh.fr b d g i f l p s u v a c v1) h nx:=by kernel_rfl
theorem zh.zlg:IR.run zh.t23 C N O K (zh.fr b d g i f l p s u v a c e) h nx =
 yU 1 1 [(I 0)] [(0,1,p)] h nx fun v1 h2 n3=>sZ 1 8 i v1 h2 n3 fun v4 h5 n6=>K (zh.fr b d g v4 f l p s u v a c e) h5 n6:=by kernel_rfl
theorem zh.v12:Arg.ev (.t (.of 12)) ⟨(zh.fr b d g i f l p s u v a c e),[]⟩=e:=by kernel_rfl
theorem zh.zih:IR.run zh.t30 C N O K (zh.fr b d g i f l p s u v a c e) h nx =
 zk .add .int v (I 1) fun v1=>K (zh.fr b d g i f l p s u v1 a c e) h nx:=by kernel_rfl
theorem zh.zt2 (Inv:Nat->AV->AV->T Blk->Pa->Prop) {m:Nat} (hm:m<N) (hi:Inv m i v h nx)
  (step:∀ (m:Nat) (z3 z5 z6 z7 z9 zA zB zC:AV) (h:T Blk) (nx:Pa) (R:Ks Prop),Inv m z3 z9 h nx->(∀ (m':Nat) (w3 w5 w6 w7 w9 wA wB wC:AV) (h':T Blk) (nx':Pa),m'<m->Inv m' w3 w9 h' nx'->R (zh.fr b d g w3 f w5 w6 w7 u w9 wA wB wC) h' nx'=.ok True)->IR.run zh.t33 C N O R (zh.fr b d g z3 f z5 z6 z7 u z9 zA zB zC) h nx=.ok True) :
  IR.run zh.t34 C N O K (zh.fr b d g i f l p s u v a c e) h nx=.ok True:=by
 rw [zh.t34];refine yD (fun m tm h nx=>∃ z3 z5 z6 z7 z9 zA zB zC,tm=(zh.fr b d g z3 f z5 z6 z7 u z9 zA zB zC)/\Inv m z3 z9 h nx) ?_ hm ⟨_,_,_,_,_,_,_,_,rfl,hi⟩;rintro m tm h nx R ⟨z3,z5,z6,z7,z9,zA,zB,zC,rfl,hi⟩ hR;exact step m z3 z5 z6 z7 z9 zA zB zC h nx R hi fun m' w3 w5 w6 w7 w9 wA wB wC h' nx' hlt hi'=>hR m' _ h' nx' hlt ⟨_,_,_,_,_,_,_,_,rfl,hi'⟩
theorem zh.zt3:IR.run zh.t37 C N O K (zh.fr b d g i f l p s u v a c e) h nx =
 K (zh.fr b d i i f l p s u v a c e) h nx:=by kernel_rfl
theorem zh.tab:T.get none (.of 150) tbl=some zh:=by kernel_rfl
theorem zh.bind (k:T AV->OP):yT zh.params [a0] zh.init k=k (zh.fr a0 .undef .undef .undef .undef .undef .undef .undef .undef .undef .undef .undef .undef):=by kernel_rfl
theorem zh.xu:zh.body=zh.t42:=by kernel_rfl
theorem zh.go:zP tbl N C (.of 150) [a0] h nx K0=IR.run zh.t42 C N (fnO zh.res K0) (qw zh.res K0) (zh.fr a0 .undef .undef .undef .undef .undef .undef .undef .undef .undef .undef .undef .undef) h nx:=by
 rw [zH zh.tab,zh.bind,zh.xu];kernel_rfl
theorem zh.ret:qw zh.res K0 (zh.fr b d g i f l p s u v a c e) h nx=K0 g h nx:=by kernel_rfl
end
end Go.Ev
namespace Go.Ev
open Go Go.Proofs
set_option maxRecDepth 100000
section
variable {N:Nat} {C:Calls Prop} {K0:Kw Prop} {K:Ks Prop} {h:T Blk} {nx:Pa} {b d g i f l p s u v a c e o q a0 a1 a2:AV} {O:ji Prop} {tm:T AV} {Kt:KTm} {r:List RO} {s0 s1 s2 s3 s4 s5 s6 s7 s8 s9 s10 s11 s12 s13 s14 s15 s16 s17 s18 s19 s20 s21 s22 s23 s24 s25 s26 s27 s28 s29 s30 s31 s32 s33 s34 s35 s36 s37 s38 s39 s40 s41 s42 s43 s44 s45 s46 s47 s48 s49 s50 s51 s52 s53 s54 s55 s56 s57 s58 s59:AV}
def F32.t0:IR:=.reg [.w (.loc (.of 3)) none (.box (.t (.of 2))),.q (.of 4) (.mv (.c (.str []))),.q (.of 5) (.mv (.c (I 0)))]
def F32.t1:IR:=.yh [] [(.s (.mv (.t (.of 0))),0,[]),(.s (.mv (.t (.of 1))),0,[]),(.s (.load (.t (.of 3))),1,[]),(.s (.bin .lss .int (.s 0) (.c (I 0))),1,[]),(.w .push none (.call (.c (.fn 84 (.of 84) [])) [(.s 3),(.s 2)]),0,[]),(.s (.mv (.s 1)),0,[]),(.p .push (some ((.s 0),false)) (.load (.t (.of 3))),0,[]),(.p .push (some ((.s 1),false)) (.bin .gtr .int (.s 0) (.c (I 999999999))),0,[]),(.s (.pick (.s 2) (.c (.bool true)) (.s 0)),0,[]),(.w .push none (.call (.c (.fn 76 (.of 76) [])) [(.s 0),(.c (I 3))]),0,[]),(.w .push none (.yg 1 2 [(I 0)] [(0,1,(.s 5)),(1,1,(.s 0))]),0,[]),(.w .push none (.call (.c (.fn 72 (.of 72) [])) [(.s 0)]),0,[]),(.q (.of 6) (.mv (.s 0)),0,[])]
def F32.t2:IR:=.reg [.s (.mv (.t (.of 6))),.q (.of 10) (.bin .neq .int (.s 0) (.c (I 0)))]
def F32.t3:IR:=.reg [.s (.mv (.t (.of 6))),.q (.of 4) (.mv (.c (.str []))),.q (.of 5) (.mv (.s 0))]
def F32.t4:IR:=.seq F32.t3 .ret
def F32.t5:IR:=.cond (.t (.of 10)) F32.t4 .skip
def F32.t6:IR:=.seq F32.t2 F32.t5
def F32.t7:IR:=.seq F32.t1 F32.t6
def F32.t8:IR:=.reg [.w .push none (.call (.c (.fn 85 (.of 85) [])) [(.c (I 0))]),.w (.loc (.of 7)) none (.alloc [(I 0),.zf]),.w .none none (.store 2 (.t (.of 7)) (.s 0))]
def F32.t9:IR:=.reg [.s (.mv (.t (.of 0))),.w (.loc (.of 11)) none (.call (.c (.fn 86 (.of 86) [])) [(.s 0)])]
def F32.t10:IR:=.reg [.w (.loc (.of 8)) none (.alloc [.zf,(.bool false)]),.w .none none (.store 2 (.t (.of 8)) (.t (.of 13)))]
def F32.t11:IR:=.yh [] [(.s (.zi 2 (.t (.of 7))),1,[]),(.s (.zi 2 (.t (.of 8))),0,[]),(.s (.load (.t (.of 3))),0,[]),(.w .push none (.call (.c (.fn 88 (.of 88) [])) [(.s 1),(.s 0)]),0,[]),(.w .push none (.call (.c (.fn 87 (.of 87) [])) [(.s 3),(.s 0)]),0,[]),(.w .none none (.store 2 (.t (.of 7)) (.s 0)),0,[])]
def F32.t12:IR:=.block 1 F32.t11
def F32.t13:IR:=.rf (.t (.of 11)) [(.of 12),(.of 13)] F32.t10 F32.t12
def F32.t14:IR:=.block 0 F32.t13
def F32.t15:IR:=.seq F32.t9 F32.t14
def F32.t16:IR:=.yh [(.alloc [(I 0),.zf,(I 0),.zf])] [(.s (.zi 2 (.t (.of 7))),4,[]),(.s (.mv (.t (.of 0))),4,[]),(.s (.len (.s 0)),4,[]),(.w .push none (.call (.c (.fn 85 (.of 85) [])) [(.s 0)]),0,[]),(.w .push none (.call (.c (.fn 90 (.of 90) [])) [(.s 3),(.s 0)]),0,[]),(.w .push none (.call (.c (.fn 89 (.of 89) [])) [(.s 0)]),0,[]),(.w (.loc (.of 9)) none (.alloc [(I 0),.zf,(I 0),.zf]),0,[]),(.w .none none (.store 4 (.t (.of 9)) (.s 0)),0,[])]
def F32.t17:IR:=.reg [.s (.zi 4 (.t (.of 9))),.w (.loc (.of 14)) none (.call (.c (.fn 91 (.of 91) [])) [(.s 0)])]
def F32.t18:IR:=.reg [.q (.of 4) (.mv (.c (.str []))),.q (.of 5) (.mv (.c (I 4)))]
def F32.t19:IR:=.seq F32.t18 .ret
def F32.t20:IR:=.cond (.t (.of 14)) F32.t19 .skip
def F32.t21:IR:=.seq F32.t17 F32.t20
def F32.t22:IR:=.reg [.s (.zi 4 (.t (.of 9))),.w .push none (.call (.c (.fn 92 (.of 92) [])) [(.s 0)]),.q (.of 4) (.mv (.s 0)),.q (.of 5) (.mv (.c (I 0)))]
def F32.t23:IR:=.seq F32.t22 .ret
def F32.t24:IR:=.seq F32.t21 F32.t23
def F32.t25:IR:=.seq F32.t16 F32.t24
def F32.t26:IR:=.seq F32.t15 F32.t25
def F32.t27:IR:=.seq F32.t8 F32.t26
def F32.t28:IR:=.seq F32.t7 F32.t27
def F32.t29:IR:=.seq F32.t0 F32.t28
theorem F32.tq:IR.run F32.t0 C N O K (F32.fr b d g i f l p s u v a c e o q) h nx =
 bU g h nx fun v1 h2 n3=>K (F32.fr b d g v1 (.str []) (I 0) p s u v a c e o q) h2 n3:=by kernel_rfl
theorem F32.tu:IR.run F32.t1 C N O K (F32.fr b d g i f l p s u v a c e o q) h nx =
 zF i h fun v1=>zk .lss .int v1 (I 0) fun v2=>C.fn 84 (.of 84) [b,d] h nx fun v3 h4 n5=>(zk .lss .int v1 (I 0) fun vJ=>zR vJ v2 ((zF i h4 fun vI=>zR vI v1 (sG v2 false (fun k=>zF i h4 k) fun v6=>sG v2 false (fun k=>zk .gtr .int v6 (I 999999999) k) fun v7=>jR v2 (.bool true) v7 fun v8=>C.fn 76 (.of 76) [v8,(I 3)] h4 n5 fun v9 hH nI=>yU 1 2 [(I 0)] [(0,1,v3),(1,1,v9)] hH nI fun vC hI nJ=>C.fn 72 (.of 72) [vC] hI nJ fun vF h16 n17=>K (F32.fr b d g i f l vF s u v a c e o q) h16 n17)))):=by kernel_rfl
theorem F32.eG:IR.run F32.t2 C N O K (F32.fr b d g i f l p s u v a c e o q) h nx =
 zk .neq .int p (I 0) fun v1=>K (F32.fr b d g i f l p s u v v1 c e o q) h nx:=by kernel_rfl
theorem F32.v10:Arg.ev (.t (.of 10)) ⟨(F32.fr b d g i f l p s u v a c e o q),[]⟩=a:=by kernel_rfl
theorem F32.t8_s:IR.run F32.t8 C N O K (F32.fr b d g i f l p s u v a c e o q) h nx =
 C.fn 85 (.of 85) [(I 0)] h nx fun v1 h2 n3=>yJ [(I 0),.zf] h2 n3 fun v4 h5 n6=>zM 2 v4 v1 h5 n6 fun v7 h8 n9=>K (F32.fr b d g i f l p v4 u v a c e o q) h8 n9:=by kernel_rfl
theorem F32.t9_s:IR.run F32.t9 C N O K (F32.fr b d g i f l p s u v a c e o q) h nx =
 C.fn 86 (.of 86) [b] h nx fun v1 h2 n3=>K (F32.fr b d g i f l p s u v a v1 e o q) h2 n3:=by kernel_rfl
theorem F32.zlh:IR.run F32.t10 C N O K (F32.fr b d g i f l p s u v a c e o q) h nx =
 yJ [.zf,(.bool false)] h nx fun v1 h2 n3=>zM 2 v1 o h2 n3 fun v4 h5 n6=>K (F32.fr b d g i f l p s v1 v a c e o q) h5 n6:=by kernel_rfl
theorem F32.zei:IR.run F32.t11 C N O K (F32.fr b d g i f l p s u v a c e o q) h nx =
 zI 2 s h fun v1=>zI 2 u h fun v2=>zF i h fun v3=>C.fn 88 (.of 88) [v2,v3] h nx fun v4 h5 n6=>(zI 2 s h5 fun vD=>zR vD v1 (C.fn 87 (.of 87) [v1,v4] h5 n6 fun v7 h8 n9=>zM 2 s v7 h8 n9 fun vA hG nH=>K (F32.fr b d g i f l p s u v a c e o q) hG nH)):=by kernel_rfl
theorem F32.zt4:Arg.ev (.t (.of 11)) ⟨(F32.fr b d g i f l p s u v a c e o q),[]⟩=c:=by kernel_rfl
theorem F32.zt5 {z0 z1:AV} (k:T AV->OP):yT [(.of 12),(.of 13)] [z0,z1] (F32.fr b d g i f l p s u v a c e o q) k=k (F32.fr b d g i f l p s u v a c z0 z1 q):=by kernel_rfl
theorem F32.zeh:IR.run F32.t16 C N O K (F32.fr b d g i f l p s u v a c e o q) h nx =
 sChk (true&&true) (zI 2 s h fun v1=>sLen b fun v2=>C.fn 85 (.of 85) [v2] h nx fun v3 h4 n5=>(sLen b fun vX=>zR vX v2 (zR b b ((zI 2 s h4 fun vO=>zR vO v1 (C.fn 90 (.of 90) [v1,v3] h4 n5 fun v6 h7 n8=>(sLen b fun vN=>zR vN v2 (zR b b ((zI 2 s h7 fun vM=>zR vM v1 (C.fn 89 (.of 89) [v6] h7 n8 fun v9 hH nI=>(sLen b fun vL=>zR vL v2 (zR b b ((zI 2 s hH fun vK=>zR vK v1 (yJ [(I 0),.zf,(I 0),.zf] hH nI fun vC hI nJ=>(sLen b fun vJ=>zR vJ v2 (zR b b ((zI 2 s hI fun vI=>zR vI v1 (zM 4 vC v9 hI nJ fun vF h16 n17=>K (F32.fr b d g i f l p s u vC a c e o q) h16 n17))))))))))))))))))))):=by kernel_rfl
theorem F32.zli:IR.run F32.t17 C N O K (F32.fr b d g i f l p s u v a c e o q) h nx =
 zI 4 v h fun v1=>C.fn 91 (.of 91) [v1] h nx fun v2 h3 n4=>K (F32.fr b d g i f l p s u v a c e o v2) h3 n4:=by kernel_rfl
theorem F32.v14:Arg.ev (.t (.of 14)) ⟨(F32.fr b d g i f l p s u v a c e o q),[]⟩=q:=by kernel_rfl
theorem F32.zlf:IR.run F32.t22 C N O K (F32.fr b d g i f l p s u v a c e o q) h nx =
 zI 4 v h fun v1=>C.fn 92 (.of 92) [v1] h nx fun v2 h3 n4=>K (F32.fr b d g i v2 (I 0) p s u v a c e o q) h3 n4:=by kernel_rfl
theorem F32.tab:T.get none (.of 32) tbl=some F32:=by kernel_rfl
theorem F32.bind (k:T AV->OP):yT F32.params [a0,a1,a2] F32.init k=k (F32.fr a0 a1 a2 .undef .undef .undef .undef .undef .undef .undef .undef .undef .undef .undef .undef):=by kernel_rfl
theorem F32.xu:F32.body=F32.t29:=by kernel_rfl
theorem F32.go:zP tbl N C (.of 32) [a0,a1,a2] h nx K0=IR.run F32.t29 C N (fnO F32.res K0) (qw F32.res K0) (F32.fr a0 a1 a2 .undef .undef .undef .undef .undef .undef .undef .undef .undef .undef .undef .undef) h nx:=by
 rw [zH F32.tab,F32.bind,F32.xu];kernel_rfl
theorem F32.ret:qw F32.res K0 (F32.fr b d g i f l p s u v a c e o q) h nx=K0 (.tup [f,l]) h nx:=by kernel_rfl
end
end Go.Ev
namespace Go.Ev
open Go Go.Proofs
set_option maxRecDepth 100000
section
variable {N:Nat} {C:Calls Prop} {K0:Kw Prop} {K:Ks Prop} {h:T Blk} {nx:Pa} {b d g i f l p s u v a c a0 a1:AV} {O:ji Prop} {tm:T AV} {Kt:KTm} {r:List RO} {s0 s1 s2 s3 s4 s5 s6 s7 s8 s9 s10 s11 s12 s13 s14 s15 s16 s17 s18 s19 s20 s21 s22 s23 s24 s25 s26 s27 s28 s29 s30 s31 s32 s33 s34 s35 s36 s37 s38 s39 s40 s41 s42 s43 s44 s45 s46 s47 s48 s49 s50 s51 s52 s53 s54 s55 s56 s57 s58 s59:AV}
def F88.t0:IR:=.reg [.w (.loc (.of 2)) none (.box (.t (.of 0))),.w (.loc (.of 3)) none (.alloc [(I 0),.zf])]
def F88.t1:IR:=.reg [.w .push none (.call (.c (.fn 85 (.of 85) [])) [(.c (I 1))]),.w (.loc (.of 4)) none (.alloc [(I 0),.zf]),.w .none none (.store 2 (.t (.of 4)) (.s 0))]
def F88.t2:IR:=.reg [.s (.zi 2 (.t (.of 2))),.w (.loc (.of 7)) none (.call (.c (.fn 150 (.of 150) [])) [(.s 0)]),.q (.of 8) (.len (.t (.of 7))),.q (.of 9) (.mv (.c (I 0)))]
def F88.t3:IR:=.reg [.q (.of 10) (.bin .lss .int (.t (.of 9)) (.t (.of 8)))]
def F88.t4:IR:=.cond (.t (.of 10)) .skip (.exit 0)
def F88.t5:IR:=.reg [.s (.zo 1 (.t (.of 7)) (.t (.of 9))),.s (.load (.s 0)),.q (.of 5) (.mv (.s 0))]
def F88.t6:IR:=.reg [.s (.mv (.t (.of 1))),.q (.of 6) (.mv (.s 0))]
def F88.t7:IR:=.reg [.s (.zn 1 (.t (.of 2))),.s (.load (.s 0)),.s (.mv (.s 0)),.p .push (some ((.s 0),true)) (.mv (.t (.of 5))),.p .push (some ((.s 1),true)) (.bin .rem .int (.s 0) (.c (I 2))),.p .push (some ((.s 2),true)) (.bin .eql .int (.s 0) (.c (I 1))),.q (.of 11) (.pick (.s 3) (.s 0) (.c (.bool false)))]
def F88.t8:IR:=.reg [.s (.mv (.t (.of 1))),.s (.bin .rem .int (.s 0) (.c (I 2))),.q (.of 6) (.mv (.s 0))]
def F88.t9:IR:=.cond (.t (.of 11)) F88.t8 .skip
def F88.t10:IR:=.seq F88.t7 F88.t9
def F88.t11:IR:=.yh [] [(.s (.zi 2 (.t (.of 4))),1,[]),(.s (.mv (.t (.of 6))),0,[]),(.w .push none (.call (.c (.fn 85 (.of 85) [])) [(.s 0)]),0,[]),(.w .push none (.call (.c (.fn 151 (.of 151) [])) [(.s 2),(.s 0)]),0,[]),(.w .none none (.store 2 (.t (.of 4)) (.s 0)),0,[])]
def F88.t12:IR:=.seq F88.t10 F88.t11
def F88.t13:IR:=.seq F88.t6 F88.t12
def F88.t14:IR:=.seq F88.t5 F88.t13
def F88.t15:IR:=.block 1 F88.t14
def F88.t16:IR:=.reg [.s (.bin .add .int (.t (.of 9)) (.c (I 1))),.q (.of 9) (.mv (.s 0))]
def F88.t17:IR:=.seq F88.t15 F88.t16
def F88.t18:IR:=.seq F88.t4 F88.t17
def F88.t19:IR:=.seq F88.t3 F88.t18
def F88.t20:IR:=.loop F88.t19
def F88.t21:IR:=.block 0 F88.t20
def F88.t22:IR:=.seq F88.t2 F88.t21
def F88.t23:IR:=.reg [.s (.zi 2 (.t (.of 4))),.w .none none (.store 2 (.t (.of 3)) (.s 0))]
def F88.t24:IR:=.seq F88.t23 .ret
def F88.t25:IR:=.seq F88.t22 F88.t24
def F88.t26:IR:=.seq F88.t1 F88.t25
def F88.t27:IR:=.seq F88.t0 F88.t26
theorem F88.tq:IR.run F88.t0 C N O K (F88.fr b d g i f l p s u v a c) h nx =
 bU b h nx fun v1 h2 n3=>yJ [(I 0),.zf] h2 n3 fun v4 h5 n6=>K (F88.fr b d v1 v4 f l p s u v a c) h5 n6:=by kernel_rfl
theorem F88.tu:IR.run F88.t1 C N O K (F88.fr b d g i f l p s u v a c) h nx =
 C.fn 85 (.of 85) [(I 1)] h nx fun v1 h2 n3=>yJ [(I 0),.zf] h2 n3 fun v4 h5 n6=>zM 2 v4 v1 h5 n6 fun v7 h8 n9=>K (F88.fr b d g i v4 l p s u v a c) h8 n9:=by kernel_rfl
theorem F88.eG:IR.run F88.t2 C N O K (F88.fr b d g i f l p s u v a c) h nx =
 zI 2 g h fun v1=>C.fn 150 (.of 150) [v1] h nx fun v2 h3 n4=>sLen v2 fun v5=>K (F88.fr b d g i f l p v2 v5 (I 0) a c) h3 n4:=by kernel_rfl
theorem F88.t3_s:IR.run F88.t3 C N O K (F88.fr b d g i f l p s u v a c) h nx =
 zk .lss .int v u fun v1=>K (F88.fr b d g i f l p s u v v1 c) h nx:=by kernel_rfl
theorem F88.v10:Arg.ev (.t (.of 10)) ⟨(F88.fr b d g i f l p s u v a c),[]⟩=a:=by kernel_rfl
theorem F88.t5_s:IR.run F88.t5 C N O K (F88.fr b d g i f l p s u v a c) h nx =
 zK 1 s v fun v1=>zF v1 h fun v2=>K (F88.fr b d g i f v2 p s u v a c) h nx:=by kernel_rfl
theorem F88.t6_s:IR.run F88.t6 C N O K (F88.fr b d g i f l p s u v a c) h nx =
 K (F88.fr b d g i f l d s u v a c) h nx:=by kernel_rfl
theorem F88.t7_s:IR.run F88.t7 C N O K (F88.fr b d g i f l p s u v a c) h nx =
 zL 1 g fun v1=>zF v1 h fun v2=>sG v2 true (fun k=>k l) fun v3=>sG v2 true (fun k=>zk .rem .int v3 (I 2) k) fun v4=>sG v2 true (fun k=>zk .eql .int v4 (I 1) k) fun v5=>jR v2 v5 (.bool false) fun v6=>K (F88.fr b d g i f l p s u v a v6) h nx:=by kernel_rfl
theorem F88.v11:Arg.ev (.t (.of 11)) ⟨(F88.fr b d g i f l p s u v a c),[]⟩=c:=by kernel_rfl
theorem F88.zei:IR.run F88.t11 C N O K (F88.fr b d g i f l p s u v a c) h nx =
 zI 2 f h fun v1=>C.fn 85 (.of 85) [p] h nx fun v2 h3 n4=>(zI 2 f h3 fun vB=>zR vB v1 (C.fn 151 (.of 151) [v1,v2] h3 n4 fun v5 h6 n7=>zM 2 f v5 h6 n7 fun v8 h9 nB=>K (F88.fr b d g i f l p s u v a c) h9 nB)):=by kernel_rfl
theorem F88.zeh:IR.run F88.t16 C N O K (F88.fr b d g i f l p s u v a c) h nx =
 zk .add .int v (I 1) fun v1=>K (F88.fr b d g i f l p s u v1 a c) h nx:=by kernel_rfl
theorem F88.zt6 (Inv:Nat->AV->T Blk->Pa->Prop) {m:Nat} (hm:m<N) (hi:Inv m v h nx)
  (step:∀ (m:Nat) (z5 z6 z9 zA zB:AV) (h:T Blk) (nx:Pa) (R:Ks Prop),Inv m z9 h nx->(∀ (m':Nat) (w5 w6 w9 wA wB:AV) (h':T Blk) (nx':Pa),m'<m->Inv m' w9 h' nx'->R (F88.fr b d g i f w5 w6 s u w9 wA wB) h' nx'=.ok True)->IR.run F88.t19 C N O R (F88.fr b d g i f z5 z6 s u z9 zA zB) h nx=.ok True) :
  IR.run F88.t20 C N O K (F88.fr b d g i f l p s u v a c) h nx=.ok True:=by
 rw [F88.t20];refine yD (fun m tm h nx=>∃ z5 z6 z9 zA zB,tm=(F88.fr b d g i f z5 z6 s u z9 zA zB)/\Inv m z9 h nx) ?_ hm ⟨_,_,_,_,_,rfl,hi⟩;rintro m tm h nx R ⟨z5,z6,z9,zA,zB,rfl,hi⟩ hR;exact step m z5 z6 z9 zA zB h nx R hi fun m' w5 w6 w9 wA wB h' nx' hlt hi'=>hR m' _ h' nx' hlt ⟨_,_,_,_,_,rfl,hi'⟩
theorem F88.zlg:IR.run F88.t23 C N O K (F88.fr b d g i f l p s u v a c) h nx =
 zI 2 f h fun v1=>zM 2 i v1 h nx fun v2 h3 n4=>K (F88.fr b d g i f l p s u v a c) h3 n4:=by kernel_rfl
theorem F88.tab:T.get none (.of 88) tbl=some F88:=by kernel_rfl
theorem F88.bind (k:T AV->OP):yT F88.params [a0,a1] F88.init k=k (F88.fr a0 a1 .undef .undef .undef .undef .undef .undef .undef .undef .undef .undef):=by kernel_rfl
theorem F88.xu:F88.body=F88.t27:=by kernel_rfl
theorem F88.go:zP tbl N C (.of 88) [a0,a1] h nx K0=IR.run F88.t27 C N (fnO F88.res K0) (qw F88.res K0) (F88.fr a0 a1 .undef .undef .undef .undef .undef .undef .undef .undef .undef .undef) h nx:=by
 rw [zH F88.tab,F88.bind,F88.xu];kernel_rfl
theorem F88.ret:qw F88.res K0 (F88.fr b d g i f l p s u v a c) h nx=zI 2 i h fun v1=>K0 v1 h nx:=by kernel_rfl
end
end Go.Ev
namespace Go.Ev
open Go Go.Proofs
set_option maxRecDepth 100000
section
variable {N:Nat} {C:Calls Prop} {K0:Kw Prop} {K:Ks Prop} {h:T Blk} {nx:Pa} {b d a0:AV} {O:ji Prop} {tm:T AV} {Kt:KTm} {r:List RO} {s0 s1 s2 s3 s4 s5 s6 s7 s8 s9 s10 s11 s12 s13 s14 s15 s16 s17 s18 s19 s20 s21 s22 s23 s24 s25 s26 s27 s28 s29 s30 s31 s32 s33 s34 s35 s36 s37 s38 s39 s40 s41 s42 s43 s44 s45 s46 s47 s48 s49 s50 s51 s52 s53 s54 s55 s56 s57 s58 s59:AV}
def F85.t0:IR:=.reg [.w (.loc (.of 1)) none (.alloc [(I 0),.zf])]
def F85.t1:IR:=.reg [.s (.mv (.t (.of 0))),.s (.build [(I 0),.zf] [(0,1,(.s 0))]),.w .none none (.store 2 (.t (.of 1)) (.s 0))]
def F85.t2:IR:=.seq F85.t1 .ret
def F85.t3:IR:=.seq F85.t0 F85.t2
theorem F85.tq:IR.run F85.t0 C N O K (F85.fr b d) h nx =
 yJ [(I 0),.zf] h nx fun v1 h2 n3=>K (F85.fr b v1) h2 n3:=by kernel_rfl
theorem F85.tu:IR.run F85.t1 C N O K (F85.fr b d) h nx =
 uH [(I 0),.zf] [(0,1,b)] fun v1=>zM 2 d v1 h nx fun v2 h3 n4=>K (F85.fr b d) h3 n4:=by kernel_rfl
theorem F85.tab:T.get none (.of 85) tbl=some F85:=by kernel_rfl
theorem F85.bind (k:T AV->OP):yT F85.params [a0] F85.init k=k (F85.fr a0 .undef):=by kernel_rfl
theorem F85.xu:F85.body=F85.t3:=by kernel_rfl
theorem F85.go:zP tbl N C (.of 85) [a0] h nx K0=IR.run F85.t3 C N (fnO F85.res K0) (qw F85.res K0) (F85.fr a0 .undef) h nx:=by
 rw [zH F85.tab,F85.bind,F85.xu];kernel_rfl
theorem F85.ret:qw F85.res K0 (F85.fr b d) h nx=zI 2 d h fun v1=>K0 v1 h nx:=by kernel_rfl
end
end Go.Ev
namespace Go.Ev
open Go Go.Proofs
set_option maxRecDepth 100000
section
variable {N:Nat} {C:Calls Prop} {K0:Kw Prop} {K:Ks Prop} {h:T Blk} {nx:Pa} {b d g i f l p s u v a c e o a0 a1:AV} {O:ji Prop} {tm:T AV} {Kt:KTm} {r:List RO} {s0 s1 s2 s3 s4 s5 s6 s7 s8 s9 s10 s11 s12 s13 s14 s15 s16 s17 s18 s19 s20 s21 s22 s23 s24 s25 s26 s27 s28 s29 s30 s31 s32 s33 s34 s35 s36 s37 s38 s39 s40 s41 s42 s43 s44 s45 s46 s47 s48 s49 s50 s51 s52 s53 s54 s55 s56 s57 s58 s59:AV}
def F87.t0:IR:=.reg [.w (.loc (.of 2)) none (.box (.t (.of 0))),.w (.loc (.of 3)) none (.box (.t (.of 1))),.w (.loc (.of 4)) none (.alloc [(I 0),.zf])]
def F87.t1:IR:=.reg [.s (.zn 1 (.t (.of 2))),.s (.load (.s 0)),.s (.bin .eql (.nil .sl) (.s 0) (.c .zf)),.s (.mv (.s 0)),.p .push (some ((.s 0),true)) (.zn 1 (.t (.of 3))),.p .push (some ((.s 1),true)) (.load (.s 0)),.p .push (some ((.s 2),true)) (.bin .eql (.nil .sl) (.s 0) (.c .zf)),.q (.of 10) (.pick (.s 3) (.s 0) (.c (.bool false)))]
def F87.t2:IR:=.reg [.s (.zn 0 (.t (.of 2))),.s (.load (.s 0)),.s (.zn 0 (.t (.of 3))),.s (.load (.s 0)),.s (.bin .add .int (.s 2) (.s 0)),.q (.of 5) (.mv (.s 0))]
def F87.t3:IR:=.reg [.s (.mv (.t (.of 5))),.s (.zn 0 (.t (.of 2))),.s (.load (.s 0)),.s (.bin .gtr .int (.s 2) (.s 0)),.s (.zn 0 (.t (.of 3))),.s (.load (.s 0)),.s (.bin .gtr .int (.s 0) (.c (I 0))),.q (.of 11) (.bin .eql .bool (.s 3) (.s 0))]
def F87.t4:IR:=.reg [.s (.mv (.t (.of 5))),.s (.build [(I 0),.zf] [(0,1,(.s 0))]),.w .none none (.store 2 (.t (.of 4)) (.s 0))]
def F87.t5:IR:=.seq F87.t4 .ret
def F87.t6:IR:=.cond (.t (.of 11)) F87.t5 .skip
def F87.t7:IR:=.seq F87.t3 F87.t6
def F87.t8:IR:=.seq F87.t2 F87.t7
def F87.t9:IR:=.cond (.t (.of 10)) F87.t8 .skip
def F87.t10:IR:=.seq F87.t1 F87.t9
def F87.t11:IR:=.reg [.s (.zi 2 (.t (.of 2))),.w .push none (.call (.c (.fn 145 (.of 145) [])) [(.s 0)]),.s (.mv (.s 0)),.s (.ext 0 (.s 0)),.s (.ext 1 (.s 1)),.q (.of 6) (.mv (.s 1)),.q (.of 7) (.mv (.s 0))]
def F87.t12:IR:=.reg [.s (.zi 2 (.t (.of 3))),.w .push none (.call (.c (.fn 145 (.of 145) [])) [(.s 0)]),.s (.mv (.s 0)),.s (.ext 0 (.s 0)),.s (.ext 1 (.s 1)),.q (.of 8) (.mv (.s 1)),.q (.of 9) (.mv (.s 0))]
def F87.t13:IR:=.reg [.s (.mv (.t (.of 6))),.s (.mv (.t (.of 8))),.s (.bin .eql .bool (.s 1) (.s 0)),.q (.of 12) (.mv (.s 0))]
def F87.t14:IR:=.reg [.s (.mv (.t (.of 6))),.s (.mv (.t (.of 7))),.s (.mv (.t (.of 9))),.w .push none (.call (.c (.fn 147 (.of 147) [])) [(.s 1),(.s 0)]),.w .push none (.call (.c (.fn 146 (.of 146) [])) [(.s 3),(.s 0)]),.w .none none (.store 2 (.t (.of 4)) (.s 0))]
def F87.t15:IR:=.seq F87.t14 .ret
def F87.t16:IR:=.reg [.s (.mv (.t (.of 7))),.s (.mv (.t (.of 9))),.w .push none (.call (.c (.fn 148 (.of 148) [])) [(.s 1),(.s 0)]),.s (.bin .geq .int (.s 0) (.c (I 0))),.q (.of 13) (.mv (.s 0))]
def F87.t17:IR:=.reg [.s (.mv (.t (.of 6))),.s (.mv (.t (.of 7))),.s (.mv (.t (.of 9))),.w .push none (.call (.c (.fn 149 (.of 149) [])) [(.s 1),(.s 0)]),.w .push none (.call (.c (.fn 146 (.of 146) [])) [(.s 3),(.s 0)]),.w .none none (.store 2 (.t (.of 4)) (.s 0))]
def F87.t18:IR:=.seq F87.t17 .ret
def F87.t19:IR:=.cond (.t (.of 13)) F87.t18 .skip
def F87.t20:IR:=.seq F87.t16 F87.t19
def F87.t21:IR:=.cond (.t (.of 12)) F87.t15 F87.t20
def F87.t22:IR:=.seq F87.t13 F87.t21
def F87.t23:IR:=.block 0 F87.t22
def F87.t24:IR:=.reg [.s (.mv (.t (.of 8))),.s (.mv (.t (.of 9))),.s (.mv (.t (.of 7))),.w .push none (.call (.c (.fn 149 (.of 149) [])) [(.s 1),(.s 0)]),.w .push none (.call (.c (.fn 146 (.of 146) [])) [(.s 3),(.s 0)]),.w .none none (.store 2 (.t (.of 4)) (.s 0))]
def F87.t25:IR:=.seq F87.t24 .ret
def F87.t26:IR:=.seq F87.t23 F87.t25
def F87.t27:IR:=.seq F87.t12 F87.t26
def F87.t28:IR:=.seq F87.t11 F87.t27
def F87.t29:IR:=.seq F87.t10 F87.t28
def F87.t30:IR:=.seq F87.t0 F87.t29
theorem F87.tq:IR.run F87.t0 C N O K (F87.fr b d g i f l p s u v a c e o) h nx =
 bU b h nx fun v1 h2 n3=>bU d h2 n3 fun v4 h5 n6=>yJ [(I 0),.zf] h5 n6 fun v7 h8 n9=>K (F87.fr b d v1 v4 v7 l p s u v a c e o) h8 n9:=by kernel_rfl
theorem F87.tu:IR.run F87.t1 C N O K (F87.fr b d g i f l p s u v a c e o) h nx =
 zL 1 g fun v1=>zF v1 h fun v2=>zk .eql (.nil .sl) v2 .zf fun v3=>sG v3 true (fun k=>zL 1 i k) fun v4=>sG v3 true (fun k=>zF v4 h k) fun v5=>sG v3 true (fun k=>zk .eql (.nil .sl) v5 .zf k) fun v6=>jR v3 v6 (.bool false) fun v7=>K (F87.fr b d g i f l p s u v v7 c e o) h nx:=by kernel_rfl
theorem F87.eG:IR.run F87.t2 C N O K (F87.fr b d g i f l p s u v a c e o) h nx =
 zL 0 g fun v1=>zF v1 h fun v2=>zL 0 i fun v3=>zF v3 h fun v4=>zk .add .int v2 v4 fun v5=>K (F87.fr b d g i f v5 p s u v a c e o) h nx:=by kernel_rfl
theorem F87.t3_s:IR.run F87.t3 C N O K (F87.fr b d g i f l p s u v a c e o) h nx =
 zL 0 g fun v1=>zF v1 h fun v2=>zk .gtr .int l v2 fun v3=>zL 0 i fun v4=>zF v4 h fun v5=>zk .gtr .int v5 (I 0) fun v6=>zk .eql .bool v3 v6 fun v7=>K (F87.fr b d g i f l p s u v a v7 e o) h nx:=by kernel_rfl
theorem F87.t4_s:IR.run F87.t4 C N O K (F87.fr b d g i f l p s u v a c e o) h nx =
 uH [(I 0),.zf] [(0,1,l)] fun v1=>zM 2 f v1 h nx fun v2 h3 n4=>K (F87.fr b d g i f l p s u v a c e o) h3 n4:=by kernel_rfl
theorem F87.v11:Arg.ev (.t (.of 11)) ⟨(F87.fr b d g i f l p s u v a c e o),[]⟩=c:=by kernel_rfl
theorem F87.v10:Arg.ev (.t (.of 10)) ⟨(F87.fr b d g i f l p s u v a c e o),[]⟩=a:=by kernel_rfl
theorem F87.tab:T.get none (.of 87) tbl=some F87:=by kernel_rfl
theorem F87.bind (k:T AV->OP):yT F87.params [a0,a1] F87.init k=k (F87.fr a0 a1 .undef .undef .undef .undef .undef .undef .undef .undef .undef .undef .undef .undef):=by kernel_rfl
theorem F87.xu:F87.body=F87.t30:=by kernel_rfl
theorem F87.go:zP tbl N C (.of 87) [a0,a1] h nx K0=IR.run F87.t30 C N (fnO F87.res K0) (qw F87.res K0) (F87.fr a0 a1 .undef .undef .undef .undef .undef .undef .undef .undef .undef .undef .undef .undef) h nx:=by
 rw [zH F87.tab,F87.bind,F87.xu];kernel_rfl
theorem F87.ret:qw F87.res K0 (F87.fr b d g i f l p s u v a c e o) h nx=zI 2 f h fun v1=>K0 v1 h nx:=by kernel_rfl
end
end Go.Ev
namespace Go.Ev
open Go Go.Proofs
set_option maxRecDepth 100000
section
variable {N:Nat} {C:Calls Prop} {K0:Kw Prop} {K:Ks Prop} {h:T Blk} {nx:Pa} {b d g i f l p a0 a1:AV} {O:ji Prop} {tm:T AV} {Kt:KTm} {r:List RO} {s0 s1 s2 s3 s4 s5 s6 s7 s8 s9 s10 s11 s12 s13 s14 s15 s16 s17 s18 s19 s20 s21 s22 s23 s24 s25 s26 s27 s28 s29 s30 s31 s32 s33 s34 s35 s36 s37 s38 s39 s40 s41 s42 s43 s44 s45 s46 s47 s48 s49 s50 s51 s52 s53 s54 s55 s56 s57 s58 s59:AV}
def F90.t0:IR:=.reg [.w (.loc (.of 2)) none (.box (.t (.of 0))),.w (.loc (.of 3)) none (.box (.t (.of 1))),.w (.loc (.of 4)) none (.alloc [(I 0),.zf])]
def F90.t1:IR:=.reg [.s (.zi 2 (.t (.of 3))),.w .push none (.call (.c (.fn 152 (.of 152) [])) [(.s 0)]),.q (.of 6) (.bin .lss .int (.s 0) (.c (I 0)))]
def F90.t2:IR:=.yh [] [(.s (.zi 2 (.t (.of 2))),0,[]),(.s (.zi 2 (.t (.of 3))),1,[]),(.w .push none (.call (.c (.fn 153 (.of 153) [])) [(.s 1)]),0,[]),(.w .push none (.call (.c (.fn 153 (.of 153) [])) [(.s 1)]),0,[]),(.w .none none (.store 2 (.t (.of 2)) (.s 1)),0,[]),(.w .none none (.store 2 (.t (.of 3)) (.s 0)),0,[])]
def F90.t3:IR:=.cond (.t (.of 6)) F90.t2 .skip
def F90.t4:IR:=.seq F90.t1 F90.t3
def F90.t5:IR:=.reg [.s (.zi 2 (.t (.of 2))),.s (.zi 2 (.t (.of 3))),.w .push none (.call (.c (.fn 154 (.of 154) [])) [(.s 1),(.s 0)]),.s (.mv (.s 0)),.s (.ext 0 (.s 0)),.s (.ext 1 (.s 1)),.w (.loc (.of 5)) none (.alloc [(I 0),.zf]),.w .push none (.alloc [(I 0),.zf]),.w .none none (.store 2 (.t (.of 5)) (.s 2)),.w .none none (.store 2 (.s 0) (.s 1))]
def F90.t6:IR:=.reg [.s (.zi 2 (.t (.of 5))),.w .none none (.store 2 (.t (.of 4)) (.s 0))]
def F90.t7:IR:=.seq F90.t6 .ret
def F90.t8:IR:=.seq F90.t5 F90.t7
def F90.t9:IR:=.seq F90.t4 F90.t8
def F90.t10:IR:=.seq F90.t0 F90.t9
theorem F90.tq:IR.run F90.t0 C N O K (F90.fr b d g i f l p) h nx =
 bU b h nx fun v1 h2 n3=>bU d h2 n3 fun v4 h5 n6=>yJ [(I 0),.zf] h5 n6 fun v7 h8 n9=>K (F90.fr b d v1 v4 v7 l p) h8 n9:=by kernel_rfl
theorem F90.tu:IR.run F90.t1 C N O K (F90.fr b d g i f l p) h nx =
 zI 2 i h fun v1=>C.fn 152 (.of 152) [v1] h nx fun v2 h3 n4=>zk .lss .int v2 (I 0) fun v5=>K (F90.fr b d g i f l v5) h3 n4:=by kernel_rfl
theorem F90.v6:Arg.ev (.t (.of 6)) ⟨(F90.fr b d g i f l p),[]⟩=p:=by kernel_rfl
theorem F90.t5_s:IR.run F90.t5 C N O K (F90.fr b d g i f l p) h nx =
 zI 2 g h fun v1=>zI 2 i h fun v2=>C.fn 154 (.of 154) [v1,v2] h nx fun v3 h4 n5=>fB 0 v3 fun v6=>fB 1 v3 fun v7=>yJ [(I 0),.zf] h4 n5 fun v8 h9 nB=>yJ [(I 0),.zf] h9 nB fun vB hB nC=>zM 2 v8 v6 hB nC fun vE hA nA=>zM 2 vB v7 hA nA fun vH hN nO=>K (F90.fr b d g i f v8 p) hN nO:=by kernel_rfl
theorem F90.t6_s:IR.run F90.t6 C N O K (F90.fr b d g i f l p) h nx =
 zI 2 l h fun v1=>zM 2 f v1 h nx fun v2 h3 n4=>K (F90.fr b d g i f l p) h3 n4:=by kernel_rfl
theorem F90.tab:T.get none (.of 90) tbl=some F90:=by kernel_rfl
theorem F90.bind (k:T AV->OP):yT F90.params [a0,a1] F90.init k=k (F90.fr a0 a1 .undef .undef .undef .undef .undef):=by kernel_rfl
theorem F90.xu:F90.body=F90.t10:=by kernel_rfl
theorem F90.go:zP tbl N C (.of 90) [a0,a1] h nx K0=IR.run F90.t10 C N (fnO F90.res K0) (qw F90.res K0) (F90.fr a0 a1 .undef .undef .undef .undef .undef) h nx:=by
 rw [zH F90.tab,F90.bind,F90.xu];kernel_rfl
theorem F90.ret:qw F90.res K0 (F90.fr b d g i f l p) h nx=zI 2 f h fun v1=>K0 v1 h nx:=by kernel_rfl
end
end Go.Ev
namespace Go.Ev
open Go Go.Proofs
set_option maxRecDepth 100000
section
variable {N:Nat} {C:Calls Prop} {K0:Kw Prop} {K:Ks Prop} {h:T Blk} {nx:Pa} {b d g a0:AV} {O:ji Prop} {tm:T AV} {Kt:KTm} {r:List RO} {s0 s1 s2 s3 s4 s5 s6 s7 s8 s9 s10 s11 s12 s13 s14 s15 s16 s17 s18 s19 s20 s21 s22 s23 s24 s25 s26 s27 s28 s29 s30 s31 s32 s33 s34 s35 s36 s37 s38 s39 s40 s41 s42 s43 s44 s45 s46 s47 s48 s49 s50 s51 s52 s53 s54 s55 s56 s57 s58 s59:AV}
def qx.t0:IR:=.reg [.w (.loc (.of 1)) none (.box (.t (.of 0))),.q (.of 2) (.mv (.c (I 0)))]
def qx.t1:IR:=.reg [.s (.zn 0 (.t (.of 1))),.s (.load (.s 0)),.s (.rY false (.c (I 1)) [(.s 0)]),.s (.rY true (.c (I (-1))) [(.s 0)]),.q (.of 2) (.mv (.s 0))]
def qx.t2:IR:=.seq qx.t1 .ret
def qx.t3:IR:=.seq qx.t0 qx.t2
theorem qx.tq:IR.run qx.t0 C N O K (qx.fr b d g) h nx =
 bU b h nx fun v1 h2 n3=>K (qx.fr b v1 (I 0)) h2 n3:=by kernel_rfl
theorem qx.tu:IR.run qx.t1 C N O K (qx.fr b d g) h nx =
 zL 0 d fun v1=>zF v1 h fun v2=>sMin false (I 1) [v2] fun v3=>sMin true (I (-1)) [v3] fun v4=>K (qx.fr b d v4) h nx:=by kernel_rfl
theorem qx.tab:T.get none (.of 152) tbl=some qx:=by kernel_rfl
theorem qx.bind (k:T AV->OP):yT qx.params [a0] qx.init k=k (qx.fr a0 .undef .undef):=by kernel_rfl
theorem qx.xu:qx.body=qx.t3:=by kernel_rfl
theorem qx.go:zP tbl N C (.of 152) [a0] h nx K0=IR.run qx.t3 C N (fnO qx.res K0) (qw qx.res K0) (qx.fr a0 .undef .undef) h nx:=by
 rw [zH qx.tab,qx.bind,qx.xu];kernel_rfl
theorem qx.ret:qw qx.res K0 (qx.fr b d g) h nx=K0 g h nx:=by kernel_rfl
end
end Go.Ev
namespace Go.Ev
open Go Go.Proofs
set_option maxRecDepth 100000
section
variable {N:Nat} {C:Calls Prop} {K0:Kw Prop} {K:Ks Prop} {h:T Blk} {nx:Pa} {b d g i f l p s u v a c e o q w y z a0 a1:AV} {O:ji Prop} {tm:T AV} {Kt:KTm} {r:List RO} {s0 s1 s2 s3 s4 s5 s6 s7 s8 s9 s10 s11 s12 s13 s14 s15 s16 s17 s18 s19 s20 s21 s22 s23 s24 s25 s26 s27 s28 s29 s30 s31 s32 s33 s34 s35 s36 s37 s38 s39 s40 s41 s42 s43 s44 s45 s46 s47 s48 s49 s50 s51 s52 s53 s54 s55 s56 s57 s58 s59:AV}
def yc.t0:IR:=.reg [.w (.loc (.of 2)) none (.box (.t (.of 0))),.w (.loc (.of 3)) none (.box (.t (.of 1))),.w (.loc (.of 4)) none (.alloc [(I 0),.zf]),.w (.loc (.of 5)) none (.alloc [(I 0),.zf])]
def yc.r1_1:List RO:=.s (.mv (.s 0))::.p .push (some ((.s 0),true)) (.zn 0 (.t (.of 2)))::.p .push (some ((.s 1),true)) (.load (.s 0))::.p .push (some ((.s 2),true)) (.bin .neq .int (.s 0) (.c (I (-9223372036854775808))))::.q (.of 15) (.pick (.s 3) (.s 0) (.c (.bool false)))::[]
def yc.r1_0:List RO:=.s (.zn 1 (.t (.of 2)))::.s (.load (.s 0))::.s (.bin .eql (.nil .sl) (.s 0) (.c .zf))::.s (.mv (.s 0))::.p .push (some ((.s 0),true)) (.zn 1 (.t (.of 3)))::.p .push (some ((.s 1),true)) (.load (.s 0))::.p .push (some ((.s 2),true)) (.bin .eql (.nil .sl) (.s 0) (.c .zf))::.s (.pick (.s 3) (.s 0) (.c (.bool false)))::yc.r1_1
def yc.t1:IR:=.reg yc.r1_0
def yc.t2:IR:=.yh [] [(.s (.zn 0 (.t (.of 2))),0,[]),(.s (.load (.s 0)),0,[]),(.s (.zn 0 (.t (.of 3))),0,[]),(.s (.load (.s 0)),0,[]),(.s (.bin .quo .int (.s 2) (.s 0)),0,[]),(.s (.zn 0 (.t (.of 2))),0,[]),(.s (.load (.s 0)),0,[]),(.s (.zn 0 (.t (.of 3))),0,[]),(.s (.load (.s 0)),0,[]),(.s (.bin .rem .int (.s 2) (.s 0)),0,[]),(.q (.of 6) (.mv (.s 5)),0,[]),(.q (.of 7) (.mv (.s 0)),0,[])]
def yc.t3:IR:=.reg [.s (.mv (.t (.of 7))),.q (.of 16) (.bin .lss .int (.s 0) (.c (I 0)))]
def yc.t4:IR:=.yh [] [(.s (.mv (.t (.of 6))),0,[]),(.s (.bin .sub .int (.s 0) (.c (I 1))),0,[]),(.s (.mv (.t (.of 7))),0,[]),(.s (.zn 0 (.t (.of 3))),0,[]),(.s (.load (.s 0)),0,[]),(.s (.bin .add .int (.s 2) (.s 0)),0,[]),(.q (.of 6) (.mv (.s 4)),0,[]),(.q (.of 7) (.mv (.s 0)),0,[])]
def yc.t5:IR:=.cond (.t (.of 16)) yc.t4 .skip
def yc.t6:IR:=.seq yc.t3 yc.t5
def yc.t7:IR:=.reg [.s (.mv (.t (.of 6))),.s (.build [(I 0),.zf] [(0,1,(.s 0))]),.s (.mv (.t (.of 7))),.s (.build [(I 0),.zf] [(0,1,(.s 0))]),.w .none none (.store 2 (.t (.of 4)) (.s 2)),.w .none none (.store 2 (.t (.of 5)) (.s 0))]
def yc.t8:IR:=.seq yc.t7 .ret
def yc.t9:IR:=.seq yc.t6 yc.t8
def yc.t10:IR:=.seq yc.t2 yc.t9
def yc.t11:IR:=.cond (.t (.of 15)) yc.t10 .skip
def yc.t12:IR:=.seq yc.t1 yc.t11
def yc.t13:IR:=.reg [.s (.zi 2 (.t (.of 2))),.w .push none (.call (.c (.fn 145 (.of 145) [])) [(.s 0)]),.s (.mv (.s 0)),.s (.ext 0 (.s 0)),.s (.ext 1 (.s 1)),.q (.of 8) (.mv (.s 1)),.q (.of 9) (.mv (.s 0))]
def yc.t14:IR:=.reg [.s (.zi 2 (.t (.of 3))),.w .push none (.call (.c (.fn 145 (.of 145) [])) [(.s 0)]),.s (.mv (.s 0)),.s (.ext 0 (.s 0)),.s (.ext 1 (.s 1)),.s (.mv (.s 1)),.q (.of 10) (.mv (.s 1))]
def yc.t15:IR:=.reg [.s (.mv (.t (.of 9))),.s (.mv (.t (.of 10))),.w .push none (.call (.c (.fn 207 (.of 207) [])) [(.s 1),(.s 0)]),.s (.mv (.s 0)),.s (.ext 0 (.s 0)),.s (.ext 1 (.s 1)),.q (.of 11) (.mv (.s 1)),.q (.of 12) (.mv (.s 0))]
def yc.t16:IR:=.reg [.s (.mv (.t (.of 8))),.s (.mv (.t (.of 11))),.w .push none (.call (.c (.fn 146 (.of 146) [])) [(.s 1),(.s 0)]),.s (.mv (.t (.of 8))),.s (.mv (.t (.of 12))),.w .push none (.call (.c (.fn 146 (.of 146) [])) [(.s 1),(.s 0)]),.w (.loc (.of 13)) none (.alloc [(I 0),.zf]),.w (.loc (.of 14)) none (.alloc [(I 0),.zf]),.w .none none (.store 2 (.t (.of 13)) (.s 3)),.w .none none (.store 2 (.t (.of 14)) (.s 0))]
def yc.t17:IR:=.reg [.s (.zi 2 (.t (.of 14))),.w .push none (.call (.c (.fn 152 (.of 152) [])) [(.s 0)]),.q (.of 17) (.bin .lss .int (.s 0) (.c (I 0)))]
def yc.t18:IR:=.yh [] [(.s (.zi 2 (.t (.of 13))),1,[]),(.s (.zi 2 (.t (.of 14))),2,[]),(.s (.zi 2 (.t (.of 3))),2,[]),(.w .push none (.call (.c (.fn 85 (.of 85) [])) [(.c (I 1))]),0,[]),(.w .push none (.call (.c (.fn 208 (.of 208) [])) [(.s 3),(.s 0)]),0,[]),(.w .push none (.call (.c (.fn 87 (.of 87) [])) [(.s 3),(.s 2)]),0,[]),(.w .none none (.store 2 (.t (.of 13)) (.s 1)),0,[]),(.w .none none (.store 2 (.t (.of 14)) (.s 0)),0,[])]
def yc.t19:IR:=.cond (.t (.of 17)) yc.t18 .skip
def yc.t20:IR:=.seq yc.t17 yc.t19
def yc.t21:IR:=.yh [] [(.s (.zi 2 (.t (.of 13))),0,[]),(.s (.zi 2 (.t (.of 14))),1,[]),(.w .none none (.store 2 (.t (.of 4)) (.s 1)),0,[]),(.w .none none (.store 2 (.t (.of 5)) (.s 0)),0,[])]
def yc.t22:IR:=.seq yc.t21 .ret
def yc.t23:IR:=.seq yc.t20 yc.t22
def yc.t24:IR:=.seq yc.t16 yc.t23
def yc.t25:IR:=.seq yc.t15 yc.t24
def yc.t26:IR:=.seq yc.t14 yc.t25
def yc.t27:IR:=.seq yc.t13 yc.t26
def yc.t28:IR:=.seq yc.t12 yc.t27
def yc.t29:IR:=.seq yc.t0 yc.t28
theorem yc.tq:IR.run yc.t0 C N O K (yc.fr b d g i f l p s u v a c e o q w y z) h nx =
 bU b h nx fun v1 h2 n3=>bU d h2 n3 fun v4 h5 n6=>yJ [(I 0),.zf] h5 n6 fun v7 h8 n9=>yJ [(I 0),.zf] h8 n9 fun vA hG nH=>K (yc.fr b d v1 v4 v7 vA p s u v a c e o q w y z) hG nH:=by kernel_rfl
theorem yc.tu:IR.run yc.t1 C N O K tm h nx=gL yc.r1_0 C ⟨tm,[]⟩ h nx (fun tm h nx=>K tm.v h nx):=o7 ..
theorem yc.zgj:gL (.s (.zn 1 (.t (.of 2)))::.s (.load (.s 0))::.s (.bin .eql (.nil .sl) (.s 0) (.c .zf))::.s (.mv (.s 0))::.p .push (some ((.s 0),true)) (.zn 1 (.t (.of 3)))::.p .push (some ((.s 1),true)) (.load (.s 0))::.p .push (some ((.s 2),true)) (.bin .eql (.nil .sl) (.s 0) (.c .zf))::.s (.pick (.s 3) (.s 0) (.c (.bool false)))::r) C ⟨(yc.fr b d g i f l p s u v a c e o q w y z),[]⟩ h nx Kt =
 zL 1 g fun v1=>zF v1 h fun v2=>zk .eql (.nil .sl) v2 .zf fun v3=>sG v3 true (fun k=>zL 1 i k) fun v4=>sG v3 true (fun k=>zF v4 h k) fun v5=>sG v3 true (fun k=>zk .eql (.nil .sl) v5 .zf k) fun v6=>jR v3 v6 (.bool false) fun v7=>gL r C ⟨(yc.fr b d g i f l p s u v a c e o q w y z),v7::v6::v5::v4::v3::v3::v2::v1::[]⟩ h nx Kt:=by kernel_rfl
theorem yc.zdb:gL (.s (.mv (.s 0))::.p .push (some ((.s 0),true)) (.zn 0 (.t (.of 2)))::.p .push (some ((.s 1),true)) (.load (.s 0))::.p .push (some ((.s 2),true)) (.bin .neq .int (.s 0) (.c (I (-9223372036854775808))))::.q (.of 15) (.pick (.s 3) (.s 0) (.c (.bool false)))::[]) C ⟨(yc.fr b d g i f l p s u v a c e o q w y z),s0::s1::s2::s3::s4::s5::s6::s7::[]⟩ h nx Kt =
 sG s0 true (fun k=>zL 0 g k) fun v1=>sG s0 true (fun k=>zF v1 h k) fun v2=>sG s0 true (fun k=>zk .neq .int v2 (I (-9223372036854775808)) k) fun v3=>jR s0 v3 (.bool false) fun v4=>Kt ⟨(yc.fr b d g i f l p s u v a c e o q v4 y z),v3::v2::v1::s0::s0::s1::s2::s3::s4::s5::s6::s7::[]⟩ h nx:=by kernel_rfl
theorem yc.eG:IR.run yc.t2 C N O K (yc.fr b d g i f l p s u v a c e o q w y z) h nx =
 zL 0 g fun v1=>zF v1 h fun v2=>zL 0 i fun v3=>zF v3 h fun v4=>zk .quo .int v2 v4 fun v5=>zL 0 g fun v6=>zF v6 h fun v7=>zL 0 i fun v8=>zF v8 h fun v9=>zk .rem .int v7 v9 fun vA=>K (yc.fr b d g i f l v5 vA u v a c e o q w y z) h nx:=by kernel_rfl
theorem yc.t3_s:IR.run yc.t3 C N O K (yc.fr b d g i f l p s u v a c e o q w y z) h nx =
 zk .lss .int s (I 0) fun v1=>K (yc.fr b d g i f l p s u v a c e o q w v1 z) h nx:=by kernel_rfl
theorem yc.v16:Arg.ev (.t (.of 16)) ⟨(yc.fr b d g i f l p s u v a c e o q w y z),[]⟩=y:=by kernel_rfl
theorem yc.t7_s:IR.run yc.t7 C N O K (yc.fr b d g i f l p s u v a c e o q w y z) h nx =
 uH [(I 0),.zf] [(0,1,p)] fun v1=>uH [(I 0),.zf] [(0,1,s)] fun v2=>zM 2 f v1 h nx fun v3 h4 n5=>zM 2 l v2 h4 n5 fun v6 h7 n8=>K (yc.fr b d g i f l p s u v a c e o q w y z) h7 n8:=by kernel_rfl
theorem yc.v15:Arg.ev (.t (.of 15)) ⟨(yc.fr b d g i f l p s u v a c e o q w y z),[]⟩=w:=by kernel_rfl
theorem yc.tab:T.get none (.of 154) tbl=some yc:=by kernel_rfl
theorem yc.bind (k:T AV->OP):yT yc.params [a0,a1] yc.init k=k (yc.fr a0 a1 .undef .undef .undef .undef .undef .undef .undef .undef .undef .undef .undef .undef .undef .undef .undef .undef):=by kernel_rfl
theorem yc.xu:yc.body=yc.t29:=by kernel_rfl
theorem yc.go:zP tbl N C (.of 154) [a0,a1] h nx K0=IR.run yc.t29 C N (fnO yc.res K0) (qw yc.res K0) (yc.fr a0 a1 .undef .undef .undef .undef .undef .undef .undef .undef .undef .undef .undef .undef .undef .undef .undef .undef) h nx:=by
 rw [zH yc.tab,yc.bind,yc.xu];kernel_rfl
theorem yc.ret:qw yc.res K0 (yc.fr b d g i f l p s u v a c e o q w y z) h nx=zI 2 f h fun v1=>zI 2 l h fun v2=>K0 (.tup [v1,v2]) h nx:=by kernel_rfl
end
end Go.Ev
namespace Go.Ev
open Go Go.Proofs
set_option maxRecDepth 100000
section
variable {N:Nat} {C:Calls Prop} {K0:Kw Prop} {K:Ks Prop} {h:T Blk} {nx:Pa} {b d g i f l p s u v a c e o q w y a0 a1:AV} {O:ji Prop} {tm:T AV} {Kt:KTm} {r:List RO} {s0 s1 s2 s3 s4 s5 s6 s7 s8 s9 s10 s11 s12 s13 s14 s15 s16 s17 s18 s19 s20 s21 s22 s23 s24 s25 s26 s27 s28 s29 s30 s31 s32 s33 s34 s35 s36 s37 s38 s39 s40 s41 s42 s43 s44 s45 s46 s47 s48 s49 s50 s51 s52 s53 s54 s55 s56 s57 s58 s59:AV}
def F6.t0:IR:=.reg [.q (.of 2) (.mv (.c (.bool false)))]
def F6.r1_3:List RO:=.p .push (some ((.s 7),false)) (.bin .neq .int (.s 0) (.c (I 0)))::.q (.of 10) (.pick (.s 8) (.c (.bool true)) (.s 0))::[]
def F6.r1_2:List RO:=.s (.mv (.s 0))::.p .push (some ((.s 0),false)) (.mv (.t (.of 0)))::.p .push (some ((.s 1),false)) (.mv (.t (.of 0)))::.p .push (some ((.s 2),false)) (.zo 2 (.s 0) (.c (I 0)))::.p .push (some ((.s 3),false)) (.zn 0 (.s 0))::.p .push (some ((.s 4),false)) (.load (.s 0))::.p .push (some ((.s 5),false)) (.len (.s 0))::.w .push (some ((.s 6),false)) (.call (.c (.fn 31 (.of 31) [])) [(.s 5),(.s 0)])::F6.r1_3
def F6.r1_1:List RO:=.s (.mv (.s 0))::.p .push (some ((.s 0),false)) (.mv (.t (.of 0)))::.p .push (some ((.s 1),false)) (.zo 2 (.s 0) (.c (I 0)))::.p .push (some ((.s 2),false)) (.zn 0 (.s 0))::.p .push (some ((.s 3),false)) (.load (.s 0))::.p .push (some ((.s 4),false)) (.len (.s 0))::.p .push (some ((.s 5),false)) (.bin .gtr .int (.s 0) (.c (I 5)))::.s (.pick (.s 6) (.c (.bool true)) (.s 0))::F6.r1_2
def F6.r1_0:List RO:=.s (.mv (.t (.of 0)))::.s (.len (.s 0))::.s (.bin .eql .int (.s 0) (.c (I 0)))::.s (.mv (.s 0))::.p .push (some ((.s 0),false)) (.mv (.t (.of 0)))::.p .push (some ((.s 1),false)) (.len (.s 0))::.p .push (some ((.s 2),false)) (.bin .gtr .int (.s 0) (.c (I 24)))::.s (.pick (.s 3) (.c (.bool true)) (.s 0))::F6.r1_1
def F6.t1:IR:=.reg F6.r1_0
def F6.t2:IR:=.reg [.w .push none (.call (.c (.fn 8 (.of 8) [])) []),.q (.of 2) (.mv (.s 0))]
def F6.t3:IR:=.seq F6.t2 .ret
def F6.t4:IR:=.cond (.t (.of 10)) F6.t3 .skip
def F6.t5:IR:=.seq F6.t1 F6.t4
def F6.t6:IR:=.reg [.q (.of 11) (.mv (.t (.of 0))),.q (.of 12) (.len (.t (.of 11))),.q (.of 13) (.mv (.c (I 0)))]
def F6.t7:IR:=.reg [.q (.of 14) (.bin .lss .int (.t (.of 13)) (.t (.of 12)))]
def F6.t8:IR:=.cond (.t (.of 14)) .skip (.exit 0)
def F6.t9:IR:=.reg [.s (.zo 2 (.t (.of 11)) (.t (.of 13))),.s (.zi 2 (.s 0)),.w (.loc (.of 3)) none (.alloc [.zf,(.bool false)]),.w .none none (.store 2 (.t (.of 3)) (.s 0))]
def F6.t10:IR:=.reg [.s (.zn 1 (.t (.of 3))),.q (.of 15) (.load (.s 0))]
def F6.t11:IR:=.reg [.w .push none (.call (.c (.fn 8 (.of 8) [])) []),.q (.of 2) (.mv (.s 0))]
def F6.t12:IR:=.seq F6.t11 .ret
def F6.t13:IR:=.cond (.t (.of 15)) F6.t12 .skip
def F6.t14:IR:=.seq F6.t10 F6.t13
def F6.t15:IR:=.seq F6.t9 F6.t14
def F6.t16:IR:=.block 1 F6.t15
def F6.t17:IR:=.reg [.s (.bin .add .int (.t (.of 13)) (.c (I 1))),.q (.of 13) (.mv (.s 0))]
def F6.t18:IR:=.seq F6.t16 F6.t17
def F6.t19:IR:=.seq F6.t8 F6.t18
def F6.t20:IR:=.seq F6.t7 F6.t19
def F6.t21:IR:=.loop F6.t20
def F6.t22:IR:=.block 0 F6.t21
def F6.t23:IR:=.seq F6.t6 F6.t22
def F6.t24:IR:=.reg [.s (.mv (.t (.of 0))),.s (.zo 2 (.s 0) (.c (I 0))),.s (.zn 0 (.s 0)),.s (.load (.s 0)),.s (.len (.s 0)),.s (.mv (.t (.of 1))),.s (.conv .i64 (.s 0)),.s (.bin .rem .int (.s 0) (.c (I 3))),.s (.bin .add .int (.c (I 1)) (.s 0)),.q (.of 4) (.mv (.s 4)),.q (.of 5) (.mv (.s 0))]
def F6.t25:IR:=.reg [.s (.mv (.t (.of 4))),.s (.bin .eql .int (.s 0) (.c (I 5))),.s (.mv (.s 0)),.p .push (some ((.s 0),true)) (.mv (.t (.of 5))),.p .push (some ((.s 1),true)) (.bin .eql .int (.s 0) (.c (I 3))),.q (.of 16) (.pick (.s 2) (.s 0) (.c (.bool false)))]
def F6.t26:IR:=.reg [.q (.of 5) (.mv (.c (I 2)))]
def F6.t27:IR:=.cond (.t (.of 16)) F6.t26 .skip
def F6.t28:IR:=.seq F6.t25 F6.t27
def F6.t29:IR:=.reg [.s (.mv (.t (.of 0))),.s (.mv (.t (.of 4))),.s (.mv (.t (.of 5))),.w .push none (.call (.c (.fn 32 (.of 32) [])) [(.s 2),(.s 1),(.s 0)]),.s (.mv (.s 0)),.s (.ext 0 (.s 0)),.s (.ext 1 (.s 1)),.q (.of 6) (.mv (.s 1)),.q (.of 7) (.mv (.s 0))]
def F6.t30:IR:=.reg [.s (.mv (.t (.of 0))),.s (.mv (.t (.of 4))),.s (.mv (.t (.of 5))),.w .push none (.call (.c (.fn 34 (.of 34) [])) [(.c .zf),(.s 1),(.s 0)]),.w .push none (.call (.c (.fn 33 (.of 33) [])) [(.s 3),(.s 0)]),.s (.mv (.s 0)),.s (.ext 0 (.s 0)),.s (.ext 1 (.s 1)),.q (.of 8) (.mv (.s 1)),.q (.of 9) (.mv (.s 0))]
def F6.zqy:List RO:=.s (.pick (.s 1) (.s 0) (.c (.bool false)))::.q (.of 2) (.mv (.s 0))::[]
def F6.zqz:List RO:=.p .push (some ((.s 3),true)) (.bin .eql .str (.s 2) (.s 0))::.s (.pick (.s 4) (.s 0) (.c (.bool false)))::.s (.mv (.s 0))::.w .push (some ((.s 0),true)) (.call (.c (.fn 8 (.of 8) [])) [])::F6.zqy
def F6.zq0:List RO:=.p .push (some ((.s 1),true)) (.mv (.t (.of 8)))::.w .push (some ((.s 2),true)) (.call (.c (.fn 35 (.of 35) [])) [(.s 0)])::F6.zqz
def F6.zlj:List RO:=.s (.mv (.t (.of 7)))::.s (.bin .eql .int (.s 0) (.c (I 0)))::.s (.mv (.s 0))::.p .push (some ((.s 0),true)) (.mv (.t (.of 9)))::.p .push (some ((.s 1),true)) (.bin .eql .int (.s 0) (.c (I 0)))::.s (.pick (.s 2) (.s 0) (.c (.bool false)))::.s (.mv (.s 0))::.p .push (some ((.s 0),true)) (.mv (.t (.of 6)))::F6.zq0
def F6.t31:IR:=.reg F6.zlj
def F6.t32:IR:=.seq F6.t31 .ret
def F6.t33:IR:=.seq F6.t30 F6.t32
def F6.t34:IR:=.seq F6.t29 F6.t33
def F6.t35:IR:=.seq F6.t28 F6.t34
def F6.t36:IR:=.seq F6.t24 F6.t35
def F6.t37:IR:=.seq F6.t23 F6.t36
def F6.t38:IR:=.seq F6.t5 F6.t37
def F6.t39:IR:=.seq F6.t0 F6.t38
theorem F6.tq:IR.run F6.t0 C N O K (F6.fr b d g i f l p s u v a c e o q w y) h nx =
 K (F6.fr b d (.bool false) i f l p s u v a c e o q w y) h nx:=by kernel_rfl
theorem F6.tu:IR.run F6.t1 C N O K tm h nx=gL F6.r1_0 C ⟨tm,[]⟩ h nx (fun tm h nx=>K tm.v h nx):=o7 ..
theorem F6.zgj:gL (.s (.mv (.t (.of 0)))::.s (.len (.s 0))::.s (.bin .eql .int (.s 0) (.c (I 0)))::.s (.mv (.s 0))::.p .push (some ((.s 0),false)) (.mv (.t (.of 0)))::.p .push (some ((.s 1),false)) (.len (.s 0))::.p .push (some ((.s 2),false)) (.bin .gtr .int (.s 0) (.c (I 24)))::.s (.pick (.s 3) (.c (.bool true)) (.s 0))::r) C ⟨(F6.fr b d g i f l p s u v a c e o q w y),[]⟩ h nx Kt =
 sLen b fun v1=>zk .eql .int v1 (I 0) fun v2=>sG v2 false (fun k=>k b) fun v3=>sG v2 false (fun k=>sLen v3 k) fun v4=>sG v2 false (fun k=>zk .gtr .int v4 (I 24) k) fun v5=>jR v2 (.bool true) v5 fun v6=>gL r C ⟨(F6.fr b d g i f l p s u v a c e o q w y),v6::v5::v4::v3::v2::v2::v1::b::[]⟩ h nx Kt:=by kernel_rfl
theorem F6.zdb:gL (.s (.mv (.s 0))::.p .push (some ((.s 0),false)) (.mv (.t (.of 0)))::.p .push (some ((.s 1),false)) (.zo 2 (.s 0) (.c (I 0)))::.p .push (some ((.s 2),false)) (.zn 0 (.s 0))::.p .push (some ((.s 3),false)) (.load (.s 0))::.p .push (some ((.s 4),false)) (.len (.s 0))::.p .push (some ((.s 5),false)) (.bin .gtr .int (.s 0) (.c (I 5)))::.s (.pick (.s 6) (.c (.bool true)) (.s 0))::r) C ⟨(F6.fr b d g i f l p s u v a c e o q w y),s0::s1::s2::s3::s4::s5::s6::s7::[]⟩ h nx Kt =
 sG s0 false (fun k=>k b) fun v1=>sG s0 false (fun k=>zK 2 v1 (I 0) k) fun v2=>sG s0 false (fun k=>zL 0 v2 k) fun v3=>sG s0 false (fun k=>zF v3 h k) fun v4=>sG s0 false (fun k=>sLen v4 k) fun v5=>sG s0 false (fun k=>zk .gtr .int v5 (I 5) k) fun v6=>jR s0 (.bool true) v6 fun v7=>gL r C ⟨(F6.fr b d g i f l p s u v a c e o q w y),v7::v6::v5::v4::v3::v2::v1::s0::s0::s1::s2::s3::s4::s5::s6::s7::[]⟩ h nx Kt:=by kernel_rfl
theorem F6.zgk:gL (.s (.mv (.s 0))::.p .push (some ((.s 0),false)) (.mv (.t (.of 0)))::.p .push (some ((.s 1),false)) (.mv (.t (.of 0)))::.p .push (some ((.s 2),false)) (.zo 2 (.s 0) (.c (I 0)))::.p .push (some ((.s 3),false)) (.zn 0 (.s 0))::.p .push (some ((.s 4),false)) (.load (.s 0))::.p .push (some ((.s 5),false)) (.len (.s 0))::.w .push (some ((.s 6),false)) (.call (.c (.fn 31 (.of 31) [])) [(.s 5),(.s 0)])::r) C ⟨(F6.fr b d g i f l p s u v a c e o q w y),s0::s1::s2::s3::s4::s5::s6::s7::s8::s9::s10::s11::s12::s13::s14::s15::[]⟩ h nx Kt =
 sG s0 false (fun k=>k b) fun v1=>sG s0 false (fun k=>k b) fun v2=>sG s0 false (fun k=>zK 2 v2 (I 0) k) fun v3=>sG s0 false (fun k=>zL 0 v3 k) fun v4=>sG s0 false (fun k=>zF v4 h k) fun v5=>sG s0 false (fun k=>sLen v5 k) fun v6=>sGW s0 false (fun k=>C.fn 31 (.of 31) [v1,v6] h nx k) h nx fun v7 h8 n9=>gL r C ⟨(F6.fr b d g i f l p s u v a c e o q w y),v7::v6::v5::v4::v3::v2::v1::s0::s0::s1::s2::s3::s4::s5::s6::s7::s8::s9::s10::s11::s12::s13::s14::s15::[]⟩ h8 n9 Kt:=by kernel_rfl
theorem F6.zdc:gL (.p .push (some ((.s 7),false)) (.bin .neq .int (.s 0) (.c (I 0)))::.q (.of 10) (.pick (.s 8) (.c (.bool true)) (.s 0))::[]) C ⟨(F6.fr b d g i f l p s u v a c e o q w y),s0::s1::s2::s3::s4::s5::s6::s7::s8::s9::s10::s11::s12::s13::s14::s15::s16::s17::s18::s19::s20::s21::s22::s23::[]⟩ h nx Kt =
 sG s7 false (fun k=>zk .neq .int s0 (I 0) k) fun v1=>jR s7 (.bool true) v1 fun v2=>Kt ⟨(F6.fr b d g i f l p s u v v2 c e o q w y),v1::s0::s1::s2::s3::s4::s5::s6::s7::s8::s9::s10::s11::s12::s13::s14::s15::s16::s17::s18::s19::s20::s21::s22::s23::[]⟩ h nx:=by kernel_rfl
theorem F6.eG:IR.run F6.t2 C N O K (F6.fr b d g i f l p s u v a c e o q w y) h nx =
 C.fn 8 (.of 8) [] h nx fun v1 h2 n3=>K (F6.fr b d v1 i f l p s u v a c e o q w y) h2 n3:=by kernel_rfl
theorem F6.v10:Arg.ev (.t (.of 10)) ⟨(F6.fr b d g i f l p s u v a c e o q w y),[]⟩=a:=by kernel_rfl
theorem F6.t6_s:IR.run F6.t6 C N O K (F6.fr b d g i f l p s u v a c e o q w y) h nx =
 sLen b fun v1=>K (F6.fr b d g i f l p s u v a b v1 (I 0) q w y) h nx:=by kernel_rfl
theorem F6.t7_s:IR.run F6.t7 C N O K (F6.fr b d g i f l p s u v a c e o q w y) h nx =
 zk .lss .int o e fun v1=>K (F6.fr b d g i f l p s u v a c e o v1 w y) h nx:=by kernel_rfl
theorem F6.v14:Arg.ev (.t (.of 14)) ⟨(F6.fr b d g i f l p s u v a c e o q w y),[]⟩=q:=by kernel_rfl
theorem F6.t9_s:IR.run F6.t9 C N O K (F6.fr b d g i f l p s u v a c e o q w y) h nx =
 zK 2 c o fun v1=>zI 2 v1 h fun v2=>yJ [.zf,(.bool false)] h nx fun v3 h4 n5=>zM 2 v3 v2 h4 n5 fun v6 h7 n8=>K (F6.fr b d g v3 f l p s u v a c e o q w y) h7 n8:=by kernel_rfl
theorem F6.zlh:IR.run F6.t10 C N O K (F6.fr b d g i f l p s u v a c e o q w y) h nx =
 zL 1 i fun v1=>zF v1 h fun v2=>K (F6.fr b d g i f l p s u v a c e o q v2 y) h nx:=by kernel_rfl
theorem F6.zei:IR.run F6.t11 C N O K (F6.fr b d g i f l p s u v a c e o q w y) h nx =
 C.fn 8 (.of 8) [] h nx fun v1 h2 n3=>K (F6.fr b d v1 i f l p s u v a c e o q w y) h2 n3:=by kernel_rfl
theorem F6.v15:Arg.ev (.t (.of 15)) ⟨(F6.fr b d g i f l p s u v a c e o q w y),[]⟩=w:=by kernel_rfl
theorem F6.zli:IR.run F6.t17 C N O K (F6.fr b d g i f l p s u v a c e o q w y) h nx =
 zk .add .int o (I 1) fun v1=>K (F6.fr b d g i f l p s u v a c e v1 q w y) h nx:=by kernel_rfl
theorem F6.zt7 (Inv:Nat->AV->T Blk->Pa->Prop) {m:Nat} (hm:m<N) (hi:Inv m o h nx)
  (step:∀ (m:Nat) (z2 z3 zD zE zG:AV) (h:T Blk) (nx:Pa) (R:Ks Prop),Inv m zD h nx->(∀ (m':Nat) (w2 w3 wD wE wF:AV) (h':T Blk) (nx':Pa),m'<m->Inv m' wD h' nx'->R (F6.fr b d w2 w3 f l p s u v a c e wD wE wF y) h' nx'=.ok True)->IR.run F6.t20 C N O R (F6.fr b d z2 z3 f l p s u v a c e zD zE zG y) h nx=.ok True) :
  IR.run F6.t21 C N O K (F6.fr b d g i f l p s u v a c e o q w y) h nx=.ok True:=by
 rw [F6.t21];refine yD (fun m tm h nx=>∃ z2 z3 zD zE zG,tm=(F6.fr b d z2 z3 f l p s u v a c e zD zE zG y)/\Inv m zD h nx) ?_ hm ⟨_,_,_,_,_,rfl,hi⟩;rintro m tm h nx R ⟨z2,z3,zD,zE,zG,rfl,hi⟩ hR;exact step m z2 z3 zD zE zG h nx R hi fun m' w2 w3 wD wE wF h' nx' hlt hi'=>hR m' _ h' nx' hlt ⟨_,_,_,_,_,rfl,hi'⟩
theorem F6.zt8:IR.run F6.t24 C N O K (F6.fr b d g i f l p s u v a c e o q w y) h nx =
 zK 2 b (I 0) fun v1=>zL 0 v1 fun v2=>zF v2 h fun v3=>sLen v3 fun v4=>vV .i64 d fun v5=>zk .rem .int v5 (I 3) fun v6=>zk .add .int (I 1) v6 fun v7=>K (F6.fr b d g i v4 v7 p s u v a c e o q w y) h nx:=by kernel_rfl
theorem F6.zt9:IR.run F6.t25 C N O K (F6.fr b d g i f l p s u v a c e o q w y) h nx =
 zk .eql .int f (I 5) fun v1=>sG v1 true (fun k=>k l) fun v2=>sG v1 true (fun k=>zk .eql .int v2 (I 3) k) fun v3=>jR v1 v3 (.bool false) fun v4=>K (F6.fr b d g i f l p s u v a c e o q w v4) h nx:=by kernel_rfl
theorem F6.zua:IR.run F6.t26 C N O K (F6.fr b d g i f l p s u v a c e o q w y) h nx =
 K (F6.fr b d g i f (I 2) p s u v a c e o q w y) h nx:=by kernel_rfl
theorem F6.v16:Arg.ev (.t (.of 16)) ⟨(F6.fr b d g i f l p s u v a c e o q w y),[]⟩=y:=by kernel_rfl
theorem F6.zue:IR.run F6.t29 C N O K (F6.fr b d g i f l p s u v a c e o q w y) h nx =
 C.fn 32 (.of 32) [b,f,l] h nx fun v1 h2 n3=>fB 0 v1 fun v4=>fB 1 v1 fun v5=>K (F6.fr b d g i f l v4 v5 u v a c e o q w y) h2 n3:=by kernel_rfl
theorem F6.zih:IR.run F6.t30 C N O K (F6.fr b d g i f l p s u v a c e o q w y) h nx =
 C.fn 34 (.of 34) [.zf,f,l] h nx fun v1 h2 n3=>C.fn 33 (.of 33) [b,v1] h2 n3 fun v4 h5 n6=>fB 0 v4 fun v7=>fB 1 v4 fun v8=>K (F6.fr b d g i f l p s v7 v8 a c e o q w y) h5 n6:=by kernel_rfl
theorem F6.zuf:IR.run F6.t31 C N O K tm h nx=gL F6.zlj C ⟨tm,[]⟩ h nx (fun tm h nx=>K tm.v h nx):=o7 ..
theorem F6.zom:gL (.s (.mv (.t (.of 7)))::.s (.bin .eql .int (.s 0) (.c (I 0)))::.s (.mv (.s 0))::.p .push (some ((.s 0),true)) (.mv (.t (.of 9)))::.p .push (some ((.s 1),true)) (.bin .eql .int (.s 0) (.c (I 0)))::.s (.pick (.s 2) (.s 0) (.c (.bool false)))::.s (.mv (.s 0))::.p .push (some ((.s 0),true)) (.mv (.t (.of 6)))::r) C ⟨(F6.fr b d g i f l p s u v a c e o q w y),[]⟩ h nx Kt =
 zk .eql .int s (I 0) fun v1=>sG v1 true (fun k=>k v) fun v2=>sG v1 true (fun k=>zk .eql .int v2 (I 0) k) fun v3=>jR v1 v3 (.bool false) fun v4=>sG v4 true (fun k=>k p) fun v5=>gL r C ⟨(F6.fr b d g i f l p s u v a c e o q w y),v5::v4::v4::v3::v2::v1::v1::s::[]⟩ h nx Kt:=by kernel_rfl
theorem F6.zon:gL (.p .push (some ((.s 1),true)) (.mv (.t (.of 8)))::.w .push (some ((.s 2),true)) (.call (.c (.fn 35 (.of 35) [])) [(.s 0)])::r) C ⟨(F6.fr b d g i f l p s u v a c e o q w y),s0::s1::s2::s3::s4::s5::s6::s7::[]⟩ h nx Kt =
 sG s1 true (fun k=>k u) fun v1=>sGW s1 true (fun k=>C.fn 35 (.of 35) [v1] h nx k) h nx fun v2 h3 n4=>gL r C ⟨(F6.fr b d g i f l p s u v a c e o q w y),v2::v1::s0::s1::s2::s3::s4::s5::s6::s7::[]⟩ h3 n4 Kt:=by kernel_rfl
theorem F6.zoo:gL (.p .push (some ((.s 3),true)) (.bin .eql .str (.s 2) (.s 0))::.s (.pick (.s 4) (.s 0) (.c (.bool false)))::.s (.mv (.s 0))::.w .push (some ((.s 0),true)) (.call (.c (.fn 8 (.of 8) [])) [])::r) C ⟨(F6.fr b d g i f l p s u v a c e o q w y),s0::s1::s2::s3::s4::s5::s6::s7::s8::s9::[]⟩ h nx Kt =
 sG s3 true (fun k=>zk .eql .str s2 s0 k) fun v1=>jR s3 v1 (.bool false) fun v2=>sGW v2 true (fun k=>C.fn 8 (.of 8) [] h nx k) h nx fun v3 h4 n5=>gL r C ⟨(F6.fr b d g i f l p s u v a c e o q w y),v3::v2::v2::v1::s0::s1::s2::s3::s4::s5::s6::s7::s8::s9::[]⟩ h4 n5 Kt:=by kernel_rfl
theorem F6.zop:gL (.s (.pick (.s 1) (.s 0) (.c (.bool false)))::.q (.of 2) (.mv (.s 0))::[]) C ⟨(F6.fr b d g i f l p s u v a c e o q w y),s0::s1::s2::s3::s4::s5::s6::s7::s8::s9::s10::s11::s12::s13::[]⟩ h nx Kt =
 jR s1 s0 (.bool false) fun v1=>Kt ⟨(F6.fr b d v1 i f l p s u v a c e o q w y),v1::s0::s1::s2::s3::s4::s5::s6::s7::s8::s9::s10::s11::s12::s13::[]⟩ h nx:=by kernel_rfl
theorem F6.tab:T.get none (.of 6) tbl=some F6:=by kernel_rfl
theorem F6.bind (k:T AV->OP):yT F6.params [a0,a1] F6.init k=k (F6.fr a0 a1 .undef .undef .undef .undef .undef .undef .undef .undef .undef .undef .undef .undef .undef .undef .undef):=by kernel_rfl
theorem F6.xu:F6.body=F6.t39:=by kernel_rfl
theorem F6.go:zP tbl N C (.of 6) [a0,a1] h nx K0=IR.run F6.t39 C N (fnO F6.res K0) (qw F6.res K0) (F6.fr a0 a1 .undef .undef .undef .undef .undef .undef .undef .undef .undef .undef .undef .undef .undef .undef .undef) h nx:=by
 rw [zH F6.tab,F6.bind,F6.xu];kernel_rfl
theorem F6.ret:qw F6.res K0 (F6.fr b d g i f l p s u v a c e o q w y) h nx=K0 g h nx:=by kernel_rfl
end
end Go.Ev
