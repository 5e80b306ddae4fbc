import Derived.Test.YtdclaaahnodljaaGreatDoorIrT
import Derived.KernelRfl
import Derived.Test.YtdclaaahnodljaaGreatDoorEvD
set_option linter.unusedSimpArgs false
set_option linter.unusedVariables false
noncomputable section
namespace Go.Ev
open Go Go.Proofs
set_option maxRecDepth 100000
variable {N:Nat} {C:Calls Prop} {K0:Kw Prop} {K R:Ks Prop} {h:T Blk} {nx:Pa} {a b c d e i l a0 a1 o q a2 s f p u v w y D z E F G H L M P Q U V W Z x30 a3 a4 a5 a6 a7:AV}
theorem jh.og (X3:IR) (O:yu Prop) (t:T AV):IR.run (jh.g2 X3) C N O K t h nx=IR.run X3 C N (O.blk 0 K) K t h nx:=by kernel_rfl
theorem jh.tab:T.get none (.of 139) tbl=some jh:=by kernel_rfl
theorem jh.go:zQ tbl N C (.of 139) [a0] h nx K0 =
 sLen a0 fun v1=>zh .gtr .int v1 (I 256) fun v2=>zX v2 (K0 (I 5) h nx) (sLen a0 fun v3=>kQ 1 1 [(.bool false)] v3 v3 h nx fun v4 h5 n6=>IR.run jh.b2 C N (fnO jh.res K0) (IR.run jh.b10 C N (fnO jh.res K0) (jq jh.res K0)) (jh.fr a0 (I 0) v4 (I 0) v2 .u .u) h5 n6):=by
 rw [zK jh.tab];kernel_rfl
theorem jh.L2 (Inv:Nat->AV->T Blk->Pa->Prop) {m:Nat} (hm:m<N) (hi:Inv m d h nx)
  (step:∀ (m:Nat) (z1 z3 z5 z6:AV) (h:T Blk) (nx:Pa) (R:Ks Prop),Inv m z3 h nx->(∀ (m':Nat) (w1 w3 w5 w6:AV) (h':T Blk) (nx':Pa),m'<m->Inv m' w3 h' nx'->R (jh.fr a w1 c w3 e w5 w6) h' nx'=.ok True) ->
   (sLen a fun v1=>zh .lss .int z3 v1 fun v2=>zX v2 (zV 1 a z3 fun v3=>zG v3 h fun v4=>zh .lss .int v4 (I 0) fun v5=>sG v5 false (fun k=>k a) fun v6=>sG v5 false (fun k=>k z3) fun v7=>sG v5 false (fun k=>zV 1 v6 v7 k) fun v8=>sG v5 false (fun k=>zG v8 h k) fun v9=>sG v5 false (fun k=>k a) fun vA=>sG v5 false (fun k=>sLen vA k) fun vB=>sG v5 false (fun k=>zh .geq .int v9 vB k) fun vC=>jE v5 (.bool true) vC fun vD=>sG vD false (fun k=>k c) fun vE=>sG vD false (fun k=>k a) fun vF=>sG vD false (fun k=>k z3) fun vG=>sG vD false (fun k=>zV 1 vF vG k) fun vH=>sG vD false (fun k=>zG vH h k) fun vI=>sG vD false (fun k=>zV 1 vE vI k) fun vJ=>sG vD false (fun k=>zG vJ h k) fun vK=>jE vD (.bool true) vK fun vL=>zX vL (K0 (I 14) h nx) ((IR.run jh.b8 C N (((fnO jh.res K0).blk 0 K).blk 1 (IR.run jh.b9 C N ((fnO jh.res K0).blk 0 K) R)) (IR.run jh.b9 C N ((fnO jh.res K0).blk 0 K) R)) (jh.fr a z1 c z3 e v2 vL) h nx)) (K (jh.fr a z1 c z3 e v2 z6) h nx))=.ok True) :
  IR.run jh.b2 C N (fnO jh.res K0) K (jh.fr a b c d e i l) h nx=.ok True:=by
 rw [jh.b2,jh.og,jh.b3];refine yK (fun m tm h nx=>∃ z1 z3 z5 z6,tm=(jh.fr a z1 c z3 e z5 z6)/\Inv m z3 h nx) ?_ hm ⟨_,_,_,_,rfl,hi⟩;rintro m tm h nx R ⟨z1,z3,z5,z6,rfl,hi⟩ hR;refine Eq.trans ?_ (step m z1 z3 z5 z6 h nx R hi fun m' w1 w3 w5 w6 h' nx' hlt hi'=>hR m' _ h' nx' hlt ⟨_,_,_,_,rfl,hi'⟩)
 kernel_rfl
theorem jh.k10:IR.run jh.b10 C N (fnO jh.res K0) K (jh.fr a b c d e i l) h nx =
 K0 (I 0) h nx:=by kernel_rfl
theorem jh.k9 {E0:Ks Prop}:IR.run jh.b9 C N ((fnO jh.res K0).blk 0 E0) K (jh.fr a b c d e i l) h nx =
 zh .add .int d (I 1) fun v1=>K (jh.fr a b c v1 e i l) h nx:=by kernel_rfl
theorem jh.k8 {E0 E1:Ks Prop}:IR.run jh.b8 C N (((fnO jh.res K0).blk 0 E0).blk 1 E1) K (jh.fr a b c d e i l) h nx =
 zV 1 a d fun v1=>zG v1 h fun v2=>zV 1 c v2 fun v3=>zY 1 v3 (.bool true) h nx fun v4 h5 n6=>K (jh.fr a b c d e i l) h5 n6:=by kernel_rfl
theorem F80.tab:T.get none (.of 80) tbl=some F80:=by kernel_rfl
theorem F80.go:zQ tbl N C (.of 80) [a0,a1] h nx K0 =
 vk a0 h nx fun v1 h2 n3=>C.fn 79 (.of 79) [a1] h2 n3 fun v4 h5 n6=>zh .neq .int v4 (I 0) fun v7=>zX v7 (K0 (I 3) h5 n6) (zN 0 v1 fun v8=>zG v8 h5 fun v9=>sLen v9 fun vA=>zh .neq .int vA a1 fun vB=>zX vB (K0 (I 2) h5 n6) (zN 0 v1 fun vC=>zG vC h5 fun vD=>C.fn 139 (.of 139) [vD] h5 n6 fun vE hA nA=>K0 vE hA nA)):=by
 rw [zK F80.tab];kernel_rfl
theorem F79.tab:T.get none (.of 79) tbl=some F79:=by kernel_rfl
theorem F79.go:zQ tbl N C (.of 79) [a0] h nx K0 =
 zh .lss .int a0 (I 0) fun v1=>sG v1 false (fun k=>k a0) fun v2=>sG v1 false (fun k=>zh .gtr .int v2 (I 256) k) fun v3=>jE v1 (.bool true) v3 fun v4=>zX v4 (K0 (I 3) h nx) (K0 (I 0) h nx):=by
 rw [zK F79.tab];kernel_rfl
theorem F48.tab:T.get none (.of 48) tbl=some F48:=by kernel_rfl
theorem F48.go:zQ tbl N C (.of 48) [a0] h nx K0 =
 zh .eql (.nil .sl) a0 .zf fun v1=>zX v1 (K0 .zf h nx) (jM 1 0 [(I 0)] [] h nx fun v2 h3 n4=>tu 1 8 v2 a0 h3 n4 fun v5 h6 n7=>K0 v5 h6 n7):=by
 rw [zK F48.tab];kernel_rfl
theorem F24.og (X3:IR) (O:yu Prop) (t:T AV):IR.run (F24.g2 X3) C N O K t h nx=IR.run X3 C N (O.blk 0 K) K t h nx:=by kernel_rfl
theorem F24.tab:T.get none (.of 24) tbl=some F24:=by kernel_rfl
theorem F24.go:zQ tbl N C (.of 24) [a0,a1] h nx K0 =
 sLen a0 fun v1=>sLen a1 fun v2=>zh .neq .int v1 v2 fun v3=>zX v3 (K0 (.bool false) h nx) (IR.run F24.b2 C N (fnO F24.res K0) (IR.run F24.b9 C N (fnO F24.res K0) (jq F24.res K0)) (F24.fr a0 a1 (.bool false) (I 0) v3 .u .u) h nx):=by
 rw [zK F24.tab];kernel_rfl
theorem F24.L2 (Inv:Nat->AV->T Blk->Pa->Prop) {m:Nat} (hm:m<N) (hi:Inv m d h nx)
  (step:∀ (m:Nat) (z2 z3 z5 z6:AV) (h:T Blk) (nx:Pa) (R:Ks Prop),Inv m z3 h nx->(∀ (m':Nat) (w2 w3 w5 w6:AV) (h':T Blk) (nx':Pa),m'<m->Inv m' w3 h' nx'->R (F24.fr a b w2 w3 e w5 w6) h' nx'=.ok True) ->
   (sLen a fun v1=>zh .lss .int z3 v1 fun v2=>zX v2 (zV 1 a z3 fun v3=>zG v3 h fun v4=>zV 1 b z3 fun v5=>zG v5 h fun v6=>zh .neq .int v4 v6 fun v7=>zX v7 (K0 (.bool false) h nx) (zh .add .int z3 (I 1) fun v8=>R (F24.fr a b z2 v8 e v2 v7) h nx)) (K (F24.fr a b z2 z3 e v2 z6) h nx))=.ok True) :
  IR.run F24.b2 C N (fnO F24.res K0) K (F24.fr a b c d e i l) h nx=.ok True:=by
 rw [F24.b2,F24.og,F24.b3];refine yK (fun m tm h nx=>∃ z2 z3 z5 z6,tm=(F24.fr a b z2 z3 e z5 z6)/\Inv m z3 h nx) ?_ hm ⟨_,_,_,_,rfl,hi⟩;rintro m tm h nx R ⟨z2,z3,z5,z6,rfl,hi⟩ hR;refine Eq.trans ?_ (step m z2 z3 z5 z6 h nx R hi fun m' w2 w3 w5 w6 h' nx' hlt hi'=>hR m' _ h' nx' hlt ⟨_,_,_,_,rfl,hi'⟩)
 kernel_rfl
theorem F24.k9:IR.run F24.b9 C N (fnO F24.res K0) K (F24.fr a b c d e i l) h nx =
 K0 (.bool true) h nx:=by kernel_rfl
theorem gu.og (X3:IR) (O:yu Prop) (t:T AV):IR.run (gu.g2 X3) C N O K t h nx=IR.run X3 C N (O.blk 0 K) K t h nx:=by kernel_rfl
theorem gu.tab:T.get none (.of 190) tbl=some gu:=by kernel_rfl
theorem gu.go:zQ tbl N C (.of 190) [a0,a1] h nx K0 =
 sLen a0 fun v1=>sLen a1 fun v2=>zh .neq .int v1 v2 fun v3=>zX v3 (K0 (.bool false) h nx) (sLen a0 fun v4=>IR.run gu.b2 C N (fnO gu.res K0) (IR.run gu.b9 C N (fnO gu.res K0) (jq gu.res K0)) (gu.fr a0 a1 (.bool false) .u v3 v4 (I 0) .u .u) h nx):=by
 rw [zK gu.tab];kernel_rfl
theorem gu.L2 (Inv:Nat->AV->T Blk->Pa->Prop) {m:Nat} (hm:m<N) (hi:Inv m l h nx)
  (step:∀ (m:Nat) (z2 z3 z6 z7 z8:AV) (h:T Blk) (nx:Pa) (R:Ks Prop),Inv m z6 h nx->(∀ (m':Nat) (w2 w3 w6 w7 w8:AV) (h':T Blk) (nx':Pa),m'<m->Inv m' w6 h' nx'->R (gu.fr a b w2 w3 e i w6 w7 w8) h' nx'=.ok True) ->
   (zh .lss .int z6 i fun v1=>zX v1 (zV 1 a z6 fun v2=>zG v2 h fun v3=>zV 1 b z6 fun v4=>zG v4 h fun v5=>zh .neq .int v3 v5 fun v6=>zX v6 (K0 (.bool false) h nx) (zh .add .int z6 (I 1) fun v7=>R (gu.fr a b z2 z6 e i v7 v1 v6) h nx)) (K (gu.fr a b z2 z3 e i z6 v1 z8) h nx))=.ok True) :
  IR.run gu.b2 C N (fnO gu.res K0) K (gu.fr a b c d e i l o q) h nx=.ok True:=by
 rw [gu.b2,gu.og,gu.b3];refine yK (fun m tm h nx=>∃ z2 z3 z6 z7 z8,tm=(gu.fr a b z2 z3 e i z6 z7 z8)/\Inv m z6 h nx) ?_ hm ⟨_,_,_,_,_,rfl,hi⟩;rintro m tm h nx R ⟨z2,z3,z6,z7,z8,rfl,hi⟩ hR;refine Eq.trans ?_ (step m z2 z3 z6 z7 z8 h nx R hi fun m' w2 w3 w6 w7 w8 h' nx' hlt hi'=>hR m' _ h' nx' hlt ⟨_,_,_,_,_,rfl,hi'⟩)
 kernel_rfl
theorem gu.k9:IR.run gu.b9 C N (fnO gu.res K0) K (gu.fr a b c d e i l o q) h nx =
 K0 (.bool true) h nx:=by kernel_rfl
theorem F42.ql (X2:IR) (O:yu Prop) (t:T AV):IR.run (F42.g1 X2) C N O K t h nx=IR.run X2 C N (O.blk 0 K) K t h nx:=by kernel_rfl
theorem F42.tab:T.get none (.of 42) tbl=some F42:=by kernel_rfl
theorem F42.go:zQ tbl N C (.of 42) [a0] h nx K0 =
 sLen a0 fun v1=>IR.run F42.b1 C N (fnO F42.res K0) (IR.run F42.b8 C N (fnO F42.res K0) (jq F42.res K0)) (F42.fr a0 (I 0) .u a0 v1 (I 0) .u .u) h nx:=by
 rw [zK F42.tab];kernel_rfl
theorem F42.L1 (Inv:Nat->AV->T Blk->Pa->Prop) {m:Nat} (hm:m<N) (hi:Inv m i h nx)
  (step:∀ (m:Nat) (z1 z2 z5 z6 z7:AV) (h:T Blk) (nx:Pa) (R:Ks Prop),Inv m z5 h nx->(∀ (m':Nat) (w1 w2 w5 w6 w7:AV) (h':T Blk) (nx':Pa),m'<m->Inv m' w5 h' nx'->R (F42.fr a w1 w2 d e w5 w6 w7) h' nx'=.ok True) ->
   (zh .lss .int z5 e fun v1=>zX v1 (zV 1 d z5 fun v2=>zG v2 h fun v3=>zh .neq .int v3 (I 0) fun v4=>zX v4 (K0 v3 h nx) (zh .add .int z5 (I 1) fun v5=>R (F42.fr a z1 v3 d e v5 v1 v4) h nx)) (K (F42.fr a z1 z2 d e z5 v1 z7) h nx))=.ok True) :
  IR.run F42.b1 C N (fnO F42.res K0) K (F42.fr a b c d e i l o) h nx=.ok True:=by
 rw [F42.b1,F42.ql,F42.b2];refine yK (fun m tm h nx=>∃ z1 z2 z5 z6 z7,tm=(F42.fr a z1 z2 d e z5 z6 z7)/\Inv m z5 h nx) ?_ hm ⟨_,_,_,_,_,rfl,hi⟩;rintro m tm h nx R ⟨z1,z2,z5,z6,z7,rfl,hi⟩ hR;refine Eq.trans ?_ (step m z1 z2 z5 z6 z7 h nx R hi fun m' w1 w2 w5 w6 w7 h' nx' hlt hi'=>hR m' _ h' nx' hlt ⟨_,_,_,_,_,rfl,hi'⟩)
 kernel_rfl
theorem F42.k8:IR.run F42.b8 C N (fnO F42.res K0) K (F42.fr a b c d e i l o) h nx =
 K0 (I 0) h nx:=by kernel_rfl
theorem F44.tab:T.get none (.of 44) tbl=some F44:=by kernel_rfl
theorem F44.go:zQ tbl N C (.of 44) [a0,a1] h nx K0 =
 zX a0 (K0 a1 h nx) (K0 (I 0) h nx):=by
 rw [zK F44.tab];kernel_rfl
theorem F70.tab:T.get none (.of 70) tbl=some F70:=by kernel_rfl
theorem F70.go:zQ tbl N C (.of 70) [a0,a1,a2] h nx K0 =
 vk a0 h nx fun v1 h2 n3=>vk a1 h2 n3 fun v4 h5 n6=>C.fn 66 (.of 66) [a2,(.fn 131 (.of 131) [v1,v4])] h5 n6 fun v7 h8 n9=>C.fn 44 (.of 44) [v7,(I 3)] h8 n9 fun vA hB nB=>K0 vA hB nB:=by
 rw [zK F70.tab];kernel_rfl
theorem oQ.tab:T.get none (.of 131) tbl=some oQ:=by kernel_rfl
theorem oQ.go:zQ tbl N C (.of 131) [a0,a1,a2] h nx K0 =
 zG a1 h fun v1=>zh .lss .int a0 v1 fun v2=>sG v2 false (fun k=>k a0) fun v3=>sG v2 false (fun k=>zG a2 h k) fun v4=>sG v2 false (fun k=>zh .gtr .int v3 v4 k) fun v5=>jE v2 (.bool true) v5 fun v6=>K0 v6 h nx:=by
 rw [zK oQ.tab];kernel_rfl
theorem F66.tab:T.get none (.of 66) tbl=some F66:=by kernel_rfl
theorem F66.go:zQ tbl N C (.of 66) [a0,a1] h nx K0 =
 C.fn 127 (.of 127) [a0,a1] h nx fun v1 h2 n3=>zh .geq .int v1 (I 0) fun v4=>K0 v4 h2 n3:=by
 rw [zK F66.tab];kernel_rfl
theorem ug.ql (X2:IR) (O:yu Prop) (t:T AV):IR.run (ug.g1 X2) C N O K t h nx=IR.run X2 C N (O.blk 0 K) K t h nx:=by kernel_rfl
theorem ug.tab:T.get none (.of 127) tbl=some ug:=by kernel_rfl
theorem ug.go:zQ tbl N C (.of 127) [a0,a1] h nx K0 =
 sLen a0 fun v1=>IR.run ug.b1 C N (fnO ug.res K0) (IR.run ug.b8 C N (fnO ug.res K0) (jq ug.res K0)) (ug.fr a0 a1 (I 0) .u v1 (I 0) .u .u) h nx:=by
 rw [zK ug.tab];kernel_rfl
theorem ug.L1 (Inv:Nat->AV->T Blk->Pa->Prop) {m:Nat} (hm:m<N) (hi:Inv m i h nx)
  (step:∀ (m:Nat) (z2 z3 z5 z6 z7:AV) (h:T Blk) (nx:Pa) (R:Ks Prop),Inv m z5 h nx->(∀ (m':Nat) (w2 w3 w5 w6 w7:AV) (h':T Blk) (nx':Pa),m'<m->Inv m' w5 h' nx'->R (ug.fr a b w2 w3 e w5 w6 w7) h' nx'=.ok True) ->
   (zh .lss .int z5 e fun v1=>zX v1 (zV 1 a z5 fun v2=>zG v2 h fun v3=>qC C b [v3] h nx fun v4 h5 n6=>zX v4 (K0 z5 h5 n6) (zh .add .int z5 (I 1) fun v7=>R (ug.fr a b z2 z5 e v7 v1 v4) h5 n6)) (K (ug.fr a b z2 z3 e z5 v1 z7) h nx))=.ok True) :
  IR.run ug.b1 C N (fnO ug.res K0) K (ug.fr a b c d e i l o) h nx=.ok True:=by
 rw [ug.b1,ug.ql,ug.b2];refine yK (fun m tm h nx=>∃ z2 z3 z5 z6 z7,tm=(ug.fr a b z2 z3 e z5 z6 z7)/\Inv m z5 h nx) ?_ hm ⟨_,_,_,_,_,rfl,hi⟩;rintro m tm h nx R ⟨z2,z3,z5,z6,z7,rfl,hi⟩ hR;refine Eq.trans ?_ (step m z2 z3 z5 z6 z7 h nx R hi fun m' w2 w3 w5 w6 w7 h' nx' hlt hi'=>hR m' _ h' nx' hlt ⟨_,_,_,_,_,rfl,hi'⟩)
 kernel_rfl
theorem ug.k8:IR.run ug.b8 C N (fnO ug.res K0) K (ug.fr a b c d e i l o) h nx =
 K0 (I (-1)) h nx:=by kernel_rfl
theorem oU.tab:T.get none (.of 102) tbl=some oU:=by kernel_rfl
theorem oU.go:zQ tbl N C (.of 102) [a0] h nx K0 =
 vk a0 h nx fun v1 h2 n3=>K0 (.fn 169 (.of 169) [v1]) h2 n3:=by
 rw [zK oU.tab];kernel_rfl
theorem oV.tab:T.get none (.of 101) tbl=some oV:=by kernel_rfl
theorem oV.go:zQ tbl N C (.of 101) [a0] h nx K0 =
 C.fn 168 (.of 168) [a0] h nx fun v1 h2 n3=>C.fn 138 (.of 138) [v1] h2 n3 fun v4 h5 n6=>K0 v1 h5 n6:=by
 rw [zK oV.tab];kernel_rfl
theorem oW.tab:T.get none (.of 168) tbl=some oW:=by kernel_rfl
theorem oW.go:zQ tbl N C (.of 168) [a0] h nx K0 =
 C.fn 221 (.of 221) [.zf,a0] h nx fun v1 h2 n3=>K0 v1 h2 n3:=by
 rw [zK oW.tab];kernel_rfl
theorem wo.ql (X2:IR) (O:yu Prop) (t:T AV):IR.run (wo.g1 X2) C N O K t h nx=IR.run X2 C N (O.blk 0 K) K t h nx:=by kernel_rfl
theorem wo.tab:T.get none (.of 169) tbl=some wo:=by kernel_rfl
theorem wo.go:zQ tbl N C (.of 169) [a0,a1] h nx K0 =
 zG a1 h fun v1=>sLen v1 fun v2=>IR.run wo.b1 C N (fnO wo.res K0) (jq wo.res K0) (wo.fr a0 a1 .u v1 v2 (I 0) .u .u) h nx:=by
 rw [zK wo.tab];kernel_rfl
theorem wo.L1 (Inv:Nat->AV->T Blk->Pa->Prop) {m:Nat} (hm:m<N) (hi:Inv m i h nx)
  (step:∀ (m:Nat) (z2 z5 z6 z7:AV) (h:T Blk) (nx:Pa) (R:Ks Prop),Inv m z5 h nx->(∀ (m':Nat) (w2 w5 w6 w7:AV) (h':T Blk) (nx':Pa),m'<m->Inv m' w5 h' nx'->R (wo.fr a b w2 d e w5 w6 w7) h' nx'=.ok True) ->
   (zh .lss .int z5 e fun v1=>zX v1 (zV 1 d z5 fun v2=>zG v2 h fun v3=>qC C a [v3] h nx fun v4 h5 n6=>oM v4 fun v7=>zX v7 (K0 (.tup []) h5 n6) (zh .add .int z5 (I 1) fun v8=>R (wo.fr a b v3 d e v8 v1 v7) h5 n6)) (K (wo.fr a b z2 d e z5 v1 z7) h nx))=.ok True) :
  IR.run wo.b1 C N (fnO wo.res K0) K (wo.fr a b c d e i l o) h nx=.ok True:=by
 rw [wo.b1,wo.ql,wo.b2];refine yK (fun m tm h nx=>∃ z2 z5 z6 z7,tm=(wo.fr a b z2 d e z5 z6 z7)/\Inv m z5 h nx) ?_ hm ⟨_,_,_,_,rfl,hi⟩;rintro m tm h nx R ⟨z2,z5,z6,z7,rfl,hi⟩ hR;refine Eq.trans ?_ (step m z2 z5 z6 z7 h nx R hi fun m' w2 w5 w6 w7 h' nx' hlt hi'=>hR m' _ h' nx' hlt ⟨_,_,_,_,rfl,hi'⟩)
 kernel_rfl
theorem qg.tab:T.get none (.of 221) tbl=some qg:=by kernel_rfl
theorem qg.go:zQ tbl N C (.of 221) [a0,a1] h nx K0 =
 vk a0 h nx fun v1 h2 n3=>IR.run (.rf (.t (.of 5)) [(.of 6)] qg.b3 qg.b4) C N ((fnO qg.res K0).blk 0 (IR.run qg.b6 C N (fnO qg.res K0) (jq qg.res K0))) (IR.run qg.b6 C N (fnO qg.res K0) (jq qg.res K0)) (qg.fr a0 a1 v1 .zf .u a1 .u) h2 n3:=by
 rw [zK qg.tab];kernel_rfl
theorem qg.k6:IR.run qg.b6 C N (fnO qg.res K0) K (qg.fr a b c d e i l) h nx =
 zG c h fun v1=>K0 v1 h nx:=by kernel_rfl
theorem qg.y4 {N:Nat} {C:Calls Prop} {K0:Kw Prop} {id nx:Pa} {j:Jump} {h h1:T Blk} {a b c d e i l z0:AV} (hl:T.get .no id h=.loop .ready j (qg.fr a b c d e i l) [.of 6] qg.b3 qg.b4) (he:h1=T.set .no (.loop .busy j (qg.fr a b c d e i l) [.of 6] qg.b3 qg.b4) id h) :
 kX N C id [z0] h nx K0 =
 zG c h1 fun v1=>jM 1 1 [(I 0)] [(0,1,z0)] h1 nx fun v2 h3 n4=>tu 1 8 v1 v2 h3 n4 fun v5 h6 n7=>zY 1 c v5 h6 n7 fun v8 h9 nC=>yZ id K0 .none true .e h9 nC:=by
 subst he;rw [zw4 hl (tm1:=(qg.fr a b c d e i z0)) (tm2:=(qg.fr a b c d z0 i z0)) (by intro k;kernel_rfl) (by intro O K h nx;kernel_rfl)];kernel_rfl
theorem jr.ql (X2:IR) (O:yu Prop) (t:T AV):IR.run (jr.g1 X2) C N O K t h nx=IR.run X2 C N (O.blk 0 K) K t h nx:=by kernel_rfl
theorem jr.tab:T.get none (.of 140) tbl=some jr:=by kernel_rfl
theorem jr.go:zQ tbl N C (.of 140) [a0,a1] h nx K0 =
 IR.run jr.b1 C N (fnO jr.res K0) (IR.run jr.b8 C N (fnO jr.res K0) (jq jr.res K0)) (jr.fr a0 a1 (.bool false) (I 0) .u .u) h nx:=by
 rw [zK jr.tab];kernel_rfl
theorem jr.L1 (Inv:Nat->AV->T Blk->Pa->Prop) {m:Nat} (hm:m<N) (hi:Inv m d h nx)
  (step:∀ (m:Nat) (z2 z3 z4 z5:AV) (h:T Blk) (nx:Pa) (R:Ks Prop),Inv m z3 h nx->(∀ (m':Nat) (w2 w3 w4 w5:AV) (h':T Blk) (nx':Pa),m'<m->Inv m' w3 h' nx'->R (jr.fr a b w2 w3 w4 w5) h' nx'=.ok True) ->
   (sLen a fun v1=>zh .lss .int z3 v1 fun v2=>sG v2 true (fun k=>k z3) fun v3=>sG v2 true (fun k=>k b) fun v4=>sG v2 true (fun k=>sLen v4 k) fun v5=>sG v2 true (fun k=>zh .lss .int v3 v5 k) fun v6=>jE v2 v6 (.bool false) fun v7=>zX v7 ((IR.run jr.b4 C N ((fnO jr.res K0).blk 0 K) R) (jr.fr a b z2 z3 v7 z5) h nx) (K (jr.fr a b z2 z3 v7 z5) h nx))=.ok True) :
  IR.run jr.b1 C N (fnO jr.res K0) K (jr.fr a b c d e i) h nx=.ok True:=by
 rw [jr.b1,jr.ql,jr.b2];refine yK (fun m tm h nx=>∃ z2 z3 z4 z5,tm=(jr.fr a b z2 z3 z4 z5)/\Inv m z3 h nx) ?_ hm ⟨_,_,_,_,rfl,hi⟩;rintro m tm h nx R ⟨z2,z3,z4,z5,rfl,hi⟩ hR;refine Eq.trans ?_ (step m z2 z3 z4 z5 h nx R hi fun m' w2 w3 w4 w5 h' nx' hlt hi'=>hR m' _ h' nx' hlt ⟨_,_,_,_,rfl,hi'⟩)
 kernel_rfl
theorem jr.k8:IR.run jr.b8 C N (fnO jr.res K0) K (jr.fr a b c d e i) h nx =
 sLen a fun v1=>sLen b fun v2=>zh .lss .int v1 v2 fun v3=>K0 v3 h nx:=by kernel_rfl
theorem jr.k4 {E0:Ks Prop}:IR.run jr.b4 C N ((fnO jr.res K0).blk 0 E0) K (jr.fr a b c d e i) h nx =
 zV 1 a d fun v1=>zG v1 h fun v2=>zV 1 b d fun v3=>zG v3 h fun v4=>zh .neq .int v2 v4 fun v5=>zX v5 (zV 1 a d fun v6=>zG v6 h fun v7=>zV 1 b d fun v8=>zG v8 h fun v9=>zh .lss .int v7 v9 fun vA=>K0 vA h nx) (zh .add .int d (I 1) fun vB=>K (jr.fr a b c vB e v5) h nx):=by kernel_rfl
theorem jy.ql (X2:IR) (O:yu Prop) (t:T AV):IR.run (jy.g1 X2) C N O K t h nx=IR.run X2 C N (O.blk 0 K) K t h nx:=by kernel_rfl
theorem jy.tab:T.get none (.of 161) tbl=some jy:=by kernel_rfl
theorem jy.go:zQ tbl N C (.of 161) [a0,a1] h nx K0 =
 sLen a0 fun v1=>IR.run jy.b1 C N (fnO jy.res K0) (IR.run jy.b9 C N (fnO jy.res K0) (jq jy.res K0)) (jy.fr a0 a1 (I 0) .u .u .u .u a0 v1 (I 0) .u .u .u .u) h nx:=by
 rw [zK jy.tab];kernel_rfl
theorem jy.L1 (Inv:Nat->AV->T Blk->Pa->Prop) {m:Nat} (hm:m<N) (hi:Inv m s h nx)
  (step:∀ (m:Nat) (z2 z3 z4 z5 z6 z9 zA zB zD:AV) (h:T Blk) (nx:Pa) (R:Ks Prop),Inv m z9 h nx->(∀ (m':Nat) (w2 w3 w4 w5 w6 w9 wA wB wC:AV) (h':T Blk) (nx':Pa),m'<m->Inv m' w9 h' nx'->R (jy.fr a b w2 w3 w4 w5 w6 o q w9 wA wB wC v) h' nx'=.ok True) ->
   (zh .lss .int z9 q fun v1=>zX v1 (zV 1 o z9 fun v2=>zG v2 h fun v3=>sLen b fun v4=>zh .geq .int z9 v4 fun v5=>zX v5 (K0 (I 1) h nx) (zV 1 b z9 fun v6=>zG v6 h fun v7=>C.fn 217 (.of 217) [v3,v7] h nx fun v8 h9 nC=>zh .neq .int v8 (I 0) fun vB=>zX vB (K0 v8 h9 nC) (zh .add .int z9 (I 1) fun vC=>R (jy.fr a b z2 z9 v3 v7 v8 o q vC v1 v5 vB v) h9 nC))) (K (jy.fr a b z2 z3 z4 z5 z6 o q z9 v1 zB zD v) h nx))=.ok True) :
  IR.run jy.b1 C N (fnO jy.res K0) K (jy.fr a b c d e i l o q s f p u v) h nx=.ok True:=by
 rw [jy.b1,jy.ql,jy.b2];refine yK (fun m tm h nx=>∃ z2 z3 z4 z5 z6 z9 zA zB zD,tm=(jy.fr a b z2 z3 z4 z5 z6 o q z9 zA zB zD v)/\Inv m z9 h nx) ?_ hm ⟨_,_,_,_,_,_,_,_,_,rfl,hi⟩;rintro m tm h nx R ⟨z2,z3,z4,z5,z6,z9,zA,zB,zD,rfl,hi⟩ hR;refine Eq.trans ?_ (step m z2 z3 z4 z5 z6 z9 zA zB zD h nx R hi fun m' w2 w3 w4 w5 w6 w9 wA wB wC h' nx' hlt hi'=>hR m' _ h' nx' hlt ⟨_,_,_,_,_,_,_,_,_,rfl,hi'⟩)
 kernel_rfl
theorem jy.k9:IR.run jy.b9 C N (fnO jy.res K0) K (jy.fr a b c d e i l o q s f p u v) h nx =
 sLen a fun v1=>sLen b fun v2=>zh .lss .int v1 v2 fun v3=>zX v3 (K0 (I (-1)) h nx) (K0 (I 0) h nx):=by kernel_rfl
theorem rJ.tab:T.get none (.of 217) tbl=some rJ:=by kernel_rfl
theorem rJ.go:zQ tbl N C (.of 217) [a0,a1] h nx K0 =
 C.fn 261 (.of 261) [a0] h nx fun v1 h2 n3=>C.fn 261 (.of 261) [a1] h2 n3 fun v4 h5 n6=>zX v1 (zX v4 (K0 (I 0) h5 n6) (K0 (I (-1)) h5 n6)) (zX v4 (K0 (I 1) h5 n6) (zh .lss .int a0 a1 fun v7=>zX v7 (K0 (I (-1)) h5 n6) (zh .gtr .int a0 a1 fun v8=>zX v8 (K0 (I 1) h5 n6) (K0 (I 0) h5 n6)))):=by
 rw [zK rJ.tab];kernel_rfl
theorem oZ.tab:T.get none (.of 261) tbl=some oZ:=by kernel_rfl
theorem oZ.go:zQ tbl N C (.of 261) [a0] h nx K0 =
 zh .neq .int a0 a0 fun v1=>K0 v1 h nx:=by
 rw [zK oZ.tab];kernel_rfl
theorem F81.tab:T.get none (.of 81) tbl=some F81:=by kernel_rfl
theorem F81.go:zQ tbl N C (.of 81) [a0,a1] h nx K0 =
 vk a0 h nx fun v1 h2 n3=>vk a1 h2 n3 fun v4 h5 n6=>zN 0 v1 fun v7=>zG v7 h5 fun v8=>zN 0 v4 fun v9=>zG v9 h5 fun vA=>C.fn 24 (.of 24) [v8,vA] h5 n6 fun vB hC nD=>zX vB (zN 1 v1 fun vE=>zG vE hC fun vF=>oM vF fun vG=>sG vG true (fun k=>zN 1 v4 k) fun vH=>sG vG true (fun k=>zG vH hC k) fun vI=>jE vG vI (.bool false) fun vJ=>K0 vJ hC nD) (zN 0 v1 fun vK=>zG vK hC fun vL=>zN 0 v4 fun vM=>zG vM hC fun vN=>C.fn 140 (.of 140) [vL,vN] hC nD fun vO hD nE=>K0 vO hD nE):=by
 rw [zK F81.tab];kernel_rfl
theorem F82.ql (X2:IR) (O:yu Prop) (t:T AV):IR.run (F82.g1 X2) C N O K t h nx=IR.run X2 C N (O.blk 0 K) K t h nx:=by kernel_rfl
theorem F82.tab:T.get none (.of 82) tbl=some F82:=by kernel_rfl
theorem F82.go:zQ tbl N C (.of 82) [a0,a1] h nx K0 =
 vk a1 h nx fun v1 h2 n3=>IR.run F82.b1 C N (fnO F82.res K0) (IR.run F82.b8 C N (fnO F82.res K0) (jq F82.res K0)) (F82.fr a0 a1 v1 (I 0) (I 0) .u .u) h2 n3:=by
 rw [zK F82.tab];kernel_rfl
theorem F82.L1 (Inv:Nat->AV->T Blk->Pa->Prop) {m:Nat} (hm:m<N) (hi:Inv m e h nx)
  (step:∀ (m:Nat) (z3 z4 z5 z6:AV) (h:T Blk) (nx:Pa) (R:Ks Prop),Inv m z4 h nx->(∀ (m':Nat) (w3 w4 w5 w6:AV) (h':T Blk) (nx':Pa),m'<m->Inv m' w4 h' nx'->R (F82.fr a b c w3 w4 w5 w6) h' nx'=.ok True) ->
   (sLen a fun v1=>zh .lss .int z4 v1 fun v2=>zX v2 (zV 2 a z4 fun v3=>zS 2 v3 h fun v4=>zS 2 c h fun v5=>C.fn 141 (.of 141) [v4,v5] h nx fun v6 h7 n8=>zX v6 (K0 z4 h7 n8) (zh .add .int z4 (I 1) fun v9=>R (F82.fr a b c z3 v9 v2 v6) h7 n8)) (K (F82.fr a b c z3 z4 v2 z6) h nx))=.ok True) :
  IR.run F82.b1 C N (fnO F82.res K0) K (F82.fr a b c d e i l) h nx=.ok True:=by
 rw [F82.b1,F82.ql,F82.b2];refine yK (fun m tm h nx=>∃ z3 z4 z5 z6,tm=(F82.fr a b c z3 z4 z5 z6)/\Inv m z4 h nx) ?_ hm ⟨_,_,_,_,rfl,hi⟩;rintro m tm h nx R ⟨z3,z4,z5,z6,rfl,hi⟩ hR;refine Eq.trans ?_ (step m z3 z4 z5 z6 h nx R hi fun m' w3 w4 w5 w6 h' nx' hlt hi'=>hR m' _ h' nx' hlt ⟨_,_,_,_,rfl,hi'⟩)
 kernel_rfl
theorem F82.k8:IR.run F82.b8 C N (fnO F82.res K0) K (F82.fr a b c d e i l) h nx =
 K0 (I (-1)) h nx:=by kernel_rfl
theorem F83.tab:T.get none (.of 83) tbl=some F83:=by kernel_rfl
theorem F83.go:zQ tbl N C (.of 83) [a0,a1] h nx K0 =
 vk a0 h nx fun v1 h2 n3=>vk a1 h2 n3 fun v4 h5 n6=>yT [.zf,(.bool false)] h5 n6 fun v7 h8 n9=>zN 0 v1 fun vA=>zG vA h8 fun vB=>zN 0 v4 fun vC=>zG vC h8 fun vD=>zN 1 v1 fun vE=>zG vE h8 fun vF=>zN 1 v4 fun vG=>zG vG h8 fun vH=>zh .neq .bool vF vH fun vI=>C.fn 142 (.of 142) [vB,vD] h8 n9 fun vJ hE nF=>(zh .neq .bool vF vH fun vP=>zT vP vI ((zG vG hE fun vQ=>zT vQ vH ((zN 1 v4 fun vR=>zT vR vG ((zG vE hE fun vS=>zT vS vF ((zN 1 v1 fun vU=>zT vU vE (jO [.zf,(.bool false)] [(0,1,vJ),(1,1,vI)] fun vM=>zY 2 v7 vM hE nF fun vN hF nG=>zS 2 v7 hF fun vV=>K0 vV hF nG)))))))))):=by
 rw [zK F83.tab];kernel_rfl
theorem o7.tab:T.get none (.of 141) tbl=some o7:=by kernel_rfl
theorem o7.go:zQ tbl N C (.of 141) [a0,a1] h nx K0 =
 vk a0 h nx fun v1 h2 n3=>vk a1 h2 n3 fun v4 h5 n6=>zN 1 v1 fun v7=>zG v7 h5 fun v8=>zN 1 v4 fun v9=>zG v9 h5 fun vA=>zh .eql .bool v8 vA fun vB=>sG vB true (fun k=>zN 0 v1 k) fun vC=>sG vB true (fun k=>zG vC h5 k) fun vD=>sG vB true (fun k=>zN 0 v4 k) fun vE=>sG vB true (fun k=>zG vE h5 k) fun vF=>sGW vB true (fun k=>C.fn 24 (.of 24) [vD,vF] h5 n6 k) h5 n6 fun vG hG nH=>jE vB vG (.bool false) fun vJ=>K0 vJ hG nH:=by
 rw [zK o7.tab];kernel_rfl
theorem uh.ql (X2:IR) (O:yu Prop) (t:T AV):IR.run (uh.g1 X2) C N O K t h nx=IR.run X2 C N (O.blk 0 K) K t h nx:=by kernel_rfl
theorem uh.tab:T.get none (.of 142) tbl=some uh:=by kernel_rfl
theorem uh.go:zQ tbl N C (.of 142) [a0,a1] h nx K0 =
 IR.run uh.b1 C N (fnO uh.res K0) (IR.run uh.b8 C N (fnO uh.res K0) (jq uh.res K0)) (uh.fr a0 a1 .zf .zf (I 0) .u) h nx:=by
 rw [zK uh.tab];kernel_rfl
theorem uh.L1 (Inv:Nat->AV->AV->T Blk->Pa->Prop) {m:Nat} (hm:m<N) (hi:Inv m d e h nx)
  (step:∀ (m:Nat) (z3 z4 z5:AV) (h:T Blk) (nx:Pa) (R:Ks Prop),Inv m z3 z4 h nx->(∀ (m':Nat) (w3 w4 w5:AV) (h':T Blk) (nx':Pa),m'<m->Inv m' w3 w4 h' nx'->R (uh.fr a b c w3 w4 w5) h' nx'=.ok True) ->
   (sLen b fun v1=>zh .lss .int z4 v1 fun v2=>zX v2 (zV 1 b z4 fun v3=>zG v3 h fun v4=>zV 1 a v4 fun v5=>zG v5 h fun v6=>jM 1 1 [(I 0)] [(0,1,v6)] h nx fun v7 h8 n9=>tu 1 8 z3 v7 h8 n9 fun vA hB nB=>zh .add .int z4 (I 1) fun vD=>R (uh.fr a b c vA vD v2) hB nB) (K (uh.fr a b c z3 z4 v2) h nx))=.ok True) :
  IR.run uh.b1 C N (fnO uh.res K0) K (uh.fr a b c d e i) h nx=.ok True:=by
 rw [uh.b1,uh.ql,uh.b2];refine yK (fun m tm h nx=>∃ z3 z4 z5,tm=(uh.fr a b c z3 z4 z5)/\Inv m z3 z4 h nx) ?_ hm ⟨_,_,_,rfl,hi⟩;rintro m tm h nx R ⟨z3,z4,z5,rfl,hi⟩ hR;refine Eq.trans ?_ (step m z3 z4 z5 h nx R hi fun m' w3 w4 w5 h' nx' hlt hi'=>hR m' _ h' nx' hlt ⟨_,_,_,rfl,hi'⟩)
 kernel_rfl
theorem uh.k8:IR.run uh.b8 C N (fnO uh.res K0) K (uh.fr a b c d e i) h nx =
 K0 d h nx:=by kernel_rfl
theorem F31.zz1 (X5:IR) (O:yu Prop) (t:T AV):IR.run (F31.g4 X5) C N O K t h nx=IR.run X5 C N (O.blk 0 K) K t h nx:=by kernel_rfl
theorem F31.zw5 (X13:IR) (O:yu Prop) (t:T AV):IR.run (F31.g12 X13) C N O K t h nx=IR.run X13 C N (O.blk 2 K) K t h nx:=by kernel_rfl
theorem F31.zw6 (X27:IR) (O:yu Prop) (t:T AV):IR.run (F31.g26 X27) C N O K t h nx=IR.run X27 C N (O.blk 6 K) K t h nx:=by kernel_rfl
theorem F31.zw7 (X21:IR) (O:yu Prop) (t:T AV):IR.run (F31.g20 X21) C N O K t h nx=IR.run X21 C N (O.blk 4 K) K t h nx:=by kernel_rfl
theorem F31.tab:T.get none (.of 31) tbl=some F31:=by kernel_rfl
theorem F31.go:zQ tbl N C (.of 31) [a0,a1] h nx K0 =
 C.fn 79 (.of 79) [a1] h nx fun v1 h2 n3=>zh .neq .int v1 (I 0) fun v4=>zX v4 (K0 (I 3) h2 n3) (sLen a0 fun v5=>zh .eql .int v5 (I 0) fun v6=>zX v6 (K0 (I 12) h2 n3) (sLen a0 fun v7=>zh .gtr .int v7 (I 1536) fun v8=>zX v8 (K0 (I 5) h2 n3) (IR.run F31.b4 C N (fnO F31.res K0) (IR.run F31.b11 C N (fnO F31.res K0) (jq F31.res K0)) (F31.fr a0 a1 (I 0) (I 0) .u .u .u .u v4 v6 v8 .u .u .u .u .u .u .u) h2 n3))):=by
 rw [zK F31.tab];kernel_rfl
theorem F31.L4 (Inv:Nat->AV->T Blk->Pa->Prop) {m:Nat} (hm:m<N) (hi:Inv m d h nx)
  (step:∀ (m:Nat) (z2 z3 z4 zB zD:AV) (h:T Blk) (nx:Pa) (R:Ks Prop),Inv m z3 h nx->(∀ (m':Nat) (w2 w3 w4 wB wC:AV) (h':T Blk) (nx':Pa),m'<m->Inv m' w3 h' nx'->R (F31.fr a b w2 w3 w4 i l o q s f wB wC v w y D z) h' nx'=.ok True) ->
   (sLen a fun v1=>zh .lss .int z3 v1 fun v2=>zX v2 (zV 2 a z3 fun v3=>zS 2 v3 h fun v4=>C.fn 80 (.of 80) [v4,b] h nx fun v5 h6 n7=>zh .neq .int v5 (I 0) fun v8=>zX v8 (K0 v5 h6 n7) (zh .add .int z3 (I 1) fun v9=>R (F31.fr a b z2 v9 v5 i l o q s f v2 v8 v w y D z) h6 n7)) (K (F31.fr a b z2 z3 z4 i l o q s f v2 zD v w y D z) h nx))=.ok True) :
  IR.run F31.b4 C N (fnO F31.res K0) K (F31.fr a b c d e i l o q s f p u v w y D z) h nx=.ok True:=by
 rw [F31.b4,F31.zz1,F31.b5];refine yK (fun m tm h nx=>∃ z2 z3 z4 zB zD,tm=(F31.fr a b z2 z3 z4 i l o q s f zB zD v w y D z)/\Inv m z3 h nx) ?_ hm ⟨_,_,_,_,_,rfl,hi⟩;rintro m tm h nx R ⟨z2,z3,z4,zB,zD,rfl,hi⟩ hR;refine Eq.trans ?_ (step m z2 z3 z4 zB zD h nx R hi fun m' w2 w3 w4 wB wC h' nx' hlt hi'=>hR m' _ h' nx' hlt ⟨_,_,_,_,_,rfl,hi'⟩)
 kernel_rfl
theorem F31.k11:IR.run F31.b11 C N (fnO F31.res K0) K (F31.fr a b c d e i l o q s f p u v w y D z) h nx =
 IR.run F31.b12 C N (fnO F31.res K0) (IR.run F31.b19 C N (fnO F31.res K0) K) (F31.fr a b c d e (I 1) l o q s f p u v w y D z) h nx:=by kernel_rfl
theorem F31.L12 (Inv:Nat->AV->T Blk->Pa->Prop) {m:Nat} (hm:m<N) (hi:Inv m i h nx)
  (step:∀ (m:Nat) (z2 z5 zE zF:AV) (h:T Blk) (nx:Pa) (R:Ks Prop),Inv m z5 h nx->(∀ (m':Nat) (w2 w5 wD wE:AV) (h':T Blk) (nx':Pa),m'<m->Inv m' w5 h' nx'->R (F31.fr a b w2 d e w5 l o q s f p u wD wE y D z) h' nx'=.ok True) ->
   (sLen a fun v1=>zh .lss .int z5 v1 fun v2=>zX v2 (zh .sub .int z5 (I 1) fun v3=>zV 2 a v3 fun v4=>zS 2 v4 h fun v5=>zV 2 a z5 fun v6=>zS 2 v6 h fun v7=>C.fn 81 (.of 81) [v5,v7] h nx fun v8 h9 nC=>oM v8 fun vB=>zX vB (K0 (I 11) h9 nC) (zh .add .int z5 (I 1) fun vC=>R (F31.fr a b z2 d e vC l o q s f p u v2 vB y D z) h9 nC)) (K (F31.fr a b z2 d e z5 l o q s f p u v2 zF y D z) h nx))=.ok True) :
  IR.run F31.b12 C N (fnO F31.res K0) K (F31.fr a b c d e i l o q s f p u v w y D z) h nx=.ok True:=by
 rw [F31.b12,F31.zw5,F31.b13];refine yK (fun m tm h nx=>∃ z2 z5 zE zF,tm=(F31.fr a b z2 d e z5 l o q s f p u zE zF y D z)/\Inv m z5 h nx) ?_ hm ⟨_,_,_,_,rfl,hi⟩;rintro m tm h nx R ⟨z2,z5,zE,zF,rfl,hi⟩ hR;refine Eq.trans ?_ (step m z2 z5 zE zF h nx R hi fun m' w2 w5 wD wE h' nx' hlt hi'=>hR m' _ h' nx' hlt ⟨_,_,_,_,rfl,hi'⟩)
 kernel_rfl
theorem F31.k19:IR.run F31.b19 C N (fnO F31.res K0) K (F31.fr a b c d e i l o q s f p u v w y D z) h nx =
 IR.run F31.b20 C N (fnO F31.res K0) (IR.run F31.b34 C N (fnO F31.res K0) K) (F31.fr a b c d e i (I 0) o q s f p u v w y D z) h nx:=by kernel_rfl
theorem F31.L20 (Inv:Nat->AV->T Blk->Pa->Prop) {m:Nat} (hm:m<N) (hi:Inv m l h nx)
  (step:∀ (m:Nat) (z2 z6 z7 zH zI zJ:AV) (h:T Blk) (nx:Pa) (R:Ks Prop),Inv m z6 h nx->(∀ (m':Nat) (w2 w6 w7 wF wG wH:AV) (h':T Blk) (nx':Pa),m'<m->Inv m' w6 h' nx'->R (F31.fr a b w2 d e i w6 w7 q s f p u v w wF wG wH) h' nx'=.ok True) ->
   (sLen a fun v1=>zh .lss .int z6 v1 fun v2=>zX v2 (IR.run F31.b26 C N (((fnO F31.res K0).blk 4 K).blk 5 (IR.run F31.b33 C N ((fnO F31.res K0).blk 4 K) R)) (IR.run F31.b33 C N ((fnO F31.res K0).blk 4 K) R) (F31.fr a b z2 d e i z6 (I 0) q s f p u v w v2 zI zJ) h nx) (K (F31.fr a b z2 d e i z6 z7 q s f p u v w v2 zI zJ) h nx))=.ok True) :
  IR.run F31.b20 C N (fnO F31.res K0) K (F31.fr a b c d e i l o q s f p u v w y D z) h nx=.ok True:=by
 rw [F31.b20,F31.zw7,F31.b21];refine yK (fun m tm h nx=>∃ z2 z6 z7 zH zI zJ,tm=(F31.fr a b z2 d e i z6 z7 q s f p u v w zH zI zJ)/\Inv m z6 h nx) ?_ hm ⟨_,_,_,_,_,_,rfl,hi⟩;rintro m tm h nx R ⟨z2,z6,z7,zH,zI,zJ,rfl,hi⟩ hR;refine Eq.trans ?_ (step m z2 z6 z7 zH zI zJ h nx R hi fun m' w2 w6 w7 wF wG wH h' nx' hlt hi'=>hR m' _ h' nx' hlt ⟨_,_,_,_,_,_,rfl,hi'⟩)
 kernel_rfl
theorem F31.k34:IR.run F31.b34 C N (fnO F31.res K0) K (F31.fr a b c d e i l o q s f p u v w y D z) h nx =
 K0 (I 0) h nx:=by kernel_rfl
theorem F31.k33 {E4:Ks Prop}:IR.run F31.b33 C N ((fnO F31.res K0).blk 4 E4) K (F31.fr a b c d e i l o q s f p u v w y D z) h nx =
 zh .add .int l (I 1) fun v1=>K (F31.fr a b c d e i v1 o q s f p u v w y D z) h nx:=by kernel_rfl
theorem F31.L26 {E4 E5:Ks Prop} (Inv:Nat->AV->T Blk->Pa->Prop) {m:Nat} (hm:m<N) (hi:Inv m o h nx)
  (step:∀ (m:Nat) (z2 z7 zI zJ:AV) (h:T Blk) (nx:Pa) (R:Ks Prop),Inv m z7 h nx->(∀ (m':Nat) (w2 w7 wG wH:AV) (h':T Blk) (nx':Pa),m'<m->Inv m' w7 h' nx'->R (F31.fr a b w2 d e i l w7 q s f p u v w y wG wH) h' nx'=.ok True) ->
   (sLen a fun v1=>zh .lss .int z7 v1 fun v2=>zX v2 (zV 2 a l fun v3=>zS 2 v3 h fun v4=>zV 2 a z7 fun v5=>zS 2 v5 h fun v6=>C.fn 83 (.of 83) [v4,v6] h nx fun v7 h8 n9=>zT a a (C.fn 82 (.of 82) [a,v7] h8 n9 fun vA hB nB=>zh .lss .int vA (I 0) fun vD=>zX vD (K0 (I 28) hB nB) (zh .add .int z7 (I 1) fun vE=>R (F31.fr a b z2 d e i l vE q s f p u v w y v2 vD) hB nB))) (K (F31.fr a b z2 d e i l z7 q s f p u v w y v2 zJ) h nx))=.ok True) :
  IR.run F31.b26 C N (((fnO F31.res K0).blk 4 E4).blk 5 E5) K (F31.fr a b c d e i l o q s f p u v w y D z) h nx=.ok True:=by
 rw [F31.b26,F31.zw6,F31.b27];refine yK (fun m tm h nx=>∃ z2 z7 zI zJ,tm=(F31.fr a b z2 d e i l z7 q s f p u v w y zI zJ)/\Inv m z7 h nx) ?_ hm ⟨_,_,_,_,rfl,hi⟩;rintro m tm h nx R ⟨z2,z7,zI,zJ,rfl,hi⟩ hR;refine Eq.trans ?_ (step m z2 z7 zI zJ h nx R hi fun m' w2 w7 wG wH h' nx' hlt hi'=>hR m' _ h' nx' hlt ⟨_,_,_,_,rfl,hi'⟩)
 kernel_rfl
theorem F84.tab:T.get none (.of 84) tbl=some F84:=by kernel_rfl
theorem F84.go:zQ tbl N C (.of 84) [a0,a1] h nx K0 =
 C.fn 143 (.of 143) [a0,a1] h nx fun v1 h2 n3=>fB 0 v1 fun v4=>fB 1 v1 fun v5=>fB 2 v1 fun v6=>K0 v6 h2 n3:=by
 rw [zK F84.tab];kernel_rfl
theorem uj.ql (X2:IR) (O:yu Prop) (t:T AV):IR.run (uj.g1 X2) C N O K t h nx=IR.run X2 C N (O.blk 0 K) K t h nx:=by kernel_rfl
theorem uj.tab:T.get none (.of 199) tbl=some uj:=by kernel_rfl
theorem uj.go:zQ tbl N C (.of 199) [a0,a1] h nx K0 =
 sLen a0 fun v1=>IR.run uj.b1 C N (fnO uj.res K0) (IR.run uj.b8 C N (fnO uj.res K0) (jq uj.res K0)) (uj.fr a0 a1 (I 0) .u .u a0 v1 (I 0) .u .u) h nx:=by
 rw [zK uj.tab];kernel_rfl
theorem uj.L1 (Inv:Nat->AV->T Blk->Pa->Prop) {m:Nat} (hm:m<N) (hi:Inv m o h nx)
  (step:∀ (m:Nat) (z2 z3 z4 z7 z8 z9:AV) (h:T Blk) (nx:Pa) (R:Ks Prop),Inv m z7 h nx->(∀ (m':Nat) (w2 w3 w4 w7 w8 w9:AV) (h':T Blk) (nx':Pa),m'<m->Inv m' w7 h' nx'->R (uj.fr a b w2 w3 w4 i l w7 w8 w9) h' nx'=.ok True) ->
   (zh .lss .int z7 l fun v1=>zX v1 (zV 2 i z7 fun v2=>zS 2 v2 h fun v3=>yT [.zf,(.bool false)] h nx fun v4 h5 n6=>zY 2 v4 v3 h5 n6 fun v7 h8 n9=>zS 2 v4 h8 fun vA=>C.fn 64 (.of 64) [vA,b] h8 n9 fun vB hC nD=>zh .neq .int vB (I 0) fun vE=>zX vE (K0 vB hC nD) (zh .add .int z7 (I 1) fun vF=>R (uj.fr a b z2 v4 vB i l vF v1 vE) hC nD)) (K (uj.fr a b z2 z3 z4 i l z7 v1 z9) h nx))=.ok True) :
  IR.run uj.b1 C N (fnO uj.res K0) K (uj.fr a b c d e i l o q s) h nx=.ok True:=by
 rw [uj.b1,uj.ql,uj.b2];refine yK (fun m tm h nx=>∃ z2 z3 z4 z7 z8 z9,tm=(uj.fr a b z2 z3 z4 i l z7 z8 z9)/\Inv m z7 h nx) ?_ hm ⟨_,_,_,_,_,_,rfl,hi⟩;rintro m tm h nx R ⟨z2,z3,z4,z7,z8,z9,rfl,hi⟩ hR;refine Eq.trans ?_ (step m z2 z3 z4 z7 z8 z9 h nx R hi fun m' w2 w3 w4 w7 w8 w9 h' nx' hlt hi'=>hR m' _ h' nx' hlt ⟨_,_,_,_,_,_,rfl,hi'⟩)
 kernel_rfl
theorem uj.k8:IR.run uj.b8 C N (fnO uj.res K0) K (uj.fr a b c d e i l o q s) h nx =
 K0 (I 0) h nx:=by kernel_rfl
theorem F86.tab:T.get none (.of 86) tbl=some F86:=by kernel_rfl
theorem F86.go:zQ tbl N C (.of 86) [a0] h nx K0 =
 vk a0 h nx fun v1 h2 n3=>K0 (.fn 144 (.of 144) [v1]) h2 n3:=by
 rw [zK F86.tab];kernel_rfl
theorem rV.tab:T.get none (.of 114) tbl=some rV:=by kernel_rfl
theorem rV.go:zQ tbl N C (.of 114) [a0,a1] h nx K0 =
 vk a0 h nx fun v1 h2 n3=>vk a1 h2 n3 fun v4 h5 n6=>zN 0 v1 fun v7=>zG v7 h5 fun v8=>zN 0 v4 fun v9=>zG v9 h5 fun vA=>C.fn 161 (.of 161) [v8,vA] h5 n6 fun vB hC nD=>zh .neq .int vB (I 0) fun vE=>sG vE false (fun k=>zN 1 v1 k) fun vF=>sG vE false (fun k=>zG vF hC k) fun vG=>sG vE false (fun k=>zN 1 v4 k) fun vH=>sG vE false (fun k=>zG vH hC k) fun vI=>sG vE false (fun k=>zh .eql .bool vG vI k) fun vJ=>jE vE (.bool true) vJ fun vK=>zX vK (K0 vB hC nD) ((IR.run rV.b1 C N (fnO rV.res K0) (jq rV.res K0)) (rV.fr a0 a1 v1 v4 (I 0) vB vK .u) hC nD):=by
 rw [zK rV.tab];kernel_rfl
theorem rV.k1:IR.run rV.b1 C N (fnO rV.res K0) K (rV.fr a b c d e i l o) h nx =
 zN 1 c fun v1=>zG v1 h fun v2=>zX v2 (K0 (I 1) h nx) (K0 (I (-1)) h nx):=by kernel_rfl
theorem F64.tab:T.get none (.of 64) tbl=some F64:=by kernel_rfl
theorem F64.go:zQ tbl N C (.of 64) [a0,a1] h nx K0 =
 vk a0 h nx fun v1 h2 n3=>zN 0 v1 fun v4=>zG v4 h2 fun v5=>sLen v5 fun v6=>zh .neq .int v6 a1 fun v7=>zN 0 v1 fun v8=>zG v8 h2 fun v9=>C.fn 125 (.of 125) [a1] h2 n3 fun vA hB nB=>(zG v8 hB fun vW=>zT vW v9 ((zN 0 v1 fun vX=>zT vX v8 ((zh .neq .int v6 a1 fun vY=>zT vY v7 (zT a1 a1 ((sLen v5 fun vZ=>zT vZ v6 ((zG v4 hB fun v32=>zT v32 v5 ((zN 0 v1 fun vP=>zT vP v4 (C.fn 76 (.of 76) [v7,(I 2)] hB nB fun vD hH nI=>(zG v8 hH fun vQ=>zT vQ v9 ((zN 0 v1 fun vR=>zT vR v8 (C.fn 126 (.of 126) [v9] hH nI fun vG hG nH=>oM vG fun vJ=>C.fn 76 (.of 76) [vJ,(I 14)] hG nH fun vK hI nJ=>jM 1 3 [(I 0)] [(0,1,vA),(1,1,vD),(2,1,vK)] hI nJ fun vN hF nG=>C.fn 72 (.of 72) [vN] hF nG fun vV hJ nK=>K0 vV hJ nK))))))))))))))))):=by
 rw [zK F64.tab];kernel_rfl
theorem wu.ql (X2:IR) (O:yu Prop) (t:T AV):IR.run (wu.g1 X2) C N O K t h nx=IR.run X2 C N (O.blk 0 K) K t h nx:=by kernel_rfl
theorem wu.tab:T.get none (.of 144) tbl=some wu:=by kernel_rfl
theorem wu.go:zQ tbl N C (.of 144) [a0,a1] h nx K0 =
 zG a1 h fun v1=>sLen v1 fun v2=>IR.run wu.b1 C N (fnO wu.res K0) (jq wu.res K0) (wu.fr a0 a1 .u .u v1 v2 (I 0) .u .u) h nx:=by
 rw [zK wu.tab];kernel_rfl
theorem wu.L1 (Inv:Nat->AV->T Blk->Pa->Prop) {m:Nat} (hm:m<N) (hi:Inv m l h nx)
  (step:∀ (m:Nat) (z2 z3 z6 z7 z8:AV) (h:T Blk) (nx:Pa) (R:Ks Prop),Inv m z6 h nx->(∀ (m':Nat) (w2 w3 w6 w7 w8:AV) (h':T Blk) (nx':Pa),m'<m->Inv m' w6 h' nx'->R (wu.fr a b w2 w3 e i w6 w7 w8) h' nx'=.ok True) ->
   (zh .lss .int z6 i fun v1=>zX v1 (zV 2 e z6 fun v2=>zS 2 v2 h fun v3=>yT [.zf,(.bool false)] h nx fun v4 h5 n6=>zY 2 v4 v3 h5 n6 fun v7 h8 n9=>zS 2 v4 h8 fun vA=>qC C a [z6,vA] h8 n9 fun vB hC nD=>oM vB fun vE=>zX vE (K0 (.tup []) hC nD) (zh .add .int z6 (I 1) fun vF=>R (wu.fr a b z6 v4 e i vF v1 vE) hC nD)) (K (wu.fr a b z2 z3 e i z6 v1 z8) h nx))=.ok True) :
  IR.run wu.b1 C N (fnO wu.res K0) K (wu.fr a b c d e i l o q) h nx=.ok True:=by
 rw [wu.b1,wu.ql,wu.b2];refine yK (fun m tm h nx=>∃ z2 z3 z6 z7 z8,tm=(wu.fr a b z2 z3 e i z6 z7 z8)/\Inv m z6 h nx) ?_ hm ⟨_,_,_,_,_,rfl,hi⟩;rintro m tm h nx R ⟨z2,z3,z6,z7,z8,rfl,hi⟩ hR;refine Eq.trans ?_ (step m z2 z3 z6 z7 z8 h nx R hi fun m' w2 w3 w6 w7 w8 h' nx' hlt hi'=>hR m' _ h' nx' hlt ⟨_,_,_,_,_,rfl,hi'⟩)
 kernel_rfl
theorem uo.ql (X2:IR) (O:yu Prop) (t:T AV):IR.run (uo.g1 X2) C N O K t h nx=IR.run X2 C N (O.blk 0 K) K t h nx:=by kernel_rfl
theorem uo.tab:T.get none (.of 248) tbl=some uo:=by kernel_rfl
theorem uo.go:zQ tbl N C (.of 248) [a0] h nx K0 =
 yT [.zf,(.bool false)] h nx fun v1 h2 n3=>kQ 1 8 [(I 0)] a0 a0 h2 n3 fun v4 h5 n6=>jO [.zf,(.bool false)] [(0,1,v4)] fun v7=>yT [.zf,(.bool false)] h5 n6 fun v8 h9 nC=>zY 2 v8 v7 h9 nC fun vB hC nD=>zN 0 v8 fun vE=>zG vE hC fun vF=>sLen vF fun vG=>IR.run uo.b1 C N (fnO uo.res K0) (IR.run uo.b8 C N (fnO uo.res K0) (jq uo.res K0)) (uo.fr a0 v1 v8 .u vG (I 0) .u) hC nD:=by
 rw [zK uo.tab];kernel_rfl
theorem uo.L1 (Inv:Nat->AV->T Blk->Pa->Prop) {m:Nat} (hm:m<N) (hi:Inv m i h nx)
  (step:∀ (m:Nat) (z3 z5 z6:AV) (h:T Blk) (nx:Pa) (R:Ks Prop),Inv m z5 h nx->(∀ (m':Nat) (w3 w5 w6:AV) (h':T Blk) (nx':Pa),m'<m->Inv m' w5 h' nx'->R (uo.fr a b c w3 e w5 w6) h' nx'=.ok True) ->
   (zh .lss .int z5 e fun v1=>zX v1 (zN 0 c fun v2=>zG v2 h fun v3=>zV 1 v3 z5 fun v4=>zY 1 v4 z5 h nx fun v5 h6 n7=>zh .add .int z5 (I 1) fun v8=>R (uo.fr a b c z5 e v8 v1) h6 n7) (K (uo.fr a b c z3 e z5 v1) h nx))=.ok True) :
  IR.run uo.b1 C N (fnO uo.res K0) K (uo.fr a b c d e i l) h nx=.ok True:=by
 rw [uo.b1,uo.ql,uo.b2];refine yK (fun m tm h nx=>∃ z3 z5 z6,tm=(uo.fr a b c z3 e z5 z6)/\Inv m z5 h nx) ?_ hm ⟨_,_,_,rfl,hi⟩;rintro m tm h nx R ⟨z3,z5,z6,rfl,hi⟩ hR;refine Eq.trans ?_ (step m z3 z5 z6 h nx R hi fun m' w3 w5 w6 h' nx' hlt hi'=>hR m' _ h' nx' hlt ⟨_,_,_,rfl,hi'⟩)
 kernel_rfl
theorem uo.k8:IR.run uo.b8 C N (fnO uo.res K0) K (uo.fr a b c d e i l) h nx =
 zS 2 c h fun v1=>zY 2 b v1 h nx fun v2 h3 n4=>zS 2 b h3 fun v5=>K0 v5 h3 n4:=by kernel_rfl
theorem gy.ql (X2:IR) (O:yu Prop) (t:T AV):IR.run (gy.g1 X2) C N O K t h nx=IR.run X2 C N (O.blk 0 K) K t h nx:=by kernel_rfl
theorem gy.tab:T.get none (.of 112) tbl=some gy:=by kernel_rfl
theorem gy.go:zQ tbl N C (.of 112) [a0] h nx K0 =
 vk a0 h nx fun v1 h2 n3=>zN 0 v1 fun v4=>zG v4 h2 fun v5=>sLen v5 fun v6=>zh .add .int v6 (I 1) fun v7=>kQ 1 1 [(.int .u8 0)] (I 0) v7 h2 n3 fun v8 h9 nC=>zN 0 v1 fun vB=>zG vB h9 fun vC=>sLen vC fun vD=>IR.run gy.b1 C N (fnO gy.res K0) (IR.run gy.b8 C N (fnO gy.res K0) (jq gy.res K0)) (gy.fr a0 v1 (.str []) v8 .u vC vD (I 0) .u .u) h9 nC:=by
 rw [zK gy.tab];kernel_rfl
theorem gy.L1 (Inv:Nat->AV->AV->T Blk->Pa->Prop) {m:Nat} (hm:m<N) (hi:Inv m d o h nx)
  (step:∀ (m:Nat) (z3 z4 z7 z8:AV) (h:T Blk) (nx:Pa) (R:Ks Prop),Inv m z3 z7 h nx->(∀ (m':Nat) (w3 w4 w7 w8:AV) (h':T Blk) (nx':Pa),m'<m->Inv m' w3 w7 h' nx'->R (gy.fr a b c w3 w4 i l w7 w8 s) h' nx'=.ok True) ->
   (zh .lss .int z7 l fun v1=>zX v1 (zV 1 i z7 fun v2=>zG v2 h fun v3=>vT .u8 v3 fun v4=>jM 1 1 [(.int .u8 0)] [(0,1,v4)] h nx fun v5 h6 n7=>tu 1 1 z3 v5 h6 n7 fun v8 h9 nC=>zh .add .int z7 (I 1) fun vB=>R (gy.fr a b c v8 v3 i l vB v1 s) h9 nC) (K (gy.fr a b c z3 z4 i l z7 v1 s) h nx))=.ok True) :
  IR.run gy.b1 C N (fnO gy.res K0) K (gy.fr a b c d e i l o q s) h nx=.ok True:=by
 rw [gy.b1,gy.ql,gy.b2];refine yK (fun m tm h nx=>∃ z3 z4 z7 z8,tm=(gy.fr a b c z3 z4 i l z7 z8 s)/\Inv m z3 z7 h nx) ?_ hm ⟨_,_,_,_,rfl,hi⟩;rintro m tm h nx R ⟨z3,z4,z7,z8,rfl,hi⟩ hR;refine Eq.trans ?_ (step m z3 z4 z7 z8 h nx R hi fun m' w3 w4 w7 w8 h' nx' hlt hi'=>hR m' _ h' nx' hlt ⟨_,_,_,_,rfl,hi'⟩)
 kernel_rfl
theorem gy.k8:IR.run gy.b8 C N (fnO gy.res K0) K (gy.fr a b c d e i l o q s) h nx =
 zN 1 b fun v1=>zG v1 h fun v2=>zX v2 (jM 1 1 [(.int .u8 0)] [(0,1,(.int .u8 1))] h nx fun v3 h4 n5=>tu 1 1 d v3 h4 n5 fun v6 h7 n8=>sB2s v6 h7 fun v9=>K0 v9 h7 n8) (sB2s d h fun vA=>K0 vA h nx):=by kernel_rfl
theorem o8.tab:T.get none (.of 249) tbl=some o8:=by kernel_rfl
theorem o8.go:zQ tbl N C (.of 249) [a0,a1] h nx K0 =
 vk a1 h nx fun v1 h2 n3=>zS 2 v1 h2 fun v4=>C.fn 112 (.of 112) [v4] h2 n3 fun v5 h6 n7=>zm2 .str (.agg [.zf,(.bool false)]) true a0 v5 h6 fun v8=>fB 0 v8 fun v9=>fB 1 v8 fun vA=>yT [.zf,(.bool false)] h6 n7 fun vB hC nD=>zY 2 vB v9 hC nD fun vE hA nA=>K0 vA hA nA:=by
 rw [zK o8.tab];kernel_rfl
theorem uq.ql (X2:IR) (O:yu Prop) (t:T AV):IR.run (uq.g1 X2) C N O K t h nx=IR.run X2 C N (O.blk 0 K) K t h nx:=by kernel_rfl
theorem uq.tab:T.get none (.of 250) tbl=some uq:=by kernel_rfl
theorem uq.go:zQ tbl N C (.of 250) [a0,a1] h nx K0 =
 vk a0 h nx fun v1 h2 n3=>vk a1 h2 n3 fun v4 h5 n6=>yT [.zf,(.bool false)] h5 n6 fun v7 h8 n9=>sChk (true&&true) (zN 0 v4 fun vA=>zG vA h8 fun vB=>sLen vB fun vC=>sChk (mkSl 8 vC vC&&true) (zN 1 v1 fun vD=>zG vD h8 fun vE=>zN 1 v4 fun vF=>zG vF h8 fun vG=>zh .neq .bool vE vG fun vH=>kQ 1 8 [(I 0)] vC vC h8 n9 fun vI hK nL=>(zh .neq .bool vE vG fun v47=>zT v47 vH ((zG vF hK fun v46=>zT v46 vG ((zN 1 v4 fun v45=>zT v45 vF ((zG vD hK fun v44=>zT v44 vE ((zN 1 v1 fun v43=>zT v43 vD ((sLen vB fun v42=>zT v42 vC ((zG vA hK fun v41=>zT v41 vB ((zN 0 v4 fun v40=>zT v40 vA (jO [.zf,(.bool false)] [(0,1,vI),(1,1,vH)] fun vL=>yT [.zf,(.bool false)] hK nL fun vM hL nM=>(jO [.zf,(.bool false)] [(0,1,vI),(1,1,vH)] fun v39=>zT v39 vL ((zh .neq .bool vE vG fun v38=>zT v38 vH ((zG vF hL fun v37=>zT v37 vG ((zN 1 v4 fun vW=>zT vW vF ((zG vD hL fun vX=>zT vX vE ((zN 1 v1 fun vY=>zT vY vD ((sLen vB fun vZ=>zT vZ vC ((zG vA hL fun v32=>zT v32 vB ((zN 0 v4 fun vP=>zT vP vA (zY 2 vM vL hL nM fun v25 hM nN=>zN 0 v4 fun vS=>zG vS hM fun vR=>sLen vR fun vQ=>IR.run uq.b1 C N (fnO uq.res K0) (IR.run uq.b8 C N (fnO uq.res K0) (jq uq.res K0)) (uq.fr a0 a1 v1 v4 v7 vM .u .u vR vQ (I 0) .u) hM nN)))))))))))))))))))))))))))))))))))):=by
 rw [zK uq.tab];kernel_rfl
theorem uq.L1 (Inv:Nat->AV->T Blk->Pa->Prop) {m:Nat} (hm:m<N) (hi:Inv m f h nx)
  (step:∀ (m:Nat) (z6 z7 zA zB:AV) (h:T Blk) (nx:Pa) (R:Ks Prop),Inv m zA h nx->(∀ (m':Nat) (w6 w7 wA wB:AV) (h':T Blk) (nx':Pa),m'<m->Inv m' wA h' nx'->R (uq.fr a b c d e i w6 w7 q s wA wB) h' nx'=.ok True) ->
   (zh .lss .int zA s fun v1=>zX v1 (zV 1 q zA fun v2=>zG v2 h fun v3=>zN 0 i fun v4=>zG v4 h fun v5=>zN 0 c fun v6=>zG v6 h fun v7=>zV 1 v7 v3 fun v8=>zG v8 h fun v9=>zV 1 v5 zA fun vA=>zY 1 vA v9 h nx fun vB hC nD=>zh .add .int zA (I 1) fun vE=>R (uq.fr a b c d e i zA v3 q s vE v1) hC nD) (K (uq.fr a b c d e i z6 z7 q s zA v1) h nx))=.ok True) :
  IR.run uq.b1 C N (fnO uq.res K0) K (uq.fr a b c d e i l o q s f p) h nx=.ok True:=by
 rw [uq.b1,uq.ql,uq.b2];refine yK (fun m tm h nx=>∃ z6 z7 zA zB,tm=(uq.fr a b c d e i z6 z7 q s zA zB)/\Inv m zA h nx) ?_ hm ⟨_,_,_,_,rfl,hi⟩;rintro m tm h nx R ⟨z6,z7,zA,zB,rfl,hi⟩ hR;refine Eq.trans ?_ (step m z6 z7 zA zB h nx R hi fun m' w6 w7 wA wB h' nx' hlt hi'=>hR m' _ h' nx' hlt ⟨_,_,_,_,rfl,hi'⟩)
 kernel_rfl
theorem uq.k8:IR.run uq.b8 C N (fnO uq.res K0) K (uq.fr a b c d e i l o q s f p) h nx =
 zS 2 i h fun v1=>zY 2 e v1 h nx fun v2 h3 n4=>zS 2 e h3 fun v5=>K0 v5 h3 n4:=by kernel_rfl
theorem o9.tab:T.get none (.of 126) tbl=some o9:=by kernel_rfl
theorem o9.go:zQ tbl N C (.of 126) [a0] h nx K0 =
 C.fn 187 (.of 187) [a0] h nx fun v1 h2 n3=>zh .eql .int v1 (I 0) fun v4=>K0 v4 h2 n3:=by
 rw [zK o9.tab];kernel_rfl
theorem ji.og (X3:IR) (O:yu Prop) (t:T AV):IR.run (ji.g2 X3) C N O K t h nx=IR.run X3 C N (O.blk 0 K) K t h nx:=by kernel_rfl
theorem ji.tab:T.get none (.of 187) tbl=some ji:=by kernel_rfl
theorem ji.go:zQ tbl N C (.of 187) [a0] h nx K0 =
 sLen a0 fun v1=>zh .gtr .int v1 (I 256) fun v2=>zX v2 (K0 (I 5) h nx) (sLen a0 fun v3=>kQ 1 1 [(.bool false)] v3 v3 h nx fun v4 h5 n6=>sLen a0 fun v7=>IR.run ji.b2 C N (fnO ji.res K0) (IR.run ji.b10 C N (fnO ji.res K0) (jq ji.res K0)) (ji.fr a0 (I 0) v4 .u v2 a0 v7 (I 0) .u .u) h5 n6):=by
 rw [zK ji.tab];kernel_rfl
theorem ji.L2 (Inv:Nat->AV->T Blk->Pa->Prop) {m:Nat} (hm:m<N) (hi:Inv m o h nx)
  (step:∀ (m:Nat) (z1 z3 z7 z8 z9:AV) (h:T Blk) (nx:Pa) (R:Ks Prop),Inv m z7 h nx->(∀ (m':Nat) (w1 w3 w7 w8 w9:AV) (h':T Blk) (nx':Pa),m'<m->Inv m' w7 h' nx'->R (ji.fr a w1 c w3 e i l w7 w8 w9) h' nx'=.ok True) ->
   (zh .lss .int z7 l fun v1=>zX v1 (zV 1 i z7 fun v2=>zG v2 h fun v3=>zh .lss .int v3 (I 0) fun v4=>sG v4 false (fun k=>k v3) fun v5=>sG v4 false (fun k=>k a) fun v6=>sG v4 false (fun k=>sLen v6 k) fun v7=>sG v4 false (fun k=>zh .geq .int v5 v7 k) fun v8=>jE v4 (.bool true) v8 fun v9=>sG v9 false (fun k=>k c) fun vA=>sG v9 false (fun k=>k v3) fun vB=>sG v9 false (fun k=>zV 1 vA vB k) fun vC=>sG v9 false (fun k=>zG vC h k) fun vD=>jE v9 (.bool true) vD fun vE=>zX vE (K0 (I 14) h nx) ((IR.run ji.b8 C N (((fnO ji.res K0).blk 0 K).blk 1 (IR.run ji.b9 C N ((fnO ji.res K0).blk 0 K) R)) (IR.run ji.b9 C N ((fnO ji.res K0).blk 0 K) R)) (ji.fr a z1 c v3 e i l z7 v1 vE) h nx)) (K (ji.fr a z1 c z3 e i l z7 v1 z9) h nx))=.ok True) :
  IR.run ji.b2 C N (fnO ji.res K0) K (ji.fr a b c d e i l o q s) h nx=.ok True:=by
 rw [ji.b2,ji.og,ji.b3];refine yK (fun m tm h nx=>∃ z1 z3 z7 z8 z9,tm=(ji.fr a z1 c z3 e i l z7 z8 z9)/\Inv m z7 h nx) ?_ hm ⟨_,_,_,_,_,rfl,hi⟩;rintro m tm h nx R ⟨z1,z3,z7,z8,z9,rfl,hi⟩ hR;refine Eq.trans ?_ (step m z1 z3 z7 z8 z9 h nx R hi fun m' w1 w3 w7 w8 w9 h' nx' hlt hi'=>hR m' _ h' nx' hlt ⟨_,_,_,_,_,rfl,hi'⟩)
 kernel_rfl
theorem ji.k10:IR.run ji.b10 C N (fnO ji.res K0) K (ji.fr a b c d e i l o q s) h nx =
 K0 (I 0) h nx:=by kernel_rfl
theorem ji.k9 {E0:Ks Prop}:IR.run ji.b9 C N ((fnO ji.res K0).blk 0 E0) K (ji.fr a b c d e i l o q s) h nx =
 zh .add .int o (I 1) fun v1=>K (ji.fr a b c d e i l v1 q s) h nx:=by kernel_rfl
theorem ji.k8 {E0 E1:Ks Prop}:IR.run ji.b8 C N (((fnO ji.res K0).blk 0 E0).blk 1 E1) K (ji.fr a b c d e i l o q s) h nx =
 zV 1 c d fun v1=>zY 1 v1 (.bool true) h nx fun v2 h3 n4=>K (ji.fr a b c d e i l o q s) h3 n4:=by kernel_rfl
theorem F72.ql (X2:IR) (O:yu Prop) (t:T AV):IR.run (F72.g1 X2) C N O K t h nx=IR.run X2 C N (O.blk 0 K) K t h nx:=by kernel_rfl
theorem F72.tab:T.get none (.of 72) tbl=some F72:=by kernel_rfl
theorem F72.go:zQ tbl N C (.of 72) [a0] h nx K0 =
 sLen a0 fun v1=>IR.run F72.b1 C N (fnO F72.res K0) (IR.run F72.b8 C N (fnO F72.res K0) (jq F72.res K0)) (F72.fr a0 (I 0) .u a0 v1 (I 0) .u .u) h nx:=by
 rw [zK F72.tab];kernel_rfl
theorem F72.L1 (Inv:Nat->AV->T Blk->Pa->Prop) {m:Nat} (hm:m<N) (hi:Inv m i h nx)
  (step:∀ (m:Nat) (z1 z2 z5 z6 z7:AV) (h:T Blk) (nx:Pa) (R:Ks Prop),Inv m z5 h nx->(∀ (m':Nat) (w1 w2 w5 w6 w7:AV) (h':T Blk) (nx':Pa),m'<m->Inv m' w5 h' nx'->R (F72.fr a w1 w2 d e w5 w6 w7) h' nx'=.ok True) ->
   (zh .lss .int z5 e fun v1=>zX v1 (zV 1 d z5 fun v2=>zG v2 h fun v3=>zh .neq .int v3 (I 0) fun v4=>zX v4 (K0 v3 h nx) (zh .add .int z5 (I 1) fun v5=>R (F72.fr a z1 v3 d e v5 v1 v4) h nx)) (K (F72.fr a z1 z2 d e z5 v1 z7) h nx))=.ok True) :
  IR.run F72.b1 C N (fnO F72.res K0) K (F72.fr a b c d e i l o) h nx=.ok True:=by
 rw [F72.b1,F72.ql,F72.b2];refine yK (fun m tm h nx=>∃ z1 z2 z5 z6 z7,tm=(F72.fr a z1 z2 d e z5 z6 z7)/\Inv m z5 h nx) ?_ hm ⟨_,_,_,_,_,rfl,hi⟩;rintro m tm h nx R ⟨z1,z2,z5,z6,z7,rfl,hi⟩ hR;refine Eq.trans ?_ (step m z1 z2 z5 z6 z7 h nx R hi fun m' w1 w2 w5 w6 w7 h' nx' hlt hi'=>hR m' _ h' nx' hlt ⟨_,_,_,_,_,rfl,hi'⟩)
 kernel_rfl
theorem F72.k8:IR.run F72.b8 C N (fnO F72.res K0) K (F72.fr a b c d e i l o) h nx =
 K0 (I 0) h nx:=by kernel_rfl
theorem F125.tab:T.get none (.of 125) tbl=some F125:=by kernel_rfl
theorem F125.go:zQ tbl N C (.of 125) [a0] h nx K0 =
 zh .lss .int a0 (I 0) fun v1=>sG v1 false (fun k=>k a0) fun v2=>sG v1 false (fun k=>zh .gtr .int v2 (I 256) k) fun v3=>jE v1 (.bool true) v3 fun v4=>C.fn 76 (.of 76) [v4,(I 3)] h nx fun v5 h6 n7=>K0 v5 h6 n7:=by
 rw [zK F125.tab];kernel_rfl
theorem F76.tab:T.get none (.of 76) tbl=some F76:=by kernel_rfl
theorem F76.go:zQ tbl N C (.of 76) [a0,a1] h nx K0 =
 zX a0 (K0 a1 h nx) (K0 (I 0) h nx):=by
 rw [zK F76.tab];kernel_rfl
theorem zo.zw8 (X14:IR) (O:yu Prop) (t:T AV):IR.run (zo.g13 X14) C N O K t h nx=IR.run X14 C N (O.blk 4 K) K t h nx:=by kernel_rfl
theorem zo.ze4 (X8:IR) (O:yu Prop) (t:T AV):IR.run (zo.g7 X8) C N O K t h nx=IR.run X8 C N (O.blk 2 K) K t h nx:=by kernel_rfl
theorem zo.tab:T.get none (.of 200) tbl=some zo:=by kernel_rfl
theorem zo.go:zQ tbl N C (.of 200) [a0,a1,a2] h nx K0 =
 vk a2 h nx fun v1 h2 n3=>yT [.wz] h2 n3 fun v4 h5 n6=>yT [.zf] h5 n6 fun v7 h8 n9=>yT [(.bool false)] h8 n9 fun vA hB nB=>C.fn 248 (.of 248) [a1] hB nB fun vD hH nI=>yT [.zf,(.bool false)] hH nI fun vG hG nH=>zY 2 vG vD hG nH fun vJ hE nF=>sChk (true&&(true&&true)) (zS 2 vG hE fun vM=>zS 2 vG hE fun vN=>C.fn 112 (.of 112) [vM] hE nF fun vO hD nE=>(zS 2 vG hD fun v52=>zT v52 vN ((zS 2 vG hD fun v51=>zT v51 vM (zdx hD nE fun vU hN nO=>(zS 2 vG hN fun v50=>zT v50 vN ((zS 2 vG hN fun v49=>zT v49 vM (zat .str vU vO vN hN nO fun vQ hO nP=>(zS 2 vG hO fun v48=>zT v48 vN ((zS 2 vG hO fun v47=>zT v47 vM (yT [.wz] hO nP fun vZ hP nQ=>zT vU vU ((zS 2 vG hP fun v46=>zT v46 vN ((zS 2 vG hP fun v45=>zT v45 vM (zY 1 vZ vU hP nQ fun vW hQ nR=>yT [.zf] hQ nR fun v39 hS nS=>C.fn 86 (.of 86) [a0] hS nS fun v42 hT nT=>IR.run (.rf (.t (.of 14)) [(.of 15),(.of 16)] zo.b3 zo.b4) C N ((fnO zo.res K0).blk 0 (IR.run zo.b23 C N (fnO zo.res K0) (jq zo.res K0))) (IR.run zo.b23 C N (fnO zo.res K0) (jq zo.res K0)) (zo.fr a0 a1 a2 v1 v4 v7 vA vG vZ v39 .u .u .u .u v42 .u .u .u .u .u .u .u .u .u .u) hT nT)))))))))))))))))):=by
 rw [zK zo.tab];kernel_rfl
theorem zo.k23:IR.run zo.b23 C N (fnO zo.res K0) K (zo.fr a b c d e i l o q s f p u v w y D z E F G H L M P) h nx =
 zG q h fun v1=>zG s h fun v2=>zY 1 e v1 h nx fun v3 h4 n5=>(zG s h4 fun vF=>zT vF v2 (zY 1 i v2 h4 n5 fun v6 h7 n8=>zY 1 l (.bool true) h7 n8 fun v9 hU nU=>zG e hU fun vC=>zG i hU fun vD=>zG l hU fun vE=>K0 (.tup [vC,vD,vE]) hU nU)):=by kernel_rfl
theorem zo.p4 {N:Nat} {C:Calls Prop} {K0:Kw Prop} {id nx:Pa} {j:Jump} {h:T Blk} {a b c d e i l o q s f p u v w y D z E F G H L M P z0 z1:AV} (hl:T.get .no id h=.loop .ready j (zo.fr a b c d e i l o q s f p u v w y D z E F G H L M P) [.of 15,.of 16] zo.b3 zo.b4) :
 kX N C id [z0,z1] h nx K0 =
 yT [.zf,(.bool false)] h nx fun v1 h2 n3=>zY 2 v1 z1 h2 n3 fun v4 h5 n6=>rMid N C id K0 zo.b4 (zo.fr a b c d e i l o q s v1 p u v w z0 z1 z E F G H L M P) h5 n6:=by
 rw [zdy hl (tm1:=(zo.fr a b c d e i l o q s f p u v w z0 z1 z E F G H L M P)) (by intro k;kernel_rfl)];kernel_rfl
theorem zo.y4 {N:Nat} {C:Calls Prop} {K0:Kw Prop} {id nx:Pa} {h:T Blk} {a b c d e i l o q s f p u v w y D z E F G H L M P:AV} :
 IR.run zo.b4 C N (rO id K0) (yZ id K0 .none true) (zo.fr a b c d e i l o q s f p u v w y D z E F G H L M P) h nx =
 zG q h fun v1=>zS 2 f h fun v2=>C.fn 249 (.of 249) [v1,v2] h nx fun v3 h4 n5=>zX v3 (yZ id K0 .none true .e h4 n5) (zG s h4 fun v6=>zS 2 f h4 fun v7=>jM 2 1 [.zf,(.bool false)] [(0,2,v7)] h4 n5 fun v8 h9 nC=>mJ C 2 32 v6 v8 h9 nC fun vB hC nD=>zY 1 s vB hC nD fun vE hA nA=>sChk (true&&true) (zS 2 o hA fun vH=>zS 2 o hA fun vI=>C.fn 112 (.of 112) [vH] hA nA fun vJ hE nF=>(zS 2 o hE fun v38=>zT v38 vI ((zS 2 o hE fun v37=>zT v37 vH (zdx hE nF fun vM hL nM=>(zS 2 o hL fun vW=>zT vW vI ((zS 2 o hL fun vX=>zT vX vH (zat .str vM vJ vI hL nM fun v25 hM nN=>zY 1 q vM hM nN fun vS hV nV=>zS 2 o hV fun vP=>jM 2 1 [.zf,(.bool false)] [(0,2,vP)] hV nV fun v32 hW nW=>IR.run zo.b7 C N ((rO id K0).blk 1 (yZ id K0 .none true)) (yZ id K0 .none true) (zo.fr a b c d e i l o q s f v32 u v w y D v3 E F G H L M P) hW nW)))))))))):=by kernel_rfl
theorem zo.L7 {id:Pa} {E1:Ks Prop} (Inv:Nat->AV->T Blk->Pa->Prop) {m:Nat} (hm:m<N) (hi:Inv m p h nx)
  (step:∀ (m:Nat) (zB zD zE zL zM zO zP zR zU zW:AV) (h:T Blk) (nx:Pa) (R:Ks Prop),Inv m zB h nx->(∀ (m':Nat) (wB wC wD wI wJ wK wL wM wN wO:AV) (h':T Blk) (nx':Pa),m'<m->Inv m' wB h' nx'->R (zo.fr a b c d e i l o q s f wB wC wD w y D z wI wJ wK wL wM wN wO) h' nx'=.ok True) ->
   (sLen zB fun v1=>zh .gtr .int v1 (I 0) fun v2=>zX v2 (zG s h fun v3=>sLen v3 fun v4=>IR.run zo.b13 C N ((((rO id K0).blk 1 E1).blk 2 K).blk 3 (IR.run zo.b22 C N (((rO id K0).blk 1 E1).blk 2 K) R)) (IR.run zo.b22 C N (((rO id K0).blk 1 E1).blk 2 K) R) (zo.fr a b c d e i l o q s f zB zD zE w y D z v2 v3 v4 (I 0) zR zU zW) h nx) (K (zo.fr a b c d e i l o q s f zB zD zE w y D z v2 zM zO zP zR zU zW) h nx))=.ok True) :
  IR.run zo.b7 C N ((rO id K0).blk 1 E1) K (zo.fr a b c d e i l o q s f p u v w y D z E F G H L M P) h nx=.ok True:=by
 rw [zo.b7,zo.ze4,zo.b8];refine yK (fun m tm h nx=>∃ zB zD zE zL zM zO zP zR zU zW,tm=(zo.fr a b c d e i l o q s f zB zD zE w y D z zL zM zO zP zR zU zW)/\Inv m zB h nx) ?_ hm ⟨_,_,_,_,_,_,_,_,_,_,rfl,hi⟩;rintro m tm h nx R ⟨zB,zD,zE,zL,zM,zO,zP,zR,zU,zW,rfl,hi⟩ hR;refine Eq.trans ?_ (step m zB zD zE zL zM zO zP zR zU zW h nx R hi fun m' wB wC wD wI wJ wK wL wM wN wO h' nx' hlt hi'=>hR m' _ h' nx' hlt ⟨_,_,_,_,_,_,_,_,_,_,rfl,hi'⟩)
 kernel_rfl
theorem zo.k22 {id:Pa} {E1 E2:Ks Prop}:IR.run zo.b22 C N (((rO id K0).blk 1 E1).blk 2 E2) K (zo.fr a b c d e i l o q s f p u v w y D z E F G H L M P) h nx =
 qR 2 p (some (I 1)) none none fun v1=>K (zo.fr a b c d e i l o q s f v1 u v w y D z E F G H L M P) h nx:=by kernel_rfl
theorem zo.L13 {id:Pa} {E1 E2 E3:Ks Prop} (Inv:Nat->AV->AV->T Blk->Pa->Prop) {m:Nat} (hm:m<N) (hi:Inv m p H h nx)
  (step:∀ (m:Nat) (zB zD zE zP zR zU zW:AV) (h:T Blk) (nx:Pa) (R:Ks Prop),Inv m zB zP h nx->(∀ (m':Nat) (wB wC wD wL wM wN wO:AV) (h':T Blk) (nx':Pa),m'<m->Inv m' wB wL h' nx'->R (zo.fr a b c d e i l o q s f wB wC wD w y D z E F G wL wM wN wO) h' nx'=.ok True) ->
   (zh .lss .int zP G fun v1=>zX v1 (zV 2 F zP fun v2=>zS 2 v2 h fun v3=>yT [.zf,(.bool false)] h nx fun v4 h5 n6=>zY 2 v4 v3 h5 n6 fun v7 h8 n9=>sChk (true&&true) (zS 2 v4 h8 fun vA=>zV 2 zB (I 0) fun vB=>zS 2 vB h8 fun vC=>C.fn 250 (.of 250) [vA,vC] h8 n9 fun vD hH nI=>(zS 2 vB hH fun v65=>zT v65 vC ((zV 2 zB (I 0) fun v64=>zT v64 vB (zT zB zB ((zS 2 v4 hH fun v63=>zT v63 vA (yT [.zf,(.bool false)] hH nI fun vG hG nH=>(zS 2 vB hG fun v62=>zT v62 vC ((zV 2 zB (I 0) fun v61=>zT v61 vB (zT zB zB ((zS 2 v4 hG fun v60=>zT v60 vA (zY 2 vG vD hG nH fun vJ hE nF=>zG q hE fun vM=>zS 2 vG hE fun vN=>C.fn 249 (.of 249) [vM,vN] hE nF fun vO hD nE=>zX vO (zh .add .int zP (I 1) fun vU=>R (zo.fr a b c d e i l o q s f zB v4 vG w y D z E F G vU v1 vO zW) hD nE) (zG q hD fun vS=>zjj vS hD fun vR=>zG d hD fun vQ=>zh .eql .int vR vQ fun vP=>zX vP (zY 1 e .wz hD nE fun v32 hW nW=>zY 1 i .zf hW nW fun vX hX nX=>zY 1 l (.bool false) hX nX fun v38 hY nY=>yZ id K0 .ret false .e hY nY) (zG q hD fun v41=>zS 2 vG hD fun v42=>zS 2 vG hD fun v43=>C.fn 112 (.of 112) [v42] hD nE fun v44 hZ nZ=>(zS 2 vG hZ fun v59=>zT v59 v43 ((zG q hZ fun v58=>zT v58 v41 (zat .str v41 v44 v43 hZ nZ fun v47 h48 n49=>zS 2 vG h48 fun v50=>jM 2 1 [.zf,(.bool false)] [(0,2,v50)] h48 n49 fun v51 h52 n53=>mJ C 2 32 zB v51 h52 n53 fun v54 h55 n56=>zh .add .int zP (I 1) fun v57=>R (zo.fr a b c d e i l o q s f v54 v4 vG w y D z E F G v57 v1 vO vP) h55 n56)))))))))))))))))))))) (K (zo.fr a b c d e i l o q s f zB zD zE w y D z E F G zP v1 zU zW) h nx))=.ok True) :
  IR.run zo.b13 C N ((((rO id K0).blk 1 E1).blk 2 E2).blk 3 E3) K (zo.fr a b c d e i l o q s f p u v w y D z E F G H L M P) h nx=.ok True:=by
 rw [zo.b13,zo.zw8,zo.b14];refine yK (fun m tm h nx=>∃ zB zD zE zP zR zU zW,tm=(zo.fr a b c d e i l o q s f zB zD zE w y D z E F G zP zR zU zW)/\Inv m zB zP h nx) ?_ hm ⟨_,_,_,_,_,_,_,rfl,hi⟩;rintro m tm h nx R ⟨zB,zD,zE,zP,zR,zU,zW,rfl,hi⟩ hR;refine Eq.trans ?_ (step m zB zD zE zP zR zU zW h nx R hi fun m' wB wC wD wL wM wN wO h' nx' hlt hi'=>hR m' _ h' nx' hlt ⟨_,_,_,_,_,_,_,rfl,hi'⟩)
 kernel_rfl
theorem jd.tab:T.get none (.of 143) tbl=some jd:=by kernel_rfl
theorem jd.go:zQ tbl N C (.of 143) [a0,a1] h nx K0 =
 vk a0 h nx fun v1 h2 n3=>yT [.wz] h2 n3 fun v4 h5 n6=>yT [.zf] h5 n6 fun v7 h8 n9=>yT [(I 0)] h8 n9 fun vA hB nB=>zG v1 hB fun vD=>sLen vD fun vE=>zh .eql .int vE (I 0) fun vF=>zG v1 hB fun vG=>sLen vG fun vH=>zh .gtr .int vH (I 1536) fun vI=>C.fn 125 (.of 125) [a1] hB nB fun vJ hE nF=>(zh .gtr .int vH (I 1536) fun v76=>zT v76 vI ((sLen vG fun v75=>zT v75 vH ((zG v1 hE fun v74=>zT v74 vG ((zh .eql .int vE (I 0) fun v73=>zT v73 vF ((sLen vD fun v72=>zT v72 vE ((zG v1 hE fun v71=>zT v71 vD (C.fn 76 (.of 76) [vF,(I 12)] hE nF fun vM hL nM=>(zh .gtr .int vH (I 1536) fun v70=>zT v70 vI ((sLen vG fun v69=>zT v69 vH ((zG v1 hL fun v68=>zT v68 vG (C.fn 76 (.of 76) [vI,(I 5)] hL nM fun v25 hM nN=>jM 1 3 [(I 0)] [(0,1,vJ),(1,1,vM),(2,1,v25)] hM nN fun vS hV nV=>C.fn 72 (.of 72) [vS] hV nV fun vP h32 n33=>zh .neq .int vP (I 0) fun vY=>zX vY (zY 1 v4 .wz h32 n33 fun vX hX nX=>zY 1 v7 .zf hX nX fun v38 hY nY=>zY 1 vA vP hY nY fun v41 h42 n43=>zG v4 h42 fun v44=>zG v7 h42 fun v45=>zG vA h42 fun v46=>K0 (.tup [v44,v45,v46]) h42 n43) (zG v1 h32 fun v47=>C.fn 199 (.of 199) [v47,a1] h32 n33 fun v48 h49 n50=>zh .neq .int v48 (I 0) fun v51=>zX v51 (zY 1 v4 .wz h49 n50 fun v52 h53 n54=>zY 1 v7 .zf h53 n54 fun v55 h56 n57=>zY 1 vA v48 h56 n57 fun v58 h59 n60=>zG v4 h59 fun v61=>zG v7 h59 fun v62=>zG vA h59 fun v63=>K0 (.tup [v61,v62,v63]) h59 n60) (zG v1 h49 fun v64=>C.fn 86 (.of 86) [v64] h49 n50 fun v65 h66 n67=>IR.run (.rf (.t (.of 15)) [(.of 16),(.of 17)] jd.b5 jd.b6) C N ((fnO jd.res K0).blk 0 (IR.run jd.b8 C N (fnO jd.res K0) (jq jd.res K0))) (IR.run jd.b8 C N (fnO jd.res K0) (jq jd.res K0)) (jd.fr a0 a1 v1 v4 v7 vA vP v48 .u .u .u .u .u vY v51 v65 .u .u .u .u) h66 n67)))))))))))))))))))):=by
 rw [zK jd.tab];kernel_rfl
theorem jd.k8:IR.run jd.b8 C N (fnO jd.res K0) K (jd.fr a b c d e i l o q s f p u v w y D z E F) h nx =
 zG c h fun v1=>zG c h fun v2=>sLen v2 fun v3=>C.fn 200 (.of 200) [v1,b,v3] h nx fun v4 h5 n6=>fB 0 v4 fun v7=>fB 1 v4 fun v8=>fB 2 v4 fun v9=>oM v9 fun vA=>sG vA false (fun k=>k v7) fun vB=>sG vA false (fun k=>zjj vB h5 k) fun vC=>sG vA false (fun k=>zG c h5 k) fun vD=>sG vA false (fun k=>sLen vD k) fun vE=>sG vA false (fun k=>zh .neq .int vC vE k) fun vF=>jE vA (.bool true) vF fun vG=>zX vG (zY 1 d .wz h5 n6 fun vH h18 n19=>zY 1 e .zf h18 n19 fun vK hI nJ=>zY 1 i (I 28) hI nJ fun vN hF nG=>zG d hF fun vV=>zG e hF fun vU=>zG i hF fun vS=>K0 (.tup [vV,vU,vS]) hF nG) ((IR.run jd.b9 C N (fnO jd.res K0) K) (jd.fr a b c d e i l o q s v7 v8 v9 v w y D z E vG) h5 n6):=by kernel_rfl
theorem jd.p6 {N:Nat} {C:Calls Prop} {K0:Kw Prop} {id nx:Pa} {j:Jump} {h:T Blk} {a b c d e i l o q s f p u v w y D z E F z0 z1:AV} (hl:T.get .no id h=.loop .ready j (jd.fr a b c d e i l o q s f p u v w y D z E F) [.of 16,.of 17] jd.b5 jd.b6) :
 kX N C id [z0,z1] h nx K0 =
 yT [.zf,(.bool false)] h nx fun v1 h2 n3=>zY 2 v1 z1 h2 n3 fun v4 h5 n6=>rMid N C id K0 jd.b6 (jd.fr a b c d e i l o z0 v1 f p u v w y z0 z1 E F) h5 n6:=by
 rw [zdy hl (tm1:=(jd.fr a b c d e i l o q s f p u v w y z0 z1 E F)) (by intro k;kernel_rfl)];kernel_rfl
theorem jd.y6 {N:Nat} {C:Calls Prop} {K0:Kw Prop} {id nx:Pa} {h:T Blk} {a b c d e i l o q s f p u v w y D z E F:AV} :
 IR.run jd.b6 C N (rO id K0) (yZ id K0 .none true) (jd.fr a b c d e i l o q s f p u v w y D z E F) h nx =
 zh .gtr .int q (I 0) fun v1=>sG v1 true (fun k=>zG c h k) fun v2=>sG v1 true (fun k=>k q) fun v3=>sG v1 true (fun k=>zh .sub .int v3 (I 1) k) fun v4=>sG v1 true (fun k=>zV 2 v2 v4 k) fun v5=>sG v1 true (fun k=>zS 2 v5 h k) fun v6=>sG v1 true (fun k=>zS 2 s h k) fun v7=>sGW v1 true (fun k=>C.fn 114 (.of 114) [v6,v7] h nx k) h nx fun v8 h9 nC=>sG v1 true (fun k=>zh .geq .int v8 (I 0) k) fun vB=>jE v1 vB (.bool false) fun vC=>zX vC (zY 1 d .wz h9 nC fun vD hH nI=>zY 1 e .zf hH nI fun vG hG nH=>zY 1 i (I 11) hG nH fun vJ hE nF=>yZ id K0 .ret false .e hE nF) (yZ id K0 .none true .e h9 nC):=by kernel_rfl
theorem jd.k9:IR.run jd.b9 C N (fnO jd.res K0) K (jd.fr a b c d e i l o q s f p u v w y D z E F) h nx =
 zY 1 d f h nx fun v1 h2 n3=>zY 1 e p h2 n3 fun v4 h5 n6=>zY 1 i (I 0) h5 n6 fun v7 h8 n9=>zG d h8 fun vA=>zG e h8 fun vB=>zG i h8 fun vC=>K0 (.tup [vA,vB,vC]) h8 n9:=by kernel_rfl
theorem F60.ql (X2:IR) (O:yu Prop) (t:T AV):IR.run (F60.g1 X2) C N O K t h nx=IR.run X2 C N (O.blk 0 K) K t h nx:=by kernel_rfl
theorem F60.ze4 (X8:IR) (O:yu Prop) (t:T AV):IR.run (F60.g7 X8) C N O K t h nx=IR.run X8 C N (O.blk 2 K) K t h nx:=by kernel_rfl
theorem F60.tab:T.get none (.of 60) tbl=some F60:=by kernel_rfl
theorem F60.go:zQ tbl N C (.of 60) [a0] h nx K0 =
 zhl a0 h nx fun v1 h2 n3=>IR.run F60.b1 C N (fnO F60.res K0) (IR.run F60.b6 C N (fnO F60.res K0) (jq F60.res K0)) (F60.fr a0 .zf .zf .u .u .u v1 .u .u .u .u .u) h2 n3:=by
 rw [zK F60.tab];kernel_rfl
theorem F60.L1 (Inv:Nat->AV->T Blk->Pa->Prop) {m:Nat} (hm:m<N) (hi:Inv m c h nx)
  (step:∀ (m:Nat) (z2 z3 z7:AV) (h:T Blk) (nx:Pa) (R:Ks Prop),Inv m z2 h nx->(∀ (m':Nat) (w2 w3 w7:AV) (h':T Blk) (nx':Pa),m'<m->Inv m' w2 h' nx'->R (F60.fr a b w2 w3 e i l w7 q s f p) h' nx'=.ok True) ->
   (zm3 C l h nx fun v1 h2 n3=>fB 0 v1 fun v4=>zX v4 (zhm l h2 fun v5=>fB 1 v5 fun v6=>yT [.zf,(.bool false)] h2 n3 fun v7 h8 n9=>zY 2 v7 v6 h8 n9 fun vA hB nB=>zS 2 v7 hB fun vD=>jM 2 1 [.zf,(.bool false)] [(0,2,vD)] hB nB fun vE hA nA=>mJ C 2 32 z2 vE hA nA fun vH h18 n19=>R (F60.fr a b vH v7 e i l v4 q s f p) h18 n19) (K (F60.fr a b z2 z3 e i l v4 q s f p) h2 n3))=.ok True) :
  IR.run F60.b1 C N (fnO F60.res K0) K (F60.fr a b c d e i l o q s f p) h nx=.ok True:=by
 rw [F60.b1,F60.ql,F60.b2];refine yK (fun m tm h nx=>∃ z2 z3 z7,tm=(F60.fr a b z2 z3 e i l z7 q s f p)/\Inv m z2 h nx) ?_ hm ⟨_,_,_,rfl,hi⟩;rintro m tm h nx R ⟨z2,z3,z7,rfl,hi⟩ hR;refine Eq.trans ?_ (step m z2 z3 z7 h nx R hi fun m' w2 w3 w7 h' nx' hlt hi'=>hR m' _ h' nx' hlt ⟨_,_,_,rfl,hi'⟩)
 kernel_rfl
theorem F60.k6:IR.run F60.b6 C N (fnO F60.res K0) K (F60.fr a b c d e i l o q s f p) h nx =
 C.fn 113 (.of 113) [c,(.fn 114 (.of 114) [])] h nx fun v1 h2 n3=>sLen c fun v4=>IR.run F60.b7 C N (fnO F60.res K0) (IR.run F60.b14 C N (fnO F60.res K0) K) (F60.fr a b c d .zf i l o c v4 (I 0) p) h2 n3:=by kernel_rfl
theorem F60.L7 (Inv:Nat->AV->AV->T Blk->Pa->Prop) {m:Nat} (hm:m<N) (hi:Inv m e f h nx)
  (step:∀ (m:Nat) (z4 z5 zA zB:AV) (h:T Blk) (nx:Pa) (R:Ks Prop),Inv m z4 zA h nx->(∀ (m':Nat) (w4 w5 wA wB:AV) (h':T Blk) (nx':Pa),m'<m->Inv m' w4 wA h' nx'->R (F60.fr a b c d w4 w5 l o q s wA wB) h' nx'=.ok True) ->
   (zh .lss .int zA s fun v1=>zX v1 (zV 2 q zA fun v2=>zS 2 v2 h fun v3=>yT [.zf,(.bool false)] h nx fun v4 h5 n6=>zY 2 v4 v3 h5 n6 fun v7 h8 n9=>zS 2 v4 h8 fun vA=>jM 2 1 [.zf,(.bool false)] [(0,2,vA)] h8 n9 fun vB hC nD=>mJ C 2 32 z4 vB hC nD fun vE hA nA=>zh .add .int zA (I 1) fun vH=>R (F60.fr a b c d vE v4 l o q s vH v1) hA nA) (K (F60.fr a b c d z4 z5 l o q s zA v1) h nx))=.ok True) :
  IR.run F60.b7 C N (fnO F60.res K0) K (F60.fr a b c d e i l o q s f p) h nx=.ok True:=by
 rw [F60.b7,F60.ze4,F60.b8];refine yK (fun m tm h nx=>∃ z4 z5 zA zB,tm=(F60.fr a b c d z4 z5 l o q s zA zB)/\Inv m z4 zA h nx) ?_ hm ⟨_,_,_,_,rfl,hi⟩;rintro m tm h nx R ⟨z4,z5,zA,zB,rfl,hi⟩ hR;refine Eq.trans ?_ (step m z4 z5 zA zB h nx R hi fun m' w4 w5 wA wB h' nx' hlt hi'=>hR m' _ h' nx' hlt ⟨_,_,_,_,rfl,hi'⟩)
 kernel_rfl
theorem F60.k14:IR.run F60.b14 C N (fnO F60.res K0) K (F60.fr a b c d e i l o q s f p) h nx =
 K0 e h nx:=by kernel_rfl
theorem F50.ql (X2:IR) (O:yu Prop) (t:T AV):IR.run (F50.g1 X2) C N O K t h nx=IR.run X2 C N (O.blk 0 K) K t h nx:=by kernel_rfl
theorem F50.tab:T.get none (.of 50) tbl=some F50:=by kernel_rfl
theorem F50.go:zQ tbl N C (.of 50) [a0] h nx K0 =
 C.fn 102 (.of 102) [a0] h nx fun v1 h2 n3=>C.fn 101 (.of 101) [v1] h2 n3 fun v4 h5 n6=>sLen v4 fun v7=>IR.run F50.b1 C N (fnO F50.res K0) (IR.run F50.b8 C N (fnO F50.res K0) (jq F50.res K0)) (F50.fr a0 (.bool false) .u .u v4 v7 (I 0) .u .u) h5 n6:=by
 rw [zK F50.tab];kernel_rfl
theorem F50.L1 (Inv:Nat->AV->T Blk->Pa->Prop) {m:Nat} (hm:m<N) (hi:Inv m l h nx)
  (step:∀ (m:Nat) (z1 z2 z3 z6 z7 z8:AV) (h:T Blk) (nx:Pa) (R:Ks Prop),Inv m z6 h nx->(∀ (m':Nat) (w1 w2 w3 w6 w7 w8:AV) (h':T Blk) (nx':Pa),m'<m->Inv m' w6 h' nx'->R (F50.fr a w1 w2 w3 e i w6 w7 w8) h' nx'=.ok True) ->
   (zh .lss .int z6 i fun v1=>zX v1 (zV 1 e z6 fun v2=>zG v2 h fun v3=>zh .add .int z6 (I 1) fun v4=>zh .neq .int v3 v4 fun v5=>zX v5 (K0 (.bool false) h nx) (zh .add .int z6 (I 1) fun v6=>R (F50.fr a z1 z6 v3 e i v6 v1 v5) h nx)) (K (F50.fr a z1 z2 z3 e i z6 v1 z8) h nx))=.ok True) :
  IR.run F50.b1 C N (fnO F50.res K0) K (F50.fr a b c d e i l o q) h nx=.ok True:=by
 rw [F50.b1,F50.ql,F50.b2];refine yK (fun m tm h nx=>∃ z1 z2 z3 z6 z7 z8,tm=(F50.fr a z1 z2 z3 e i z6 z7 z8)/\Inv m z6 h nx) ?_ hm ⟨_,_,_,_,_,_,rfl,hi⟩;rintro m tm h nx R ⟨z1,z2,z3,z6,z7,z8,rfl,hi⟩ hR;refine Eq.trans ?_ (step m z1 z2 z3 z6 z7 z8 h nx R hi fun m' w1 w2 w3 w6 w7 w8 h' nx' hlt hi'=>hR m' _ h' nx' hlt ⟨_,_,_,_,_,_,rfl,hi'⟩)
 kernel_rfl
theorem F50.k8:IR.run F50.b8 C N (fnO F50.res K0) K (F50.fr a b c d e i l o q) h nx =
 K0 (.bool true) h nx:=by kernel_rfl
theorem F109.tab:T.get none (.of 109) tbl=some F109:=by kernel_rfl
theorem F109.go:zQ tbl N C (.of 109) [a0] h nx K0 =
 C.fn 70 (.of 70) [(I (-999999999)),(I 999999999),a0] h nx fun v1 h2 n3=>K0 v1 h2 n3:=by
 rw [zK F109.tab];kernel_rfl
theorem F53.ql (X2:IR) (O:yu Prop) (t:T AV):IR.run (F53.g1 X2) C N O K t h nx=IR.run X2 C N (O.blk 0 K) K t h nx:=by kernel_rfl
theorem F53.tab:T.get none (.of 53) tbl=some F53:=by kernel_rfl
theorem F53.go:zQ tbl N C (.of 53) [a0] h nx K0 =
 IR.run F53.b1 C N (fnO F53.res K0) (IR.run F53.b8 C N (fnO F53.res K0) (jq F53.res K0)) (F53.fr a0 (I 0) (I 0) .u .u) h nx:=by
 rw [zK F53.tab];kernel_rfl
theorem F53.L1 (Inv:Nat->AV->T Blk->Pa->Prop) {m:Nat} (hm:m<N) (hi:Inv m c h nx)
  (step:∀ (m:Nat) (z1 z2 z3 z4:AV) (h:T Blk) (nx:Pa) (R:Ks Prop),Inv m z2 h nx->(∀ (m':Nat) (w1 w2 w3 w4:AV) (h':T Blk) (nx':Pa),m'<m->Inv m' w2 h' nx'->R (F53.fr a w1 w2 w3 w4) h' nx'=.ok True) ->
   (sLen a fun v1=>zh .lss .int z2 v1 fun v2=>zX v2 (zV 1 a z2 fun v3=>zG v3 h fun v4=>zh .lss .int v4 (I (-999999999)) fun v5=>sG v5 false (fun k=>k a) fun v6=>sG v5 false (fun k=>k z2) fun v7=>sG v5 false (fun k=>zV 1 v6 v7 k) fun v8=>sG v5 false (fun k=>zG v8 h k) fun v9=>sG v5 false (fun k=>zh .gtr .int v9 (I 999999999) k) fun vA=>jE v5 (.bool true) vA fun vB=>zX vB (K0 (I 3) h nx) (zh .add .int z2 (I 1) fun vC=>R (F53.fr a z1 vC v2 vB) h nx)) (K (F53.fr a z1 z2 v2 z4) h nx))=.ok True) :
  IR.run F53.b1 C N (fnO F53.res K0) K (F53.fr a b c d e) h nx=.ok True:=by
 rw [F53.b1,F53.ql,F53.b2];refine yK (fun m tm h nx=>∃ z1 z2 z3 z4,tm=(F53.fr a z1 z2 z3 z4)/\Inv m z2 h nx) ?_ hm ⟨_,_,_,_,rfl,hi⟩;rintro m tm h nx R ⟨z1,z2,z3,z4,rfl,hi⟩ hR;refine Eq.trans ?_ (step m z1 z2 z3 z4 h nx R hi fun m' w1 w2 w3 w4 h' nx' hlt hi'=>hR m' _ h' nx' hlt ⟨_,_,_,_,rfl,hi'⟩)
 kernel_rfl
theorem F53.k8:IR.run F53.b8 C N (fnO F53.res K0) K (F53.fr a b c d e) h nx =
 K0 (I 0) h nx:=by kernel_rfl
theorem yg.ze4 (X8:IR) (O:yu Prop) (t:T AV):IR.run (yg.g7 X8) C N O K t h nx=IR.run X8 C N (O.blk 2 K) K t h nx:=by kernel_rfl
theorem yg.ql (X2:IR) (O:yu Prop) (t:T AV):IR.run (yg.g1 X2) C N O K t h nx=IR.run X2 C N (O.blk 0 K) K t h nx:=by kernel_rfl
theorem yg.tab:T.get none (.of 124) tbl=some yg:=by kernel_rfl
theorem yg.go:zQ tbl N C (.of 124) [a0,a1] h nx K0 =
 vk a0 h nx fun v1 h2 n3=>yT [(I 0),.zf] h2 n3 fun v4 h5 n6=>zN 0 v1 fun v7=>zG v7 h5 fun v8=>C.fn 71 (.of 71) [(.str [109,97,103,105,99]),v8] h5 n6 fun v9 hU nU=>ze5 1 none v9 fun vC=>sLen vC fun vD=>IR.run yg.b1 C N (fnO yg.res K0) (IR.run yg.b17 C N (fnO yg.res K0) (jq yg.res K0)) (yg.fr a0 a1 v1 (.bool false) v4 .u .u .u .u vC vD (I 0) .u .u .u .u .u .u .u) hU nU:=by
 rw [zK yg.tab];kernel_rfl
theorem yg.L1 (Inv:Nat->AV->T Blk->Pa->Prop) {m:Nat} (hm:m<N) (hi:Inv m p h nx)
  (step:∀ (m:Nat) (z3 z5 z6 z7 z8 zB zD zE zF zH zI zJ zL:AV) (h:T Blk) (nx:Pa) (R:Ks Prop),Inv m zB h nx->(∀ (m':Nat) (w3 w5 w6 w7 w8 wB wC wD wE wF wG wH wI:AV) (h':T Blk) (nx':Pa),m'<m->Inv m' wB h' nx'->R (yg.fr a b c w3 e w5 w6 w7 w8 s f wB wC wD wE wF wG wH wI) h' nx'=.ok True) ->
   (zh .lss .int zB f fun v1=>zX v1 (zV 1 s zB fun v2=>zG v2 h fun v3=>C.fn 85 (.of 85) [(I 0)] h nx fun v4 h5 n6=>yT [(I 0),.zf] h5 n6 fun v7 h8 n9=>zY 2 v7 v4 h8 n9 fun vA hB nB=>sLen v3 fun vD=>IR.run yg.b7 C N (((fnO yg.res K0).blk 0 K).blk 1 (IR.run yg.b16 C N ((fnO yg.res K0).blk 0 K) R)) (IR.run yg.b14 C N (((fnO yg.res K0).blk 0 K).blk 1 (IR.run yg.b16 C N ((fnO yg.res K0).blk 0 K) R)) (IR.run yg.b16 C N ((fnO yg.res K0).blk 0 K) R)) (yg.fr a b c z3 e zB v3 v7 z8 s f zB v1 v3 vD (I 0) zI zJ zL) hB nB) (K (yg.fr a b c z3 e z5 z6 z7 z8 s f zB v1 zE zF zH zI zJ zL) h nx))=.ok True) :
  IR.run yg.b1 C N (fnO yg.res K0) K (yg.fr a b c d e i l o q s f p u v w y D z E) h nx=.ok True:=by
 rw [yg.b1,yg.ql,yg.b2];refine yK (fun m tm h nx=>∃ z3 z5 z6 z7 z8 zB zD zE zF zH zI zJ zL,tm=(yg.fr a b c z3 e z5 z6 z7 z8 s f zB zD zE zF zH zI zJ zL)/\Inv m zB h nx) ?_ hm ⟨_,_,_,_,_,_,_,_,_,_,_,_,_,rfl,hi⟩;rintro m tm h nx R ⟨z3,z5,z6,z7,z8,zB,zD,zE,zF,zH,zI,zJ,zL,rfl,hi⟩ hR;refine Eq.trans ?_ (step m z3 z5 z6 z7 z8 zB zD zE zF zH zI zJ zL h nx R hi fun m' w3 w5 w6 w7 w8 wB wC wD wE wF wG wH wI h' nx' hlt hi'=>hR m' _ h' nx' hlt ⟨_,_,_,_,_,_,_,_,_,_,_,_,_,rfl,hi'⟩)
 kernel_rfl
theorem yg.k17:IR.run yg.b17 C N (fnO yg.res K0) K (yg.fr a b c d e i l o q s f p u v w y D z E) h nx =
 K0 (.bool true) h nx:=by kernel_rfl
theorem yg.k16 {E0:Ks Prop}:IR.run yg.b16 C N ((fnO yg.res K0).blk 0 E0) K (yg.fr a b c d e i l o q s f p u v w y D z E) h nx =
 zh .add .int p (I 1) fun v1=>K (yg.fr a b c d e i l o q s f v1 u v w y D z E) h nx:=by kernel_rfl
theorem yg.L7 {E0 E1:Ks Prop} (Inv:Nat->AV->T Blk->Pa->Prop) {m:Nat} (hm:m<N) (hi:Inv m y h nx)
  (step:∀ (m:Nat) (z8 zH zI:AV) (h:T Blk) (nx:Pa) (R:Ks Prop),Inv m zH h nx->(∀ (m':Nat) (w8 wF wG:AV) (h':T Blk) (nx':Pa),m'<m->Inv m' wF h' nx'->R (yg.fr a b c d e i l o w8 s f p u v w wF wG z E) h' nx'=.ok True) ->
   (zh .lss .int zH w fun v1=>zX v1 (zV 1 v zH fun v2=>zG v2 h fun v3=>zS 2 o h fun v4=>zN 1 c fun v5=>zG v5 h fun v6=>zV 1 v6 v3 fun v7=>zG v7 h fun v8=>C.fn 85 (.of 85) [v8] h nx fun v9 hU nU=>zT b b ((zS 2 o hU fun vN=>zT vN v4 (C.fn 185 (.of 185) [v9,b] hU nU fun vC h13 n14=>(zS 2 o h13 fun vM=>zT vM v4 (C.fn 87 (.of 87) [v4,vC] h13 n14 fun vF h16 n17=>zY 2 o vF h16 n17 fun vI hK nL=>zh .add .int zH (I 1) fun vL=>R (yg.fr a b c d e i l o v3 s f p u v w vL v1 z E) hK nL)))))) (K (yg.fr a b c d e i l o z8 s f p u v w zH v1 z E) h nx))=.ok True) :
  IR.run yg.b7 C N (((fnO yg.res K0).blk 0 E0).blk 1 E1) K (yg.fr a b c d e i l o q s f p u v w y D z E) h nx=.ok True:=by
 rw [yg.b7,yg.ze4,yg.b8];refine yK (fun m tm h nx=>∃ z8 zH zI,tm=(yg.fr a b c d e i l o z8 s f p u v w zH zI z E)/\Inv m zH h nx) ?_ hm ⟨_,_,_,rfl,hi⟩;rintro m tm h nx R ⟨z8,zH,zI,rfl,hi⟩ hR;refine Eq.trans ?_ (step m z8 zH zI h nx R hi fun m' w8 wF wG h' nx' hlt hi'=>hR m' _ h' nx' hlt ⟨_,_,_,rfl,hi'⟩)
 kernel_rfl
theorem yg.k14 {E0 E1:Ks Prop}:IR.run yg.b14 C N (((fnO yg.res K0).blk 0 E0).blk 1 E1) K (yg.fr a b c d e i l o q s f p u v w y D z E) h nx =
 zh .eql .int i (I 0) fun v1=>zX v1 (zS 2 o h fun v2=>zY 2 e v2 h nx fun v3 h4 n5=>(IR.run yg.b15 C N (((fnO yg.res K0).blk 0 E0).blk 1 E1) K) (yg.fr a b c d e i l o q s f p u v w y D v1 E) h4 n5) ((IR.run yg.b15 C N (((fnO yg.res K0).blk 0 E0).blk 1 E1) K) (yg.fr a b c d e i l o q s f p u v w y D v1 E) h nx):=by kernel_rfl
theorem yg.k15 {E0 E1:Ks Prop}:IR.run yg.b15 C N (((fnO yg.res K0).blk 0 E0).blk 1 E1) K (yg.fr a b c d e i l o q s f p u v w y D z E) h nx =
 zS 2 o h fun v1=>zS 2 e h fun v2=>C.fn 186 (.of 186) [v1,v2] h nx fun v3 h4 n5=>zh .neq .int v3 (I 0) fun v6=>zX v6 (K0 (.bool false) h4 n5) (K (yg.fr a b c d e i l o q s f p u v w y D z v6) h4 n5):=by kernel_rfl
theorem F85.tab:T.get none (.of 85) tbl=some F85:=by kernel_rfl
theorem F85.go:zQ tbl N C (.of 85) [a0] h nx K0 =
 yT [(I 0),.zf] h nx fun v1 h2 n3=>jO [(I 0),.zf] [(0,1,a0)] fun v4=>zY 2 v1 v4 h2 n3 fun v5 h6 n7=>zS 2 v1 h6 fun v8=>K0 v8 h6 n7:=by
 rw [zK F85.tab];kernel_rfl
theorem F87.tab:T.get none (.of 87) tbl=some F87:=by kernel_rfl
theorem F87.go:zQ tbl N C (.of 87) [a0,a1] h nx K0 =
 vk a0 h nx fun v1 h2 n3=>vk a1 h2 n3 fun v4 h5 n6=>yT [(I 0),.zf] h5 n6 fun v7 h8 n9=>zN 1 v1 fun vA=>zG vA h8 fun vB=>zh .eql (.nil .sl) vB .zf fun vC=>sG vC true (fun k=>zN 1 v4 k) fun vD=>sG vC true (fun k=>zG vD h8 k) fun vE=>sG vC true (fun k=>zh .eql (.nil .sl) vE .zf k) fun vF=>jE vC vF (.bool false) fun vG=>zX vG (zN 0 v1 fun vH=>zG vH h8 fun vI=>zN 0 v4 fun vJ=>zG vJ h8 fun vK=>zh .add .int vI vK fun vL=>zN 0 v1 fun vM=>zG vM h8 fun vN=>zh .gtr .int vL vN fun vO=>zN 0 v4 fun v25=>zG v25 h8 fun vV=>zh .gtr .int vV (I 0) fun vU=>zh .eql .bool vO vU fun vS=>zX vS (jO [(I 0),.zf] [(0,1,vL)] fun vR=>zY 2 v7 vR h8 n9 fun vQ hO nP=>zS 2 v7 hO fun vZ=>K0 vZ hO nP) ((IR.run F87.b1 C N (fnO F87.res K0) (jq F87.res K0)) (F87.fr a0 a1 v1 v4 v7 vL .u .u .u .u vG vS .u .u) h8 n9)) ((IR.run F87.b1 C N (fnO F87.res K0) (jq F87.res K0)) (F87.fr a0 a1 v1 v4 v7 .u .u .u .u .u vG .u .u .u) h8 n9):=by
 rw [zK F87.tab];kernel_rfl
theorem je.ql (X2:IR) (O:yu Prop) (t:T AV):IR.run (je.g1 X2) C N O K t h nx=IR.run X2 C N (O.blk 0 K) K t h nx:=by kernel_rfl
theorem je.tab:T.get none (.of 185) tbl=some je:=by kernel_rfl
theorem je.go:zQ tbl N C (.of 185) [a0,a1] h nx K0 =
 vk a0 h nx fun v1 h2 n3=>yT [(I 0),.zf] h2 n3 fun v4 h5 n6=>C.fn 85 (.of 85) [(I 1)] h5 n6 fun v7 h8 n9=>yT [(I 0),.zf] h8 n9 fun vA hB nB=>zY 2 vA v7 hB nB fun vD hH nI=>IR.run je.b1 C N (fnO je.res K0) (IR.run je.b9 C N (fnO je.res K0) (jq je.res K0)) (je.fr a0 a1 v1 v4 vA .u .u .u) hH nI:=by
 rw [zK je.tab];kernel_rfl
theorem je.L1 (Inv:Nat->AV->T Blk->Pa->Prop) {m:Nat} (hm:m<N) (hi:Inv m b h nx)
  (step:∀ (m:Nat) (z1 z5 z6 z7:AV) (h:T Blk) (nx:Pa) (R:Ks Prop),Inv m z1 h nx->(∀ (m':Nat) (w1 w5 w6 w7:AV) (h':T Blk) (nx':Pa),m'<m->Inv m' w1 h' nx'->R (je.fr a w1 c d e w5 w6 w7) h' nx'=.ok True) ->
   (zh .gtr .int z1 (I 0) fun v1=>zX v1 (zh .and .int z1 (I 1) fun v2=>zh .eql .int v2 (I 1) fun v3=>zX v3 (zS 2 e h fun v4=>zS 2 c h fun v5=>C.fn 151 (.of 151) [v4,v5] h nx fun v6 h7 n8=>zY 2 e v6 h7 n8 fun v9 hU nU=>(IR.run je.b7 C N (((fnO je.res K0).blk 0 K).blk 1 (IR.run je.b8 C N ((fnO je.res K0).blk 0 K) R)) (IR.run je.b8 C N ((fnO je.res K0).blk 0 K) R)) (je.fr a z1 c d e v1 v3 z7) hU nU) ((IR.run je.b7 C N (((fnO je.res K0).blk 0 K).blk 1 (IR.run je.b8 C N ((fnO je.res K0).blk 0 K) R)) (IR.run je.b8 C N ((fnO je.res K0).blk 0 K) R)) (je.fr a z1 c d e v1 v3 z7) h nx)) (K (je.fr a z1 c d e v1 z6 z7) h nx))=.ok True) :
  IR.run je.b1 C N (fnO je.res K0) K (je.fr a b c d e i l o) h nx=.ok True:=by
 rw [je.b1,je.ql,je.b2];refine yK (fun m tm h nx=>∃ z1 z5 z6 z7,tm=(je.fr a z1 c d e z5 z6 z7)/\Inv m z1 h nx) ?_ hm ⟨_,_,_,_,rfl,hi⟩;rintro m tm h nx R ⟨z1,z5,z6,z7,rfl,hi⟩ hR;refine Eq.trans ?_ (step m z1 z5 z6 z7 h nx R hi fun m' w1 w5 w6 w7 h' nx' hlt hi'=>hR m' _ h' nx' hlt ⟨_,_,_,_,rfl,hi'⟩)
 kernel_rfl
theorem je.k9:IR.run je.b9 C N (fnO je.res K0) K (je.fr a b c d e i l o) h nx =
 zS 2 e h fun v1=>zY 2 d v1 h nx fun v2 h3 n4=>zS 2 d h3 fun v5=>K0 v5 h3 n4:=by kernel_rfl
theorem je.k8 {E0:Ks Prop}:IR.run je.b8 C N ((fnO je.res K0).blk 0 E0) K (je.fr a b c d e i l o) h nx =
 zh .shr .int b (.int .u64 1) fun v1=>K (je.fr a v1 c d e i l o) h nx:=by kernel_rfl
theorem je.k7 {E0 E1:Ks Prop}:IR.run je.b7 C N (((fnO je.res K0).blk 0 E0).blk 1 E1) K (je.fr a b c d e i l o) h nx =
 zh .gtr .int b (I 1) fun v1=>zX v1 (zS 2 c h fun v2=>zS 2 c h fun v3=>C.fn 151 (.of 151) [v2,v3] h nx fun v4 h5 n6=>zY 2 c v4 h5 n6 fun v7 h8 n9=>K (je.fr a b c d e i l v1) h8 n9) (K (je.fr a b c d e i l v1) h nx):=by kernel_rfl
theorem sS.tab:T.get none (.of 186) tbl=some sS:=by kernel_rfl
theorem sS.go:zQ tbl N C (.of 186) [a0,a1] h nx K0 =
 vk a0 h nx fun v1 h2 n3=>vk a1 h2 n3 fun v4 h5 n6=>zN 1 v1 fun v7=>zG v7 h5 fun v8=>zh .eql (.nil .sl) v8 .zf fun v9=>sG v9 true (fun k=>zN 1 v4 k) fun vA=>sG v9 true (fun k=>zG vA h5 k) fun vB=>sG v9 true (fun k=>zh .eql (.nil .sl) vB .zf k) fun vC=>jE v9 vC (.bool false) fun vD=>zX vD (zN 0 v1 fun vE=>zG vE h5 fun vF=>zN 0 v4 fun vG=>zG vG h5 fun vH=>zh .lss .int vF vH fun vI=>zX vI (K0 (I (-1)) h5 n6) (zN 0 v1 fun vJ=>zG vJ h5 fun vK=>zN 0 v4 fun vL=>zG vL h5 fun vM=>zh .gtr .int vK vM fun vN=>zX vN (K0 (I 1) h5 n6) (K0 (I 0) h5 n6))) (zS 2 v1 h5 fun vO=>zS 2 v4 h5 fun v25=>C.fn 208 (.of 208) [vO,v25] h5 n6 fun vV hJ nK=>C.fn 152 (.of 152) [vV] hJ nK fun vR h30 n31=>K0 vR h30 n31):=by
 rw [zK sS.tab];kernel_rfl
theorem fG.tab:T.get none (.of 151) tbl=some fG:=by kernel_rfl
theorem fG.go:zQ tbl N C (.of 151) [a0,a1] h nx K0 =
 vk a0 h nx fun v1 h2 n3=>vk a1 h2 n3 fun v4 h5 n6=>yT [(I 0),.zf] h5 n6 fun v7 h8 n9=>zN 1 v1 fun vA=>zG vA h8 fun vB=>zh .eql (.nil .sl) vB .zf fun vC=>sG vC true (fun k=>zN 1 v4 k) fun vD=>sG vC true (fun k=>zG vD h8 k) fun vE=>sG vC true (fun k=>zh .eql (.nil .sl) vE .zf k) fun vF=>jE vC vF (.bool false) fun vG=>zX vG (zN 0 v1 fun vH=>zG vH h8 fun vI=>zN 0 v4 fun vJ=>zG vJ h8 fun vK=>C.fn 201 (.of 201) [vI] h8 n9 fun vL h22 n23=>(zG vJ h22 fun v51=>zT v51 vK ((zN 0 v4 fun v50=>zT v50 vJ (C.fn 201 (.of 201) [vK] h22 n23 fun vO hD nE=>C.fn 205 (.of 205) [vL,vO] hD nE fun vU hN nO=>fB 0 vU fun vQ=>fB 1 vU fun vP=>zh .eql .int vQ (.int .u64 0) fun v32=>sG v32 true (fun k=>k vP) fun vZ=>sG v32 true (fun k=>zh .leq .int vZ (.int .u64 9223372036854775807) k) fun vY=>jE v32 vY (.bool false) fun vX=>zX vX (zN 0 v1 fun vW=>zG vW hN fun v37=>zh .lss .int v37 (I 0) fun v38=>zN 0 v4 fun v39=>zG v39 hN fun v40=>zh .lss .int v40 (I 0) fun v41=>zh .neq .bool v38 v41 fun v42=>zX v42 (vT .i64 vP fun v43=>sNeg v43 fun v44=>jO [(I 0),.zf] [(0,1,v44)] fun v45=>zY 2 v7 v45 hN nO fun v46 h47 n48=>zS 2 v7 h47 fun v49=>K0 v49 h47 n48) ((IR.run fG.b1 C N (fnO fG.res K0) (IR.run fG.b2 C N (fnO fG.res K0) (jq fG.res K0))) (fG.fr a0 a1 v1 v4 v7 vQ vP .u .u .u .u vG vX v42) hN nO)) ((IR.run fG.b2 C N (fnO fG.res K0) (jq fG.res K0)) (fG.fr a0 a1 v1 v4 v7 vQ vP .u .u .u .u vG vX .u) hN nO)))))) ((IR.run fG.b2 C N (fnO fG.res K0) (jq fG.res K0)) (fG.fr a0 a1 v1 v4 v7 .u .u .u .u .u .u vG .u .u) h8 n9):=by
 rw [zK fG.tab];kernel_rfl
theorem fG.k1:IR.run fG.b1 C N (fnO fG.res K0) K (fG.fr a b c d e i l o q s f p u v) h nx =
 vT .i64 l fun v1=>jO [(I 0),.zf] [(0,1,v1)] fun v2=>zY 2 e v2 h nx fun v3 h4 n5=>zS 2 e h4 fun v6=>K0 v6 h4 n5:=by kernel_rfl
theorem F205.tab:T.get none (.of 205) tbl=some F205:=by kernel_rfl
theorem F205.go:zQ tbl N C (.of 205) [a0,a1] h nx K0 =
 zh .and .int a0 (.int .u64 4294967295) fun v1=>zh .shr .int a0 (.int .u64 32) fun v2=>zh .and .int a1 (.int .u64 4294967295) fun v3=>zh .shr .int a1 (.int .u64 32) fun v4=>zh .mul .int v1 v3 fun v5=>zh .mul .int v2 v3 fun v6=>zh .shr .int v5 (.int .u64 32) fun v7=>zh .add .int v6 v7 fun v8=>zh .and .int v8 (.int .u64 4294967295) fun v9=>zh .shr .int v8 (.int .u64 32) fun vA=>zh .mul .int v1 v4 fun vB=>zh .add .int v9 vB fun vC=>zh .mul .int v2 v4 fun vD=>zh .add .int vD vA fun vE=>zh .shr .int vC (.int .u64 32) fun vF=>zh .add .int vE vF fun vG=>zh .mul .int a0 a1 fun vH=>K0 (.tup [vG,vH]) h nx:=by
 rw [zK F205.tab];kernel_rfl
theorem aQ.tab:T.get none (.of 201) tbl=some aQ:=by kernel_rfl
theorem aQ.go:zQ tbl N C (.of 201) [a0] h nx K0 =
 zh .lss .int a0 (I 0) fun v1=>zX v1 (sNeg a0 fun v2=>vT .u64 v2 fun v3=>K0 v3 h nx) (vT .u64 a0 fun v4=>K0 v4 h nx):=by
 rw [zK aQ.tab];kernel_rfl
theorem uw.ql (X2:IR) (O:yu Prop) (t:T AV):IR.run (uw.g1 X2) C N O K t h nx=IR.run X2 C N (O.blk 0 K) K t h nx:=by kernel_rfl
theorem uw.tab:T.get none (.of 164) tbl=some uw:=by kernel_rfl
theorem uw.go:zQ tbl N C (.of 164) [a0,a1] h nx K0 =
 vk a0 h nx fun v1 h2 n3=>zN 1 v1 fun v4=>zG v4 h2 fun v5=>sLen v5 fun v6=>IR.run uw.b1 C N (fnO uw.res K0) (IR.run uw.b8 C N (fnO uw.res K0) (jq uw.res K0)) (uw.fr a0 a1 v1 .zf .zf .u v5 v6 (I 0) .u) h2 n3:=by
 rw [zK uw.tab];kernel_rfl
theorem uw.L1 (Inv:Nat->AV->AV->T Blk->Pa->Prop) {m:Nat} (hm:m<N) (hi:Inv m e q h nx)
  (step:∀ (m:Nat) (z4 z5 z8 z9:AV) (h:T Blk) (nx:Pa) (R:Ks Prop),Inv m z4 z8 h nx->(∀ (m':Nat) (w4 w5 w8 w9:AV) (h':T Blk) (nx':Pa),m'<m->Inv m' w4 w8 h' nx'->R (uw.fr a b c d w4 w5 l o w8 w9) h' nx'=.ok True) ->
   (zh .lss .int z8 o fun v1=>zX v1 (zV 1 l z8 fun v2=>zG v2 h fun v3=>C.fn 219 (.of 219) [v3,b] h nx fun v4 h5 n6=>jM 1 1 [(I 0)] [(0,1,v4)] h5 n6 fun v7 h8 n9=>tu 1 8 z4 v7 h8 n9 fun vA hB nB=>zh .add .int z8 (I 1) fun vD=>R (uw.fr a b c d vA v3 l o vD v1) hB nB) (K (uw.fr a b c d z4 z5 l o z8 v1) h nx))=.ok True) :
  IR.run uw.b1 C N (fnO uw.res K0) K (uw.fr a b c d e i l o q s) h nx=.ok True:=by
 rw [uw.b1,uw.ql,uw.b2];refine yK (fun m tm h nx=>∃ z4 z5 z8 z9,tm=(uw.fr a b c d z4 z5 l o z8 z9)/\Inv m z4 z8 h nx) ?_ hm ⟨_,_,_,_,rfl,hi⟩;rintro m tm h nx R ⟨z4,z5,z8,z9,rfl,hi⟩ hR;refine Eq.trans ?_ (step m z4 z5 z8 z9 h nx R hi fun m' w4 w5 w8 w9 h' nx' hlt hi'=>hR m' _ h' nx' hlt ⟨_,_,_,_,rfl,hi'⟩)
 kernel_rfl
theorem uw.k8:IR.run uw.b8 C N (fnO uw.res K0) K (uw.fr a b c d e i l o q s) h nx =
 K0 e h nx:=by kernel_rfl
theorem F98.tab:T.get none (.of 98) tbl=some F98:=by kernel_rfl
theorem F98.go:zQ tbl N C (.of 98) [a0,a1] h nx K0 =
 vk a0 h nx fun v1 h2 n3=>zS 2 v1 h2 fun v4=>C.fn 164 (.of 164) [v4,a1] h2 n3 fun v5 h6 n7=>yT [.zf] h6 n7 fun v8 h9 nC=>zY 1 v8 v5 h9 nC fun vB hC nD=>zG v8 hC fun vE=>C.fn 127 (.of 127) [vE,(.fn 165 (.of 165) [v8])] hC nD fun vF h16 n17=>K0 vF h16 n17:=by
 rw [zK F98.tab];kernel_rfl
theorem F165.tab:T.get none (.of 165) tbl=some F165:=by kernel_rfl
theorem F165.go:zQ tbl N C (.of 165) [a0,a1] h nx K0 =
 zG a1 h fun v1=>zV 1 v1 (I 0) fun v2=>zG v2 h fun v3=>zh .neq .int a0 v3 fun v4=>K0 v4 h nx:=by
 rw [zK F165.tab];kernel_rfl
theorem uy.ql (X2:IR) (O:yu Prop) (t:T AV):IR.run (uy.g1 X2) C N O K t h nx=IR.run X2 C N (O.blk 0 K) K t h nx:=by kernel_rfl
theorem uy.tab:T.get none (.of 219) tbl=some uy:=by kernel_rfl
theorem uy.go:zQ tbl N C (.of 219) [a0,a1] h nx K0 =
 sLen a0 fun v1=>IR.run uy.b1 C N (fnO uy.res K0) (IR.run uy.b8 C N (fnO uy.res K0) (jq uy.res K0)) (uy.fr a0 a1 (I 0) (I 0) .u a0 v1 (I 0) .u) h nx:=by
 rw [zK uy.tab];kernel_rfl
theorem uy.L1 (Inv:Nat->AV->AV->T Blk->Pa->Prop) {m:Nat} (hm:m<N) (hi:Inv m d o h nx)
  (step:∀ (m:Nat) (z3 z4 z7 z8:AV) (h:T Blk) (nx:Pa) (R:Ks Prop),Inv m z3 z7 h nx->(∀ (m':Nat) (w3 w4 w7 w8:AV) (h':T Blk) (nx':Pa),m'<m->Inv m' w3 w7 h' nx'->R (uy.fr a b c w3 w4 i l w7 w8) h' nx'=.ok True) ->
   (zh .lss .int z7 l fun v1=>zX v1 (zV 1 i z7 fun v2=>zG v2 h fun v3=>zV 1 b v3 fun v4=>zG v4 h fun v5=>zh .add .int z3 v5 fun v6=>zh .add .int z7 (I 1) fun v7=>R (uy.fr a b c v6 v3 i l v7 v1) h nx) (K (uy.fr a b c z3 z4 i l z7 v1) h nx))=.ok True) :
  IR.run uy.b1 C N (fnO uy.res K0) K (uy.fr a b c d e i l o q) h nx=.ok True:=by
 rw [uy.b1,uy.ql,uy.b2];refine yK (fun m tm h nx=>∃ z3 z4 z7 z8,tm=(uy.fr a b c z3 z4 i l z7 z8)/\Inv m z3 z7 h nx) ?_ hm ⟨_,_,_,_,rfl,hi⟩;rintro m tm h nx R ⟨z3,z4,z7,z8,rfl,hi⟩ hR;refine Eq.trans ?_ (step m z3 z4 z7 z8 h nx R hi fun m' w3 w4 w7 w8 h' nx' hlt hi'=>hR m' _ h' nx' hlt ⟨_,_,_,_,rfl,hi'⟩)
 kernel_rfl
theorem uy.k8:IR.run uy.b8 C N (fnO uy.res K0) K (uy.fr a b c d e i l o q) h nx =
 K0 d h nx:=by kernel_rfl
theorem F62.tab:T.get none (.of 62) tbl=some F62:=by kernel_rfl
theorem F62.go:zQ tbl N C (.of 62) [] h nx K0 =
 jO [(.str []),.dh] [(0,1,(.str [110,111,114,109,97,108])),(1,1,(.fn 115 (.of 115) []))] fun v1=>jO [(.str []),.dh] [(0,1,(.str [115,101,109,105,109,97,103,105,99])),(1,1,(.fn 116 (.of 116) []))] fun v2=>jO [(.str []),.dh] [(0,1,(.str [109,97,103,105,99])),(1,1,(.fn 118 (.of 118) []))] fun v3=>jO [(.str []),.dh] [(0,1,(.str [112,97,110,100,105,97,103,111,110,97,108])),(1,1,(.fn 119 (.of 119) []))] fun v4=>jO [(.str []),.dh] [(0,1,(.str [97,115,115,111,99,105,97,116,105,118,101])),(1,1,(.fn 120 (.of 120) []))] fun v5=>jO [(.str []),.dh] [(0,1,(.str [109,111,115,116,45,112,101,114,102,101,99,116])),(1,1,(.fn 121 (.of 121) []))] fun v6=>jO [(.str []),.dh] [(0,1,(.str [98,111,114,100,101,114,101,100])),(1,1,(.fn 122 (.of 122) []))] fun v7=>jO [(.str []),.dh] [(0,1,(.str [98,105,109,97,103,105,99])),(1,1,(.fn 123 (.of 123) []))] fun v8=>jM 2 8 [(.str []),.dh] [(0,2,v1),(2,2,v2),(4,2,v3),(6,2,v4),(8,2,v5),(10,2,v6),(12,2,v7),(14,2,v8)] h nx fun v9 hU nU=>K0 v9 hU nU:=by
 rw [zK F62.tab];kernel_rfl
theorem F117.tab:T.get none (.of 117) tbl=some F117:=by kernel_rfl
theorem F117.go:zQ tbl N C (.of 117) [a0,a1] h nx K0 =
 vk a0 h nx fun v1 h2 n3=>zN 0 v1 fun v4=>zG v4 h2 fun v5=>zN 1 v1 fun v6=>zG v6 h2 fun v7=>C.fn 71 (.of 71) [a1,v5] h2 n3 fun v8 h9 nC=>(zG v6 h9 fun vG=>zT vG v7 ((zN 1 v1 fun vF=>zT vF v6 (C.fn 98 (.of 98) [v8,v7] h9 nC fun vB hC nD=>zh .lss .int vB (I 0) fun vE=>K0 vE hC nD)))):=by
 rw [zK F117.tab];kernel_rfl
theorem uz.ql (X2:IR) (O:yu Prop) (t:T AV):IR.run (uz.g1 X2) C N O K t h nx=IR.run X2 C N (O.blk 0 K) K t h nx:=by kernel_rfl
theorem uz.tab:T.get none (.of 179) tbl=some uz:=by kernel_rfl
theorem uz.go:zQ tbl N C (.of 179) [a0,a1] h nx K0 =
 IR.run uz.b1 C N (fnO uz.res K0) (IR.run uz.b8 C N (fnO uz.res K0) (jq uz.res K0)) (uz.fr a0 a1 (.bool false) .u a0 (I 0) .u .u) h nx:=by
 rw [zK uz.tab];kernel_rfl
theorem uz.L1 (Inv:Nat->AV->T Blk->Pa->Prop) {m:Nat} (hm:m<N) (hi:Inv m i h nx)
  (step:∀ (m:Nat) (z2 z3 z5 z6 z7:AV) (h:T Blk) (nx:Pa) (R:Ks Prop),Inv m z5 h nx->(∀ (m':Nat) (w2 w3 w5 w6 w7:AV) (h':T Blk) (nx':Pa),m'<m->Inv m' w5 h' nx'->R (uz.fr a b w2 w3 e w5 w6 w7) h' nx'=.ok True) ->
   (zh .lss .int z5 e fun v1=>zX v1 (qC C b [z5] h nx fun v2 h3 n4=>qC C b [(I 0)] h3 n4 fun v5 h6 n7=>zh .neq .int v2 v5 fun v8=>zX v8 (K0 (.bool false) h6 n7) (zh .add .int z5 (I 1) fun v9=>R (uz.fr a b z2 z5 e v9 v1 v8) h6 n7)) (K (uz.fr a b z2 z3 e z5 v1 z7) h nx))=.ok True) :
  IR.run uz.b1 C N (fnO uz.res K0) K (uz.fr a b c d e i l o) h nx=.ok True:=by
 rw [uz.b1,uz.ql,uz.b2];refine yK (fun m tm h nx=>∃ z2 z3 z5 z6 z7,tm=(uz.fr a b z2 z3 e z5 z6 z7)/\Inv m z5 h nx) ?_ hm ⟨_,_,_,_,_,rfl,hi⟩;rintro m tm h nx R ⟨z2,z3,z5,z6,z7,rfl,hi⟩ hR;refine Eq.trans ?_ (step m z2 z3 z5 z6 z7 h nx R hi fun m' w2 w3 w5 w6 w7 h' nx' hlt hi'=>hR m' _ h' nx' hlt ⟨_,_,_,_,_,rfl,hi'⟩)
 kernel_rfl
theorem uz.k8:IR.run uz.b8 C N (fnO uz.res K0) K (uz.fr a b c d e i l o) h nx =
 K0 (.bool true) h nx:=by kernel_rfl
theorem F115.tab:T.get none (.of 115) tbl=some F115:=by kernel_rfl
theorem F115.go:zQ tbl N C (.of 115) [a0] h nx K0 =
 vk a0 h nx fun v1 h2 n3=>zN 1 v1 fun v4=>zG v4 h2 fun v5=>C.fn 50 (.of 50) [v5] h2 n3 fun v6 h7 n8=>K0 v6 h7 n8:=by
 rw [zK F115.tab];kernel_rfl
theorem F116.tab:T.get none (.of 116) tbl=some F116:=by kernel_rfl
theorem F116.go:zQ tbl N C (.of 116) [a0] h nx K0 =
 vk a0 h nx fun v1 h2 n3=>zS 2 v1 h2 fun v4=>C.fn 117 (.of 117) [v4,(.str [115,101,109,105,109,97,103,105,99])] h2 n3 fun v5 h6 n7=>K0 v5 h6 n7:=by
 rw [zK F116.tab];kernel_rfl
theorem F118.tab:T.get none (.of 118) tbl=some F118:=by kernel_rfl
theorem F118.go:zQ tbl N C (.of 118) [a0] h nx K0 =
 vk a0 h nx fun v1 h2 n3=>zS 2 v1 h2 fun v4=>C.fn 117 (.of 117) [v4,(.str [109,97,103,105,99])] h2 n3 fun v5 h6 n7=>K0 v5 h6 n7:=by
 rw [zK F118.tab];kernel_rfl
theorem F119.tab:T.get none (.of 119) tbl=some F119:=by kernel_rfl
theorem F119.go:zQ tbl N C (.of 119) [a0] h nx K0 =
 vk a0 h nx fun v1 h2 n3=>zS 2 v1 h2 fun v4=>C.fn 117 (.of 117) [v4,(.str [112,97,110,100,105,97,103,111,110,97,108])] h2 n3 fun v5 h6 n7=>K0 v5 h6 n7:=by
 rw [zK F119.tab];kernel_rfl
theorem F123.tab:T.get none (.of 123) tbl=some F123:=by kernel_rfl
theorem F123.go:zQ tbl N C (.of 123) [a0] h nx K0 =
 vk a0 h nx fun v1 h2 n3=>zS 2 v1 h2 fun v4=>C.fn 117 (.of 117) [v4,(.str [109,97,103,105,99])] h2 n3 fun v5 h6 n7=>sG v5 true (fun k=>zS 2 v1 h6 k) fun v8=>sGW v5 true (fun k=>C.fn 124 (.of 124) [v8,(I 2)] h6 n7 k) h6 n7 fun v9 hU nU=>jE v5 v9 (.bool false) fun vC=>K0 vC hU nU:=by
 rw [zK F123.tab];kernel_rfl
theorem F120.tab:T.get none (.of 120) tbl=some F120:=by kernel_rfl
theorem F120.go:zQ tbl N C (.of 120) [a0] h nx K0 =
 vk a0 h nx fun v1 h2 n3=>zS 2 v1 h2 fun v4=>C.fn 117 (.of 117) [v4,(.str [109,97,103,105,99])] h2 n3 fun v5 h6 n7=>sG v5 true (fun k=>zN 1 v1 k) fun v8=>sG v5 true (fun k=>zG v8 h6 k) fun v9=>sG v5 true (fun k=>sLen v9 k) fun vA=>sG v5 true (fun k=>k (.fn 180 (.of 180) [v1])) fun vB=>sGW v5 true (fun k=>C.fn 179 (.of 179) [vA,vB] h6 n7 k) h6 n7 fun vC h13 n14=>jE v5 vC (.bool false) fun vF=>K0 vF h13 n14:=by
 rw [zK F120.tab];kernel_rfl
theorem F180.tab:T.get none (.of 180) tbl=some F180:=by kernel_rfl
theorem F180.go:zQ tbl N C (.of 180) [a0,a1] h nx K0 =
 zN 1 a1 fun v1=>zG v1 h fun v2=>zV 1 v2 a0 fun v3=>zG v3 h fun v4=>zN 1 a1 fun v5=>zG v5 h fun v6=>zN 1 a1 fun v7=>zG v7 h fun v8=>sLen v8 fun v9=>zh .sub .int v9 (I 1) fun vA=>zh .sub .int vA a0 fun vB=>zV 1 v6 vB fun vC=>zG vC h fun vD=>zh .add .int v4 vD fun vE=>K0 vE h nx:=by
 rw [zK F180.tab];kernel_rfl
theorem aS.tab:T.get none (.of 121) tbl=some aS:=by kernel_rfl
theorem aS.go:zQ tbl N C (.of 121) [a0] h nx K0 =
 vk a0 h nx fun v1 h2 n3=>zN 0 v1 fun v4=>zG v4 h2 fun v5=>zh .rem .int v5 (I 2) fun v6=>zh .eql .int v6 (I 1) fun v7=>sG v7 false (fun k=>zS 2 v1 h2 k) fun v8=>sGW v7 false (fun k=>C.fn 117 (.of 117) [v8,(.str [112,97,110,100,105,97,103,111,110,97,108])] h2 n3 k) h2 n3 fun v9 hU nU=>sG v7 false (fun k=>oM v9 k) fun vC=>jE v7 (.bool true) vC fun vD=>zX vD (K0 (.bool false) hU nU) (yT [.dh] hU nU fun vE hA nA=>zY 1 vE (.fn 181 (.of 181) [v1]) hA nA fun vH h18 n19=>zN 1 v1 fun vK=>zG vK h18 fun vL=>sLen vL fun vM=>C.fn 179 (.of 179) [vM,(.fn 182 (.of 182) [v1,vE])] h18 n19 fun vN hF nG=>sG vN true (fun k=>zN 1 v1 k) fun vV=>sG vN true (fun k=>zG vV hF k) fun vU=>sG vN true (fun k=>sLen vU k) fun vS=>sG vN true (fun k=>k (.fn 183 (.of 183) [v1,vE])) fun vR=>sGW vN true (fun k=>C.fn 179 (.of 179) [vS,vR] hF nG k) hF nG fun vQ hO nP=>jE vN vQ (.bool false) fun vZ=>K0 vZ hO nP):=by
 rw [zK aS.tab];kernel_rfl
theorem F181.tab:T.get none (.of 181) tbl=some F181:=by kernel_rfl
theorem F181.go:zQ tbl N C (.of 181) [a0,a1,a2] h nx K0 =
 zN 1 a2 fun v1=>zG v1 h fun v2=>zN 0 a2 fun v3=>zG v3 h fun v4=>zh .rem .int a0 v4 fun v5=>zN 0 a2 fun v6=>zG v6 h fun v7=>zh .mul .int v5 v7 fun v8=>zN 0 a2 fun v9=>zG v9 h fun vA=>zh .rem .int a1 vA fun vB=>zh .add .int v8 vB fun vC=>zV 1 v2 vC fun vD=>zG vD h fun vE=>K0 vE h nx:=by
 rw [zK F181.tab];kernel_rfl
theorem F182.tab:T.get none (.of 182) tbl=some F182:=by kernel_rfl
theorem F182.go:zQ tbl N C (.of 182) [a0,a1,a2] h nx K0 =
 zN 0 a1 fun v1=>zG v1 h fun v2=>zh .quo .int a0 v2 fun v3=>zN 0 a1 fun v4=>zG v4 h fun v5=>zh .rem .int a0 v5 fun v6=>zG a2 h fun v7=>zG a2 h fun v8=>zh .add .int v6 (I 1) fun v9=>zG a2 h fun vA=>zh .add .int v3 (I 1) fun vB=>zG a2 h fun vC=>zh .add .int v3 (I 1) fun vD=>zh .add .int v6 (I 1) fun vE=>qC C v7 [v3,v6] h nx fun vF h16 n17=>(zh .add .int v6 (I 1) fun v47=>zT v47 vE (zT v6 v6 ((zh .add .int v3 (I 1) fun v46=>zT v46 vD (zT v3 v3 ((zG a2 h16 fun v45=>zT v45 vC (zT v6 v6 ((zh .add .int v3 (I 1) fun v44=>zT v44 vB (zT v3 v3 ((zG a2 h16 fun v43=>zT v43 vA ((zh .add .int v6 (I 1) fun v42=>zT v42 v9 (zT v6 v6 (zT v3 v3 ((zG a2 h16 fun v41=>zT v41 v8 (qC C v8 [v3,v9] h16 n17 fun vI hK nL=>(zh .add .int v6 (I 1) fun v40=>zT v40 vE (zT v6 v6 ((zh .add .int v3 (I 1) fun v39=>zT v39 vD (zT v3 v3 ((zG a2 hK fun v38=>zT v38 vC (zT v6 v6 ((zh .add .int v3 (I 1) fun v37=>zT v37 vB (zT v3 v3 ((zG a2 hK fun vW=>zT vW vA (zh .add .int vF vI fun vL=>qC C vA [vB,v6] hK nL fun vM hL nM=>(zh .add .int vF vI fun vX=>zT vX vL ((zh .add .int v6 (I 1) fun vY=>zT vY vE (zT v6 v6 ((zh .add .int v3 (I 1) fun vZ=>zT vZ vD (zT v3 v3 ((zG a2 hL fun v32=>zT v32 vC (zh .add .int vL vM fun v25=>qC C vC [vD,vE] hL nM fun vV hJ nK=>(zh .add .int vL vM fun vP=>zT vP v25 ((zh .add .int vF vI fun vQ=>zT vQ vL (zh .add .int v25 vV fun vR=>K0 vR hJ nK)))))))))))))))))))))))))))))))))))))))))))))))):=by
 rw [zK F182.tab];kernel_rfl
theorem F183.tab:T.get none (.of 183) tbl=some F183:=by kernel_rfl
theorem F183.go:zQ tbl N C (.of 183) [a0,a1,a2] h nx K0 =
 zN 0 a1 fun v1=>zG v1 h fun v2=>zh .quo .int a0 v2 fun v3=>zN 0 a1 fun v4=>zG v4 h fun v5=>zh .rem .int a0 v5 fun v6=>zG a2 h fun v7=>zG a2 h fun v8=>zN 0 a1 fun v9=>zG v9 h fun vA=>zh .quo .int vA (I 2) fun vB=>zh .add .int v3 vB fun vC=>zN 0 a1 fun vD=>zG vD h fun vE=>zh .quo .int vE (I 2) fun vF=>zh .add .int v6 vF fun vG=>qC C v7 [v3,v6] h nx fun vH h18 n19=>(zh .add .int v6 vF fun v32=>zT v32 vG ((zh .quo .int vE (I 2) fun vP=>zT vP vF ((zG vD h18 fun vQ=>zT vQ vE ((zN 0 a1 fun vR=>zT vR vD (zT v6 v6 ((zh .add .int v3 vB fun vS=>zT vS vC ((zh .quo .int vA (I 2) fun vU=>zT vU vB ((zG v9 h18 fun vV=>zT vV vA ((zN 0 a1 fun v25=>zT v25 v9 (zT v3 v3 ((zG a2 h18 fun vO=>zT vO v8 (qC C v8 [vC,vG] h18 n19 fun vK hI nJ=>zh .add .int vH vK fun vN=>K0 vN hI nJ)))))))))))))))))))):=by
 rw [zK F183.tab];kernel_rfl
theorem uf.og (X3:IR) (O:yu Prop) (t:T AV):IR.run (uf.g2 X3) C N O K t h nx=IR.run X3 C N (O.blk 0 K) K t h nx:=by kernel_rfl
theorem uf.tab:T.get none (.of 122) tbl=some uf:=by kernel_rfl
theorem uf.go:zQ tbl N C (.of 122) [a0] h nx K0 =
 vk a0 h nx fun v1 h2 n3=>zN 0 v1 fun v4=>zG v4 h2 fun v5=>zh .lss .int v5 (I 5) fun v6=>zX v6 (K0 (.bool false) h2 n3) (IR.run uf.b2 C N (fnO uf.res K0) (IR.run uf.b9 C N (fnO uf.res K0) (jq uf.res K0)) (uf.fr a0 v1 (.bool false) v6 .u .u) h2 n3):=by
 rw [zK uf.tab];kernel_rfl
theorem uf.L2 (Inv:Nat->T Blk->Pa->Prop) {m:Nat} (hm:m<N) (hi:Inv m  h nx)
  (step:∀ (m:Nat) (z2 z4 z5:AV) (h:T Blk) (nx:Pa) (R:Ks Prop),Inv m  h nx->(∀ (m':Nat) (w2 w4 w5:AV) (h':T Blk) (nx':Pa),m'<m->Inv m'  h' nx'->R (uf.fr a b w2 d w4 w5) h' nx'=.ok True) ->
   (zN 0 b fun v1=>zG v1 h fun v2=>zh .geq .int v2 (I 3) fun v3=>zX v3 (zS 2 b h fun v4=>C.fn 117 (.of 117) [v4,(.str [109,97,103,105,99])] h nx fun v5 h6 n7=>oM v5 fun v8=>zX v8 (K0 (.bool false) h6 n7) (zS 2 b h6 fun v9=>C.fn 184 (.of 184) [v9] h6 n7 fun vA hB nB=>zY 2 b vA hB nB fun vD hH nI=>R (uf.fr a b z2 d v3 v8) hH nI)) (K (uf.fr a b z2 d v3 z5) h nx))=.ok True) :
  IR.run uf.b2 C N (fnO uf.res K0) K (uf.fr a b c d e i) h nx=.ok True:=by
 rw [uf.b2,uf.og,uf.b3];refine yK (fun m tm h nx=>∃ z2 z4 z5,tm=(uf.fr a b z2 d z4 z5)/\Inv m  h nx) ?_ hm ⟨_,_,_,rfl,hi⟩;rintro m tm h nx R ⟨z2,z4,z5,rfl,hi⟩ hR;refine Eq.trans ?_ (step m z2 z4 z5 h nx R hi fun m' w2 w4 w5 h' nx' hlt hi'=>hR m' _ h' nx' hlt ⟨_,_,_,rfl,hi'⟩)
 kernel_rfl
theorem uf.k9:IR.run uf.b9 C N (fnO uf.res K0) K (uf.fr a b c d e i) h nx =
 K0 (.bool true) h nx:=by kernel_rfl
theorem ku.ql (X2:IR) (O:yu Prop) (t:T AV):IR.run (ku.g1 X2) C N O K t h nx=IR.run X2 C N (O.blk 0 K) K t h nx:=by kernel_rfl
theorem ku.tab:T.get none (.of 184) tbl=some ku:=by kernel_rfl
theorem ku.go:zQ tbl N C (.of 184) [a0] h nx K0 =
 vk a0 h nx fun v1 h2 n3=>yT [(I 0),.zf] h2 n3 fun v4 h5 n6=>zN 0 v1 fun v7=>zG v7 h5 fun v8=>zh .sub .int v8 (I 2) fun v9=>jO [(I 0),.zf] [(0,1,v9)] fun vA=>yT [(I 0),.zf] h5 n6 fun vB hC nD=>zY 2 vB vA hC nD fun vE hA nA=>IR.run ku.b1 C N (fnO ku.res K0) (IR.run ku.b8 C N (fnO ku.res K0) (jq ku.res K0)) (ku.fr a0 v1 v4 vB (I 1) .u) hA nA:=by
 rw [zK ku.tab];kernel_rfl
theorem ku.L1 (Inv:Nat->AV->T Blk->Pa->Prop) {m:Nat} (hm:m<N) (hi:Inv m e h nx)
  (step:∀ (m:Nat) (z4 z5:AV) (h:T Blk) (nx:Pa) (R:Ks Prop),Inv m z4 h nx->(∀ (m':Nat) (w4 w5:AV) (h':T Blk) (nx':Pa),m'<m->Inv m' w4 h' nx'->R (ku.fr a b c d w4 w5) h' nx'=.ok True) ->
   (zh .add .int z4 (I 1) fun v1=>zN 0 b fun v2=>zG v2 h fun v3=>zh .lss .int v1 v3 fun v4=>zX v4 (zN 1 d fun v5=>zG v5 h fun v6=>zN 1 b fun v7=>zG v7 h fun v8=>zN 0 b fun v9=>zG v9 h fun vA=>zh .mul .int z4 vA fun vB=>zh .add .int vB (I 1) fun vC=>zN 0 b fun vD=>zG vD h fun vE=>zh .mul .int z4 vE fun vF=>zN 0 b fun vG=>zG vG h fun vH=>zh .add .int vF vH fun vI=>zh .sub .int vI (I 1) fun vJ=>zN 0 b fun vK=>zG vK h fun vL=>zh .mul .int z4 vL fun vM=>zN 0 b fun vN=>zG vN h fun vO=>zh .add .int vM vO fun v25=>zh .sub .int v25 (I 1) fun vV=>qR 1 v8 (some vC) (some vJ) (some vV) fun vU=>tu 1 8 v6 vU h nx fun vS hV nV=>zN 1 d fun vP=>zY 1 vP vS hV nV fun v32 hW nW=>zh .add .int z4 (I 1) fun vX=>R (ku.fr a b c d vX v4) hW nW) (K (ku.fr a b c d z4 v4) h nx))=.ok True) :
  IR.run ku.b1 C N (fnO ku.res K0) K (ku.fr a b c d e i) h nx=.ok True:=by
 rw [ku.b1,ku.ql,ku.b2];refine yK (fun m tm h nx=>∃ z4 z5,tm=(ku.fr a b c d z4 z5)/\Inv m z4 h nx) ?_ hm ⟨_,_,rfl,hi⟩;rintro m tm h nx R ⟨z4,z5,rfl,hi⟩ hR;refine Eq.trans ?_ (step m z4 z5 h nx R hi fun m' w4 w5 h' nx' hlt hi'=>hR m' _ h' nx' hlt ⟨_,_,rfl,hi'⟩)
 kernel_rfl
theorem ku.k8:IR.run ku.b8 C N (fnO ku.res K0) K (ku.fr a b c d e i) h nx =
 zS 2 d h fun v1=>zY 2 c v1 h nx fun v2 h3 n4=>zS 2 c h3 fun v5=>K0 v5 h3 n4:=by kernel_rfl
theorem F20.og (X3:IR) (O:yu Prop) (t:T AV):IR.run (F20.g2 X3) C N O K t h nx=IR.run X3 C N (O.blk 0 K) K t h nx:=by kernel_rfl
theorem F20.tab:T.get none (.of 20) tbl=some F20:=by kernel_rfl
theorem F20.go:zQ tbl N C (.of 20) [a0] h nx K0 =
 vk a0 h nx fun v1 h2 n3=>zS 3 v1 h2 fun v4=>C.fn 61 (.of 61) [v4] h2 n3 fun v5 h6 n7=>zh .neq .int v5 (I 0) fun v8=>zX v8 (K0 (.tup [.zf,v5]) h6 n7) (C.fn 62 (.of 62) [] h6 n7 fun v9 hU nU=>sLen v9 fun vC=>IR.run F20.b2 C N (fnO F20.res K0) (IR.run F20.b9 C N (fnO F20.res K0) (jq F20.res K0)) (F20.fr a0 v1 .zf (I 0) v5 .zf .u v8 v9 vC (I 0) .u .u) hU nU):=by
 rw [zK F20.tab];kernel_rfl
theorem F20.L2 (Inv:Nat->AV->AV->T Blk->Pa->Prop) {m:Nat} (hm:m<N) (hi:Inv m i f h nx)
  (step:∀ (m:Nat) (z5 z6 zA zB zD:AV) (h:T Blk) (nx:Pa) (R:Ks Prop),Inv m z5 zA h nx->(∀ (m':Nat) (w5 w6 wA wB wC:AV) (h':T Blk) (nx':Pa),m'<m->Inv m' w5 wA h' nx'->R (F20.fr a b c d e w5 w6 o q s wA wB wC) h' nx'=.ok True) ->
   (zh .lss .int zA s fun v1=>zX v1 (zV 2 q zA fun v2=>zS 2 v2 h fun v3=>yT [(.str []),.dh] h nx fun v4 h5 n6=>zY 2 v4 v3 h5 n6 fun v7 h8 n9=>zN 1 v4 fun vA=>zG vA h8 fun vB=>zN 0 b fun vC=>zG vC h8 fun vD=>zN 2 b fun vE=>zG vE h8 fun vF=>C.fn 48 (.of 48) [vF] h8 n9 fun vG hG nH=>(zG vC hG fun vW=>zT vW vD ((zN 0 b fun vX=>zT vX vC ((zG vA hG fun vY=>zT vY vB ((zN 1 v4 fun vZ=>zT vZ vA (jO [(I 0),.zf] [(0,1,vD),(1,1,vG)] fun vJ=>qC C vB [vJ] hG nH fun vK hI nJ=>zX vK (zN 0 v4 fun vN=>zG vN hI fun vO=>jM 1 1 [(.str [])] [(0,1,vO)] hI nJ fun v25 hM nN=>tu 1 16 z5 v25 hM nN fun vS hV nV=>zh .add .int zA (I 1) fun vP=>R (F20.fr a b c d e vS v4 o q s vP v1 vK) hV nV) (zh .add .int zA (I 1) fun v32=>R (F20.fr a b c d e z5 v4 o q s v32 v1 vK) hI nJ)))))))))) (K (F20.fr a b c d e z5 z6 o q s zA v1 zD) h nx))=.ok True) :
  IR.run F20.b2 C N (fnO F20.res K0) K (F20.fr a b c d e i l o q s f p u) h nx=.ok True:=by
 rw [F20.b2,F20.og,F20.b3];refine yK (fun m tm h nx=>∃ z5 z6 zA zB zD,tm=(F20.fr a b c d e z5 z6 o q s zA zB zD)/\Inv m z5 zA h nx) ?_ hm ⟨_,_,_,_,_,rfl,hi⟩;rintro m tm h nx R ⟨z5,z6,zA,zB,zD,rfl,hi⟩ hR;refine Eq.trans ?_ (step m z5 z6 zA zB zD h nx R hi fun m' w5 w6 wA wB wC h' nx' hlt hi'=>hR m' _ h' nx' hlt ⟨_,_,_,_,_,rfl,hi'⟩)
 kernel_rfl
theorem F20.k9:IR.run F20.b9 C N (fnO F20.res K0) K (F20.fr a b c d e i l o q s f p u) h nx =
 K0 (.tup [i,(I 0)]) h nx:=by kernel_rfl
end Go.Ev
namespace Go.Ev
open Go Go.Proofs
set_option maxRecDepth 100000
section
variable {N:Nat} {C:Calls Prop} {K0:Kw Prop} {K:Ks Prop} {h:T Blk} {nx:Pa} {a b c d e a0:AV}
def F16.t0:IR:=.reg [.w (.loc (.of 1)) none (.box (.t (.of 0))),.q (.of 2) (.mv (.c (I 0)))]
def F16.eG:List RO:=.p .push (some ((.s 13),false)) (.pick (.s 9) (.s 0) (.c (.bool false)))::.s (.pick (.s 14) (.c (.bool true)) (.s 0))::.s (.mv (.s 0))::.p .push (some ((.s 0),false)) (.zk 0 (.t (.of 1)))::.p .push (some ((.s 1),false)) (.load (.s 0))::.p .push (some ((.s 2),false)) (.bin .gtr .int (.s 0) (.c (I 1000)))::.q (.of 3) (.pick (.s 3) (.c (.bool true)) (.s 0))::[]
def F16.tZ:List RO:=.p .push (some ((.s 1),true)) (.load (.s 0))::.p .push (some ((.s 2),true)) (.len (.s 0))::.p .push (some ((.s 3),true)) (.zk 0 (.t (.of 1)))::.p .push (some ((.s 4),true)) (.load (.s 0))::.p .push (some ((.s 5),true)) (.zk 0 (.t (.of 1)))::.p .push (some ((.s 6),true)) (.load (.s 0))::.p .push (some ((.s 7),true)) (.bin .mul .int (.s 2) (.s 0))::.p .push (some ((.s 8),true)) (.bin .neq .int (.s 5) (.s 0))::F16.eG
def F16.aI:List RO:=.p .push (some ((.s 2),false)) (.bin .lss .int (.s 0) (.c (I 0)))::.s (.pick (.s 3) (.c (.bool true)) (.s 0))::.s (.mv (.s 0))::.p .push (some ((.s 0),false)) (.zk 0 (.t (.of 1)))::.p .push (some ((.s 1),false)) (.load (.s 0))::.p .push (some ((.s 2),false)) (.bin .leq .int (.s 0) (.c (I 1000)))::.p .push (some ((.s 3),false)) (.mv (.s 0))::.p .push (some ((.s 0),true)) (.zk 2 (.t (.of 1)))::F16.tZ
def F16.r1_0:List RO:=.s (.zk 0 (.t (.of 1)))::.s (.load (.s 0))::.s (.zk 1 (.t (.of 1)))::.s (.load (.s 0))::.s (.bin .neq .int (.s 2) (.s 0))::.s (.mv (.s 0))::.p .push (some ((.s 0),false)) (.zk 0 (.t (.of 1)))::.p .push (some ((.s 1),false)) (.load (.s 0))::F16.aI
def F16.t1:IR:=.reg F16.r1_0
def F16.t2:IR:=.reg [.q (.of 2) (.mv (.c (I 2)))]
def F16.t3:IR:=.seq F16.t2 .ret
def F16.t4:IR:=.cond (.t (.of 3)) F16.t3 .skip
def F16.t5:IR:=.seq F16.t1 F16.t4
def F16.t6:IR:=.reg [.s (.zk 0 (.t (.of 1))),.s (.load (.s 0)),.s (.bin .lss .int (.s 0) (.c (I 1))),.s (.mv (.s 0)),.p .push (some ((.s 0),false)) (.zk 0 (.t (.of 1))),.p .push (some ((.s 1),false)) (.load (.s 0)),.p .push (some ((.s 2),false)) (.bin .gtr .int (.s 0) (.c (I 16))),.q (.of 4) (.pick (.s 3) (.c (.bool true)) (.s 0))]
def F16.t7:IR:=.reg [.q (.of 2) (.mv (.c (I 3)))]
def F16.t8:IR:=.seq F16.t7 .ret
def F16.t9:IR:=.cond (.t (.of 4)) F16.t8 .skip
def F16.t10:IR:=.seq F16.t6 F16.t9
def F16.t11:IR:=.reg [.s (.zk 2 (.t (.of 1))),.s (.load (.s 0)),.w .push none (.call (.c (.fn 53 (.of 53) [])) [(.s 0)]),.q (.of 2) (.mv (.s 0))]
def F16.t12:IR:=.seq F16.t11 .ret
def F16.t13:IR:=.seq F16.t10 F16.t12
def F16.t14:IR:=.seq F16.t5 F16.t13
def F16.t15:IR:=.seq F16.t0 F16.t14
theorem F16.rM {O:yu Prop}:IR.run F16.t0 C N O K (F16.fr a b c d e) h nx =
 vk a h nx fun v1 h2 n3=>K (F16.fr a v1 (I 0) d e) h2 n3:=by kernel_rfl
theorem F16.rP {O:yu Prop} {tm:T AV}:IR.run F16.t1 C N O K tm h nx=yR F16.r1_0 C ⟨tm,[]⟩ h nx (fun tm h nx=>K tm.v h nx):=qL ..
theorem F16.zaa {r:List RO} {Kt:KTm}:yR (.s (.zk 0 (.t (.of 1)))::.s (.load (.s 0))::.s (.zk 1 (.t (.of 1)))::.s (.load (.s 0))::.s (.bin .neq .int (.s 2) (.s 0))::.s (.mv (.s 0))::.p .push (some ((.s 0),false)) (.zk 0 (.t (.of 1)))::.p .push (some ((.s 1),false)) (.load (.s 0))::r) C ⟨(F16.fr a b c d e),[]⟩ h nx Kt =
 zN 0 b fun v1=>zG v1 h fun v2=>zN 1 b fun v3=>zG v3 h fun v4=>zh .neq .int v2 v4 fun v5=>sG v5 false (fun k=>zN 0 b k) fun v6=>sG v5 false (fun k=>zG v6 h k) fun v7=>yR r C ⟨(F16.fr a b c d e),v7::v6::v5::v5::v4::v3::v2::v1::[]⟩ h nx Kt:=by kernel_rfl
theorem F16.rQ {s0 s1 s2 s3 s4 s5 s6 s7:AV} {r:List RO} {Kt:KTm}:yR (.p .push (some ((.s 2),false)) (.bin .lss .int (.s 0) (.c (I 0)))::.s (.pick (.s 3) (.c (.bool true)) (.s 0))::.s (.mv (.s 0))::.p .push (some ((.s 0),false)) (.zk 0 (.t (.of 1)))::.p .push (some ((.s 1),false)) (.load (.s 0))::.p .push (some ((.s 2),false)) (.bin .leq .int (.s 0) (.c (I 1000)))::.p .push (some ((.s 3),false)) (.mv (.s 0))::.p .push (some ((.s 0),true)) (.zk 2 (.t (.of 1)))::r) C ⟨(F16.fr a b c d e),s0::s1::s2::s3::s4::s5::s6::s7::[]⟩ h nx Kt =
 sG s2 false (fun k=>zh .lss .int s0 (I 0) k) fun v1=>jE s2 (.bool true) v1 fun v2=>sG v2 false (fun k=>zN 0 b k) fun v3=>sG v2 false (fun k=>zG v3 h k) fun v4=>sG v2 false (fun k=>zh .leq .int v4 (I 1000) k) fun v5=>sG v2 false (fun k=>k v5) fun v6=>sG v6 true (fun k=>zN 2 b k) fun v7=>yR r C ⟨(F16.fr a b c d e),v7::v6::v5::v4::v3::v2::v2::v1::s0::s1::s2::s3::s4::s5::s6::s7::[]⟩ h nx Kt:=by kernel_rfl
theorem F16.fJ {s0 s1 s2 s3 s4 s5 s6 s7 s8 s9 s10 s11 s12 s13 s14 s15:AV} {r:List RO} {Kt:KTm}:yR (.p .push (some ((.s 1),true)) (.load (.s 0))::.p .push (some ((.s 2),true)) (.len (.s 0))::.p .push (some ((.s 3),true)) (.zk 0 (.t (.of 1)))::.p .push (some ((.s 4),true)) (.load (.s 0))::.p .push (some ((.s 5),true)) (.zk 0 (.t (.of 1)))::.p .push (some ((.s 6),true)) (.load (.s 0))::.p .push (some ((.s 7),true)) (.bin .mul .int (.s 2) (.s 0))::.p .push (some ((.s 8),true)) (.bin .neq .int (.s 5) (.s 0))::r) C ⟨(F16.fr a b c d e),s0::s1::s2::s3::s4::s5::s6::s7::s8::s9::s10::s11::s12::s13::s14::s15::[]⟩ h nx Kt =
 sG s1 true (fun k=>zG s0 h k) fun v1=>sG s1 true (fun k=>sLen v1 k) fun v2=>sG s1 true (fun k=>zN 0 b k) fun v3=>sG s1 true (fun k=>zG v3 h k) fun v4=>sG s1 true (fun k=>zN 0 b k) fun v5=>sG s1 true (fun k=>zG v5 h k) fun v6=>sG s1 true (fun k=>zh .mul .int v4 v6 k) fun v7=>sG s1 true (fun k=>zh .neq .int v2 v7 k) fun v8=>yR r C ⟨(F16.fr a b c d e),v8::v7::v6::v5::v4::v3::v2::v1::s0::s1::s2::s3::s4::s5::s6::s7::s8::s9::s10::s11::s12::s13::s14::s15::[]⟩ h nx Kt:=by kernel_rfl
theorem F16.rY {s0 s1 s2 s3 s4 s5 s6 s7 s8 s9 s10 s11 s12 s13 s14 s15 s16 s17 s18 s19 s20 s21 s22 s23:AV} {Kt:KTm}:yR (.p .push (some ((.s 13),false)) (.pick (.s 9) (.s 0) (.c (.bool false)))::.s (.pick (.s 14) (.c (.bool true)) (.s 0))::.s (.mv (.s 0))::.p .push (some ((.s 0),false)) (.zk 0 (.t (.of 1)))::.p .push (some ((.s 1),false)) (.load (.s 0))::.p .push (some ((.s 2),false)) (.bin .gtr .int (.s 0) (.c (I 1000)))::.q (.of 3) (.pick (.s 3) (.c (.bool true)) (.s 0))::[]) C ⟨(F16.fr a b c d e),s0::s1::s2::s3::s4::s5::s6::s7::s8::s9::s10::s11::s12::s13::s14::s15::s16::s17::s18::s19::s20::s21::s22::s23::[]⟩ h nx Kt =
 sG s13 false (fun k=>jE s9 s0 (.bool false) k) fun v1=>jE s13 (.bool true) v1 fun v2=>sG v2 false (fun k=>zN 0 b k) fun v3=>sG v2 false (fun k=>zG v3 h k) fun v4=>sG v2 false (fun k=>zh .gtr .int v4 (I 1000) k) fun v5=>jE v2 (.bool true) v5 fun v6=>Kt ⟨(F16.fr a b c v6 e),v5::v4::v3::v2::v2::v1::s0::s1::s2::s3::s4::s5::s6::s7::s8::s9::s10::s11::s12::s13::s14::s15::s16::s17::s18::s19::s20::s21::s22::s23::[]⟩ h nx:=by kernel_rfl
theorem F16.rF {O:yu Prop}:IR.run F16.t2 C N O K (F16.fr a b c d e) h nx =
 K (F16.fr a b (I 2) d e) h nx:=by kernel_rfl
theorem F16.aF {O:yu Prop} {tm:T AV}:IR.run F16.t3 C N O K tm h nx=IR.run F16.t2 C N O (IR.run .ret C N O K) tm h nx:=zC ..
theorem F16.t4_s {O:yu Prop}:IR.run F16.t4 C N O K (F16.fr a b c d e) h nx=zX d (IR.run F16.t3 C N O K (F16.fr a b c d e) h nx) (IR.run .skip C N O K (F16.fr a b c d e) h nx):=by
 have g:∀ A B:IR,IR.run (.cond (.t (.of 3)) A B) C N O K (F16.fr a b c d e) h nx=zX d (IR.run A C N O K (F16.fr a b c d e) h nx) (IR.run B C N O K (F16.fr a b c d e) h nx):=fun A B=>by kernel_rfl
 exact g _ _
theorem F16.t5_s {O:yu Prop} {tm:T AV}:IR.run F16.t5 C N O K tm h nx=IR.run F16.t1 C N O (IR.run F16.t4 C N O K) tm h nx:=zC ..
theorem F16.aJ {O:yu Prop}:IR.run F16.t6 C N O K (F16.fr a b c d e) h nx =
 zN 0 b fun v1=>zG v1 h fun v2=>zh .lss .int v2 (I 1) fun v3=>sG v3 false (fun k=>zN 0 b k) fun v4=>sG v3 false (fun k=>zG v4 h k) fun v5=>sG v3 false (fun k=>zh .gtr .int v5 (I 16) k) fun v6=>jE v3 (.bool true) v6 fun v7=>K (F16.fr a b c d v7) h nx:=by kernel_rfl
theorem F16.t7_s {O:yu Prop}:IR.run F16.t7 C N O K (F16.fr a b c d e) h nx =
 K (F16.fr a b (I 3) d e) h nx:=by kernel_rfl
theorem F16.t8_s {O:yu Prop} {tm:T AV}:IR.run F16.t8 C N O K tm h nx=IR.run F16.t7 C N O (IR.run .ret C N O K) tm h nx:=zC ..
theorem F16.t9_s {O:yu Prop}:IR.run F16.t9 C N O K (F16.fr a b c d e) h nx=zX e (IR.run F16.t8 C N O K (F16.fr a b c d e) h nx) (IR.run .skip C N O K (F16.fr a b c d e) h nx):=by
 have g:∀ A B:IR,IR.run (.cond (.t (.of 4)) A B) C N O K (F16.fr a b c d e) h nx=zX e (IR.run A C N O K (F16.fr a b c d e) h nx) (IR.run B C N O K (F16.fr a b c d e) h nx):=fun A B=>by kernel_rfl
 exact g _ _
theorem F16.aZ {O:yu Prop} {tm:T AV}:IR.run F16.t10 C N O K tm h nx=IR.run F16.t6 C N O (IR.run F16.t9 C N O K) tm h nx:=zC ..
theorem F16.zau {O:yu Prop}:IR.run F16.t11 C N O K (F16.fr a b c d e) h nx =
 zN 2 b fun v1=>zG v1 h fun v2=>C.fn 53 (.of 53) [v2] h nx fun v3 h4 n5=>K (F16.fr a b v3 d e) h4 n5:=by kernel_rfl
theorem F16.ze6 {O:yu Prop} {tm:T AV}:IR.run F16.t12 C N O K tm h nx=IR.run F16.t11 C N O (IR.run .ret C N O K) tm h nx:=zC ..
theorem F16.zm4 {O:yu Prop} {tm:T AV}:IR.run F16.t13 C N O K tm h nx=IR.run F16.t10 C N O (IR.run F16.t12 C N O K) tm h nx:=zC ..
theorem F16.zcv {O:yu Prop} {tm:T AV}:IR.run F16.t14 C N O K tm h nx=IR.run F16.t5 C N O (IR.run F16.t13 C N O K) tm h nx:=zC ..
theorem F16.ze7 {O:yu Prop} {tm:T AV}:IR.run F16.t15 C N O K tm h nx=IR.run F16.t0 C N O (IR.run F16.t14 C N O K) tm h nx:=zC ..
theorem F16.tab:T.get none (.of 16) tbl=some F16:=by kernel_rfl
theorem F16.bind (k:T AV->OP):yP F16.params [a0] F16.init k=k (F16.fr a0 .u .u .u .u):=by kernel_rfl
theorem F16.jo:F16.body=F16.t15:=by kernel_rfl
theorem F16.go:zQ tbl N C (.of 16) [a0] h nx K0=IR.run F16.t15 C N (fnO F16.res K0) (jq F16.res K0) (F16.fr a0 .u .u .u .u) h nx:=by
 rw [zK F16.tab,F16.bind,F16.jo];kernel_rfl
theorem F16.ret:jq F16.res K0 (F16.fr a b c d e) h nx=K0 c h nx:=by kernel_rfl
end
end Go.Ev
namespace Go.Ev
open Go Go.Proofs
set_option maxRecDepth 100000
section
variable {N:Nat} {C:Calls Prop} {K0:Kw Prop} {K:Ks Prop} {h:T Blk} {nx:Pa} {a b c d a0:AV}
def F61.t0:IR:=.reg [.w (.loc (.of 1)) none (.box (.t (.of 0))),.q (.of 2) (.mv (.c (I 0)))]
def F61.eG:List RO:=.p .push (some ((.s 8),false)) (.bin .neq .int (.s 5) (.s 0))::.q (.of 3) (.pick (.s 9) (.c (.bool true)) (.s 0))::[]
def F61.tZ:List RO:=.p .push (some ((.s 0),false)) (.zk 2 (.t (.of 1)))::.p .push (some ((.s 1),false)) (.load (.s 0))::.p .push (some ((.s 2),false)) (.len (.s 0))::.p .push (some ((.s 3),false)) (.zk 0 (.t (.of 1)))::.p .push (some ((.s 4),false)) (.load (.s 0))::.p .push (some ((.s 5),false)) (.zk 1 (.t (.of 1)))::.p .push (some ((.s 6),false)) (.load (.s 0))::.p .push (some ((.s 7),false)) (.bin .mul .int (.s 2) (.s 0))::F61.eG
def F61.aI:List RO:=.p .push (some ((.s 2),false)) (.bin .lss .int (.s 0) (.c (I 0)))::.s (.pick (.s 3) (.c (.bool true)) (.s 0))::.s (.mv (.s 0))::.p .push (some ((.s 0),false)) (.zk 0 (.t (.of 1)))::.p .push (some ((.s 1),false)) (.load (.s 0))::.p .push (some ((.s 2),false)) (.bin .gtr .int (.s 0) (.c (I 1048576)))::.s (.pick (.s 3) (.c (.bool true)) (.s 0))::.s (.mv (.s 0))::F61.tZ
def F61.r1_0:List RO:=.s (.zk 0 (.t (.of 1)))::.s (.load (.s 0))::.s (.zk 1 (.t (.of 1)))::.s (.load (.s 0))::.s (.bin .neq .int (.s 2) (.s 0))::.s (.mv (.s 0))::.p .push (some ((.s 0),false)) (.zk 0 (.t (.of 1)))::.p .push (some ((.s 1),false)) (.load (.s 0))::F61.aI
def F61.t1:IR:=.reg F61.r1_0
def F61.t2:IR:=.reg [.q (.of 2) (.mv (.c (I 2)))]
def F61.t3:IR:=.seq F61.t2 .ret
def F61.t4:IR:=.cond (.t (.of 3)) F61.t3 .skip
def F61.t5:IR:=.seq F61.t1 F61.t4
def F61.t6:IR:=.yh [] [(.s (.zk 0 (.t (.of 1))),0,[]),(.s (.load (.s 0)),0,[]),(.s (.zk 2 (.t (.of 1))),2,[]),(.s (.load (.s 0)),2,[]),(.w .push none (.yj 1 1 [(I 0)] [(0,1,(.s 2))]),0,[]),(.w .push none (.call (.c (.fn 70 (.of 70) [])) [(.c (I 1)),(.c (I 16)),(.s 0)]),0,[]),(.w .push none (.call (.c (.fn 109 (.of 109) [])) [(.s 2)]),0,[]),(.w .push none (.yj 1 2 [(I 0)] [(0,1,(.s 1)),(1,1,(.s 0))]),0,[]),(.w .push none (.call (.c (.fn 42 (.of 42) [])) [(.s 0)]),0,[]),(.q (.of 2) (.mv (.s 0)),0,[])]
def F61.t7:IR:=.seq F61.t6 .ret
def F61.t8:IR:=.seq F61.t5 F61.t7
def F61.t9:IR:=.seq F61.t0 F61.t8
theorem F61.rM {O:yu Prop}:IR.run F61.t0 C N O K (F61.fr a b c d) h nx =
 vk a h nx fun v1 h2 n3=>K (F61.fr a v1 (I 0) d) h2 n3:=by kernel_rfl
theorem F61.rP {O:yu Prop} {tm:T AV}:IR.run F61.t1 C N O K tm h nx=yR F61.r1_0 C ⟨tm,[]⟩ h nx (fun tm h nx=>K tm.v h nx):=qL ..
theorem F61.zaa {r:List RO} {Kt:KTm}:yR (.s (.zk 0 (.t (.of 1)))::.s (.load (.s 0))::.s (.zk 1 (.t (.of 1)))::.s (.load (.s 0))::.s (.bin .neq .int (.s 2) (.s 0))::.s (.mv (.s 0))::.p .push (some ((.s 0),false)) (.zk 0 (.t (.of 1)))::.p .push (some ((.s 1),false)) (.load (.s 0))::r) C ⟨(F61.fr a b c d),[]⟩ h nx Kt =
 zN 0 b fun v1=>zG v1 h fun v2=>zN 1 b fun v3=>zG v3 h fun v4=>zh .neq .int v2 v4 fun v5=>sG v5 false (fun k=>zN 0 b k) fun v6=>sG v5 false (fun k=>zG v6 h k) fun v7=>yR r C ⟨(F61.fr a b c d),v7::v6::v5::v5::v4::v3::v2::v1::[]⟩ h nx Kt:=by kernel_rfl
theorem F61.rQ {s0 s1 s2 s3 s4 s5 s6 s7:AV} {r:List RO} {Kt:KTm}:yR (.p .push (some ((.s 2),false)) (.bin .lss .int (.s 0) (.c (I 0)))::.s (.pick (.s 3) (.c (.bool true)) (.s 0))::.s (.mv (.s 0))::.p .push (some ((.s 0),false)) (.zk 0 (.t (.of 1)))::.p .push (some ((.s 1),false)) (.load (.s 0))::.p .push (some ((.s 2),false)) (.bin .gtr .int (.s 0) (.c (I 1048576)))::.s (.pick (.s 3) (.c (.bool true)) (.s 0))::.s (.mv (.s 0))::r) C ⟨(F61.fr a b c d),s0::s1::s2::s3::s4::s5::s6::s7::[]⟩ h nx Kt =
 sG s2 false (fun k=>zh .lss .int s0 (I 0) k) fun v1=>jE s2 (.bool true) v1 fun v2=>sG v2 false (fun k=>zN 0 b k) fun v3=>sG v2 false (fun k=>zG v3 h k) fun v4=>sG v2 false (fun k=>zh .gtr .int v4 (I 1048576) k) fun v5=>jE v2 (.bool true) v5 fun v6=>yR r C ⟨(F61.fr a b c d),v6::v6::v5::v4::v3::v2::v2::v1::s0::s1::s2::s3::s4::s5::s6::s7::[]⟩ h nx Kt:=by kernel_rfl
theorem F61.fJ {s0 s1 s2 s3 s4 s5 s6 s7 s8 s9 s10 s11 s12 s13 s14 s15:AV} {r:List RO} {Kt:KTm}:yR (.p .push (some ((.s 0),false)) (.zk 2 (.t (.of 1)))::.p .push (some ((.s 1),false)) (.load (.s 0))::.p .push (some ((.s 2),false)) (.len (.s 0))::.p .push (some ((.s 3),false)) (.zk 0 (.t (.of 1)))::.p .push (some ((.s 4),false)) (.load (.s 0))::.p .push (some ((.s 5),false)) (.zk 1 (.t (.of 1)))::.p .push (some ((.s 6),false)) (.load (.s 0))::.p .push (some ((.s 7),false)) (.bin .mul .int (.s 2) (.s 0))::r) C ⟨(F61.fr a b c d),s0::s1::s2::s3::s4::s5::s6::s7::s8::s9::s10::s11::s12::s13::s14::s15::[]⟩ h nx Kt =
 sG s0 false (fun k=>zN 2 b k) fun v1=>sG s0 false (fun k=>zG v1 h k) fun v2=>sG s0 false (fun k=>sLen v2 k) fun v3=>sG s0 false (fun k=>zN 0 b k) fun v4=>sG s0 false (fun k=>zG v4 h k) fun v5=>sG s0 false (fun k=>zN 1 b k) fun v6=>sG s0 false (fun k=>zG v6 h k) fun v7=>sG s0 false (fun k=>zh .mul .int v5 v7 k) fun v8=>yR r C ⟨(F61.fr a b c d),v8::v7::v6::v5::v4::v3::v2::v1::s0::s1::s2::s3::s4::s5::s6::s7::s8::s9::s10::s11::s12::s13::s14::s15::[]⟩ h nx Kt:=by kernel_rfl
theorem F61.rY {s0 s1 s2 s3 s4 s5 s6 s7 s8 s9 s10 s11 s12 s13 s14 s15 s16 s17 s18 s19 s20 s21 s22 s23:AV} {Kt:KTm}:yR (.p .push (some ((.s 8),false)) (.bin .neq .int (.s 5) (.s 0))::.q (.of 3) (.pick (.s 9) (.c (.bool true)) (.s 0))::[]) C ⟨(F61.fr a b c d),s0::s1::s2::s3::s4::s5::s6::s7::s8::s9::s10::s11::s12::s13::s14::s15::s16::s17::s18::s19::s20::s21::s22::s23::[]⟩ h nx Kt =
 sG s8 false (fun k=>zh .neq .int s5 s0 k) fun v1=>jE s8 (.bool true) v1 fun v2=>Kt ⟨(F61.fr a b c v2),v1::s0::s1::s2::s3::s4::s5::s6::s7::s8::s9::s10::s11::s12::s13::s14::s15::s16::s17::s18::s19::s20::s21::s22::s23::[]⟩ h nx:=by kernel_rfl
theorem F61.rF {O:yu Prop}:IR.run F61.t2 C N O K (F61.fr a b c d) h nx =
 K (F61.fr a b (I 2) d) h nx:=by kernel_rfl
theorem F61.aF {O:yu Prop} {tm:T AV}:IR.run F61.t3 C N O K tm h nx=IR.run F61.t2 C N O (IR.run .ret C N O K) tm h nx:=zC ..
theorem F61.t4_s {O:yu Prop}:IR.run F61.t4 C N O K (F61.fr a b c d) h nx=zX d (IR.run F61.t3 C N O K (F61.fr a b c d) h nx) (IR.run .skip C N O K (F61.fr a b c d) h nx):=by
 have g:∀ A B:IR,IR.run (.cond (.t (.of 3)) A B) C N O K (F61.fr a b c d) h nx=zX d (IR.run A C N O K (F61.fr a b c d) h nx) (IR.run B C N O K (F61.fr a b c d) h nx):=fun A B=>by kernel_rfl
 exact g _ _
theorem F61.t5_s {O:yu Prop} {tm:T AV}:IR.run F61.t5 C N O K tm h nx=IR.run F61.t1 C N O (IR.run F61.t4 C N O K) tm h nx:=zC ..
theorem F61.aJ {O:yu Prop}:IR.run F61.t6 C N O K (F61.fr a b c d) h nx =
 zN 0 b fun v1=>zG v1 h fun v2=>zN 2 b fun v3=>zG v3 h fun v4=>jM 1 1 [(I 0)] [(0,1,v2)] h nx fun v5 h6 n7=>(zG v3 h6 fun vN=>zT vN v4 ((zN 2 b fun vM=>zT vM v3 (C.fn 70 (.of 70) [(I 1),(I 16),v5] h6 n7 fun v8 h9 nC=>(zG v3 h9 fun vL=>zT vL v4 ((zN 2 b fun vK=>zT vK v3 (C.fn 109 (.of 109) [v4] h9 nC fun vB hC nD=>jM 1 2 [(I 0)] [(0,1,v8),(1,1,vB)] hC nD fun vE hA nA=>C.fn 42 (.of 42) [vE] hA nA fun vH h18 n19=>K (F61.fr a b vH d) h18 n19)))))))):=by kernel_rfl
theorem F61.t7_s {O:yu Prop} {tm:T AV}:IR.run F61.t7 C N O K tm h nx=IR.run F61.t6 C N O (IR.run .ret C N O K) tm h nx:=zC ..
theorem F61.t8_s {O:yu Prop} {tm:T AV}:IR.run F61.t8 C N O K tm h nx=IR.run F61.t5 C N O (IR.run F61.t7 C N O K) tm h nx:=zC ..
theorem F61.t9_s {O:yu Prop} {tm:T AV}:IR.run F61.t9 C N O K tm h nx=IR.run F61.t0 C N O (IR.run F61.t8 C N O K) tm h nx:=zC ..
theorem F61.tab:T.get none (.of 61) tbl=some F61:=by kernel_rfl
theorem F61.bind (k:T AV->OP):yP F61.params [a0] F61.init k=k (F61.fr a0 .u .u .u):=by kernel_rfl
theorem F61.jo:F61.body=F61.t9:=by kernel_rfl
theorem F61.go:zQ tbl N C (.of 61) [a0] h nx K0=IR.run F61.t9 C N (fnO F61.res K0) (jq F61.res K0) (F61.fr a0 .u .u .u) h nx:=by
 rw [zK F61.tab,F61.bind,F61.jo];kernel_rfl
theorem F61.ret:jq F61.res K0 (F61.fr a b c d) h nx=K0 c h nx:=by kernel_rfl
end
end Go.Ev
namespace Go.Ev
open Go Go.Proofs
set_option maxRecDepth 100000
section
variable {N:Nat} {C:Calls Prop} {K0:Kw Prop} {K:Ks Prop} {h:T Blk} {nx:Pa} {a b c d e i l o q s f p a0 a1:AV} {O:yu Prop} {tm:T AV} {Kt:KTm} {r:List RO} {s0 s1 s2 s3 s4 s5 s6 s7 s8 s9 s10 s11 s12 s13 s14 s15 s16 s17 s18 s19 s20 s21 s22 s23 s24 s25 s26 s27 s28 s29 s30 s31 s32 s33 s34 s35 s36 s37 s38 s39 s40 s41 s42 s43 s44 s45 s46 s47 s48 s49 s50 s51 s52 s53 s54 s55 s56 s57 s58 s59:AV}
def F65.t0:IR:=.reg [.w (.loc (.of 2)) none (.box (.t (.of 0))),.q (.of 3) (.mv (.c .zf))]
def F65.t1:IR:=.reg [.s (.mv (.t (.of 1))),.s (.len (.s 0)),.w .push none (.pz 1 8 [(I 0)] (.s 0) (.s 0)),.q (.of 4) (.mv (.s 0))]
def F65.t2:IR:=.reg [.q (.of 7) (.mv (.t (.of 1))),.q (.of 8) (.len (.t (.of 7))),.q (.of 9) (.mv (.c (I 0)))]
def F65.t3:IR:=.reg [.q (.of 10) (.bin .lss .int (.t (.of 9)) (.t (.of 8)))]
def F65.t4:IR:=.cond (.t (.of 10)) .skip (.exit 0)
def F65.t5:IR:=.reg [.s (.mv (.t (.of 9))),.s (.zu 1 (.t (.of 7)) (.t (.of 9))),.s (.load (.s 0)),.q (.of 5) (.mv (.s 2)),.q (.of 6) (.mv (.s 0))]
def F65.t6:IR:=.reg [.s (.zk 1 (.t (.of 2))),.q (.of 11) (.load (.s 0))]
def F65.t7:IR:=.reg [.s (.mv (.t (.of 1))),.s (.len (.s 0)),.s (.bin .add .int (.s 0) (.c (I 1))),.s (.mv (.t (.of 6))),.s (.bin .sub .int (.s 1) (.s 0)),.q (.of 6) (.mv (.s 0))]
def F65.t8:IR:=.cond (.t (.of 11)) F65.t7 .skip
def F65.t9:IR:=.seq F65.t6 F65.t8
def F65.t10:IR:=.reg [.s (.mv (.t (.of 4))),.s (.zk 0 (.t (.of 2))),.s (.load (.s 0)),.s (.mv (.t (.of 5))),.s (.zu 1 (.s 1) (.s 0)),.s (.load (.s 0)),.s (.mv (.t (.of 6))),.s (.zu 1 (.s 6) (.s 1)),.w .none none (.store 1 (.s 0) (.s 1))]
def F65.t11:IR:=.seq F65.t9 F65.t10
def F65.t12:IR:=.seq F65.t5 F65.t11
def F65.t13:IR:=.block 1 F65.t12
def F65.t14:IR:=.reg [.s (.bin .add .int (.t (.of 9)) (.c (I 1))),.q (.of 9) (.mv (.s 0))]
def F65.t15:IR:=.seq F65.t13 F65.t14
def F65.t16:IR:=.seq F65.t4 F65.t15
def F65.t17:IR:=.seq F65.t3 F65.t16
def F65.t18:IR:=.loop F65.t17
def F65.t19:IR:=.block 0 F65.t18
def F65.t20:IR:=.seq F65.t2 F65.t19
def F65.t21:IR:=.reg [.s (.mv (.t (.of 4))),.q (.of 3) (.mv (.s 0))]
def F65.t22:IR:=.seq F65.t21 .ret
def F65.t23:IR:=.seq F65.t20 F65.t22
def F65.t24:IR:=.seq F65.t1 F65.t23
def F65.t25:IR:=.seq F65.t0 F65.t24
theorem F65.rM:IR.run F65.t0 C N O K (F65.fr a b c d e i l o q s f p) h nx =
 vk a h nx fun v1 h2 n3=>K (F65.fr a b v1 .zf e i l o q s f p) h2 n3:=by kernel_rfl
theorem F65.rP:IR.run F65.t1 C N O K (F65.fr a b c d e i l o q s f p) h nx =
 sLen b fun v1=>kQ 1 8 [(I 0)] v1 v1 h nx fun v2 h3 n4=>K (F65.fr a b c d v2 i l o q s f p) h3 n4:=by kernel_rfl
theorem F65.rF:IR.run F65.t2 C N O K (F65.fr a b c d e i l o q s f p) h nx =
 sLen b fun v1=>K (F65.fr a b c d e i l b v1 (I 0) f p) h nx:=by kernel_rfl
theorem F65.aF:IR.run F65.t3 C N O K (F65.fr a b c d e i l o q s f p) h nx =
 zh .lss .int s q fun v1=>K (F65.fr a b c d e i l o q s v1 p) h nx:=by kernel_rfl
theorem F65.v10:Arg.ev (.t (.of 10)) ⟨(F65.fr a b c d e i l o q s f p),[]⟩=f:=by kernel_rfl
theorem F65.t5_s:IR.run F65.t5 C N O K (F65.fr a b c d e i l o q s f p) h nx =
 zV 1 o s fun v1=>zG v1 h fun v2=>K (F65.fr a b c d e s v2 o q s f p) h nx:=by kernel_rfl
theorem F65.aJ:IR.run F65.t6 C N O K (F65.fr a b c d e i l o q s f p) h nx =
 zN 1 c fun v1=>zG v1 h fun v2=>K (F65.fr a b c d e i l o q s f v2) h nx:=by kernel_rfl
theorem F65.t7_s:IR.run F65.t7 C N O K (F65.fr a b c d e i l o q s f p) h nx =
 sLen b fun v1=>zh .add .int v1 (I 1) fun v2=>zh .sub .int v2 l fun v3=>K (F65.fr a b c d e i v3 o q s f p) h nx:=by kernel_rfl
theorem F65.v11:Arg.ev (.t (.of 11)) ⟨(F65.fr a b c d e i l o q s f p),[]⟩=p:=by kernel_rfl
theorem F65.aZ:IR.run F65.t10 C N O K (F65.fr a b c d e i l o q s f p) h nx =
 zN 0 c fun v1=>zG v1 h fun v2=>zV 1 v2 i fun v3=>zG v3 h fun v4=>zV 1 e v4 fun v5=>zY 1 v5 l h nx fun v6 h7 n8=>K (F65.fr a b c d e i l o q s f p) h7 n8:=by kernel_rfl
theorem F65.zcv:IR.run F65.t14 C N O K (F65.fr a b c d e i l o q s f p) h nx =
 zh .add .int s (I 1) fun v1=>K (F65.fr a b c d e i l o q v1 f p) h nx:=by kernel_rfl
theorem F65.zz2 (Inv:Nat->AV->T Blk->Pa->Prop) {m:Nat} (hm:m<N) (hi:Inv m s h nx)
  (step:∀ (m:Nat) (z5 z6 z9 zA zB:AV) (h:T Blk) (nx:Pa) (R:Ks Prop),Inv m z9 h nx->(∀ (m':Nat) (w5 w6 w9 wA wB:AV) (h':T Blk) (nx':Pa),m'<m->Inv m' w9 h' nx'->R (F65.fr a b c d e w5 w6 o q w9 wA wB) h' nx'=.ok True)->IR.run F65.t17 C N O R (F65.fr a b c d e z5 z6 o q z9 zA zB) h nx=.ok True) :
  IR.run F65.t18 C N O K (F65.fr a b c d e i l o q s f p) h nx=.ok True:=by
 rw [F65.t18];refine yK (fun m tm h nx=>∃ z5 z6 z9 zA zB,tm=(F65.fr a b c d e z5 z6 o q z9 zA zB)/\Inv m z9 h nx) ?_ hm ⟨_,_,_,_,_,rfl,hi⟩;rintro m tm h nx R ⟨z5,z6,z9,zA,zB,rfl,hi⟩ hR;exact step m z5 z6 z9 zA zB h nx R hi fun m' w5 w6 w9 wA wB h' nx' hlt hi'=>hR m' _ h' nx' hlt ⟨_,_,_,_,_,rfl,hi'⟩
theorem F65.zm5:IR.run F65.t21 C N O K (F65.fr a b c d e i l o q s f p) h nx =
 K (F65.fr a b c e e i l o q s f p) h nx:=by kernel_rfl
theorem F65.tab:T.get none (.of 65) tbl=some F65:=by kernel_rfl
theorem F65.bind (k:T AV->OP):yP F65.params [a0,a1] F65.init k=k (F65.fr a0 a1 .u .u .u .u .u .u .u .u .u .u):=by kernel_rfl
theorem F65.jo:F65.body=F65.t25:=by kernel_rfl
theorem F65.go:zQ tbl N C (.of 65) [a0,a1] h nx K0=IR.run F65.t25 C N (fnO F65.res K0) (jq F65.res K0) (F65.fr a0 a1 .u .u .u .u .u .u .u .u .u .u) h nx:=by
 rw [zK F65.tab,F65.bind,F65.jo];kernel_rfl
theorem F65.ret:jq F65.res K0 (F65.fr a b c d e i l o q s f p) h nx=K0 d h nx:=by kernel_rfl
end
end Go.Ev
namespace Go.Ev
open Go Go.Proofs
set_option maxRecDepth 100000
section
variable {N:Nat} {C:Calls Prop} {K0:Kw Prop} {K:Ks Prop} {h:T Blk} {nx:Pa} {a b a0:AV} {O:yu Prop} {tm:T AV} {Kt:KTm} {r:List RO} {s0 s1 s2 s3 s4 s5 s6 s7 s8 s9 s10 s11 s12 s13 s14 s15 s16 s17 s18 s19 s20 s21 s22 s23 s24 s25 s26 s27 s28 s29 s30 s31 s32 s33 s34 s35 s36 s37 s38 s39 s40 s41 s42 s43 s44 s45 s46 s47 s48 s49 s50 s51 s52 s53 s54 s55 s56 s57 s58 s59:AV}
def F63.t0:IR:=.reg [.q (.of 1) (.mv (.c (I 0)))]
def F63.t1:IR:=.reg [.s (.mv (.t (.of 0))),.s (.len (.s 0)),.s (.bin .gtr .int (.s 0) (.c (I 256))),.w .push none (.call (.c (.fn 76 (.of 76) [])) [(.s 0),(.c (I 5))]),.s (.mv (.t (.of 0))),.w .push none (.call (.c (.fn 66 (.of 66) [])) [(.s 0),(.c (.fn 67 (.of 67) []))]),.w .push none (.call (.c (.fn 76 (.of 76) [])) [(.s 0),(.c (I 3))]),.w .push none (.yj 1 2 [(I 0)] [(0,1,(.s 3)),(1,1,(.s 0))]),.w .push none (.call (.c (.fn 72 (.of 72) [])) [(.s 0)]),.q (.of 1) (.mv (.s 0))]
def F63.t2:IR:=.seq F63.t1 .ret
def F63.t3:IR:=.seq F63.t0 F63.t2
theorem F63.rM:IR.run F63.t0 C N O K (F63.fr a b) h nx =
 K (F63.fr a (I 0)) h nx:=by kernel_rfl
theorem F63.rP:IR.run F63.t1 C N O K (F63.fr a b) h nx =
 sLen a fun v1=>zh .gtr .int v1 (I 256) fun v2=>C.fn 76 (.of 76) [v2,(I 5)] h nx fun v3 h4 n5=>C.fn 66 (.of 66) [a,(.fn 67 (.of 67) [])] h4 n5 fun v6 h7 n8=>C.fn 76 (.of 76) [v6,(I 3)] h7 n8 fun v9 hU nU=>jM 1 2 [(I 0)] [(0,1,v3),(1,1,v9)] hU nU fun vC h13 n14=>C.fn 72 (.of 72) [vC] h13 n14 fun vF h16 n17=>K (F63.fr a vF) h16 n17:=by kernel_rfl
theorem F63.tab:T.get none (.of 63) tbl=some F63:=by kernel_rfl
theorem F63.bind (k:T AV->OP):yP F63.params [a0] F63.init k=k (F63.fr a0 .u):=by kernel_rfl
theorem F63.jo:F63.body=F63.t3:=by kernel_rfl
theorem F63.go:zQ tbl N C (.of 63) [a0] h nx K0=IR.run F63.t3 C N (fnO F63.res K0) (jq F63.res K0) (F63.fr a0 .u) h nx:=by
 rw [zK F63.tab,F63.bind,F63.jo];kernel_rfl
theorem F63.ret:jq F63.res K0 (F63.fr a b) h nx=K0 b h nx:=by kernel_rfl
end
end Go.Ev
namespace Go.Ev
open Go Go.Proofs
set_option maxRecDepth 100000
section
variable {N:Nat} {C:Calls Prop} {K0:Kw Prop} {K:Ks Prop} {h:T Blk} {nx:Pa} {a b a0:AV} {O:yu Prop} {tm:T AV} {Kt:KTm} {r:List RO} {s0 s1 s2 s3 s4 s5 s6 s7 s8 s9 s10 s11 s12 s13 s14 s15 s16 s17 s18 s19 s20 s21 s22 s23 s24 s25 s26 s27 s28 s29 s30 s31 s32 s33 s34 s35 s36 s37 s38 s39 s40 s41 s42 s43 s44 s45 s46 s47 s48 s49 s50 s51 s52 s53 s54 s55 s56 s57 s58 s59:AV}
def F67.t0:IR:=.reg [.q (.of 1) (.mv (.c (.bool false)))]
def F67.t1:IR:=.reg [.s (.mv (.t (.of 0))),.s (.bin .lss .int (.s 0) (.c (I (-999999999)))),.s (.mv (.s 0)),.p .push (some ((.s 0),false)) (.mv (.t (.of 0))),.p .push (some ((.s 1),false)) (.bin .gtr .int (.s 0) (.c (I 999999999))),.s (.pick (.s 2) (.c (.bool true)) (.s 0)),.q (.of 1) (.mv (.s 0))]
def F67.t2:IR:=.seq F67.t1 .ret
def F67.t3:IR:=.seq F67.t0 F67.t2
theorem F67.rM:IR.run F67.t0 C N O K (F67.fr a b) h nx =
 K (F67.fr a (.bool false)) h nx:=by kernel_rfl
theorem F67.rP:IR.run F67.t1 C N O K (F67.fr a b) h nx =
 zh .lss .int a (I (-999999999)) fun v1=>sG v1 false (fun k=>k a) fun v2=>sG v1 false (fun k=>zh .gtr .int v2 (I 999999999) k) fun v3=>jE v1 (.bool true) v3 fun v4=>K (F67.fr a v4) h nx:=by kernel_rfl
theorem F67.tab:T.get none (.of 67) tbl=some F67:=by kernel_rfl
theorem F67.bind (k:T AV->OP):yP F67.params [a0] F67.init k=k (F67.fr a0 .u):=by kernel_rfl
theorem F67.jo:F67.body=F67.t3:=by kernel_rfl
theorem F67.go:zQ tbl N C (.of 67) [a0] h nx K0=IR.run F67.t3 C N (fnO F67.res K0) (jq F67.res K0) (F67.fr a0 .u) h nx:=by
 rw [zK F67.tab,F67.bind,F67.jo];kernel_rfl
theorem F67.ret:jq F67.res K0 (F67.fr a b) h nx=K0 b h nx:=by kernel_rfl
end
end Go.Ev
namespace Go.Ev
open Go Go.Proofs
set_option maxRecDepth 100000
section
variable {N:Nat} {C:Calls Prop} {K0:Kw Prop} {K:Ks Prop} {h:T Blk} {nx:Pa} {a b c a0:AV} {O:yu Prop} {tm:T AV} {Kt:KTm} {r:List RO} {s0 s1 s2 s3 s4 s5 s6 s7 s8 s9 s10 s11 s12 s13 s14 s15 s16 s17 s18 s19 s20 s21 s22 s23 s24 s25 s26 s27 s28 s29 s30 s31 s32 s33 s34 s35 s36 s37 s38 s39 s40 s41 s42 s43 s44 s45 s46 s47 s48 s49 s50 s51 s52 s53 s54 s55 s56 s57 s58 s59:AV}
def F17.t0:IR:=.reg [.q (.of 1) (.mv (.c (I 0)))]
def F17.t1:IR:=.reg [.s (.mv (.t (.of 0))),.s (.len (.s 0)),.q (.of 2) (.bin .gtr .int (.s 0) (.c (I 256)))]
def F17.t2:IR:=.reg [.q (.of 1) (.mv (.c (I 5)))]
def F17.t3:IR:=.seq F17.t2 .ret
def F17.t4:IR:=.cond (.t (.of 2)) F17.t3 .skip
def F17.t5:IR:=.seq F17.t1 F17.t4
def F17.t6:IR:=.reg [.s (.mv (.t (.of 0))),.w .push none (.call (.c (.fn 54 (.of 54) [])) [(.s 0)]),.q (.of 1) (.mv (.s 0))]
def F17.t7:IR:=.seq F17.t6 .ret
def F17.t8:IR:=.seq F17.t5 F17.t7
def F17.t9:IR:=.seq F17.t0 F17.t8
theorem F17.rM:IR.run F17.t0 C N O K (F17.fr a b c) h nx =
 K (F17.fr a (I 0) c) h nx:=by kernel_rfl
theorem F17.rP:IR.run F17.t1 C N O K (F17.fr a b c) h nx =
 sLen a fun v1=>zh .gtr .int v1 (I 256) fun v2=>K (F17.fr a b v2) h nx:=by kernel_rfl
theorem F17.rF:IR.run F17.t2 C N O K (F17.fr a b c) h nx =
 K (F17.fr a (I 5) c) h nx:=by kernel_rfl
theorem F17.v2:Arg.ev (.t (.of 2)) ⟨(F17.fr a b c),[]⟩=c:=by kernel_rfl
theorem F17.aJ:IR.run F17.t6 C N O K (F17.fr a b c) h nx =
 C.fn 54 (.of 54) [a] h nx fun v1 h2 n3=>K (F17.fr a v1 c) h2 n3:=by kernel_rfl
theorem F17.tab:T.get none (.of 17) tbl=some F17:=by kernel_rfl
theorem F17.bind (k:T AV->OP):yP F17.params [a0] F17.init k=k (F17.fr a0 .u .u):=by kernel_rfl
theorem F17.jo:F17.body=F17.t9:=by kernel_rfl
theorem F17.go:zQ tbl N C (.of 17) [a0] h nx K0=IR.run F17.t9 C N (fnO F17.res K0) (jq F17.res K0) (F17.fr a0 .u .u) h nx:=by
 rw [zK F17.tab,F17.bind,F17.jo];kernel_rfl
theorem F17.ret:jq F17.res K0 (F17.fr a b c) h nx=K0 b h nx:=by kernel_rfl
end
end Go.Ev
namespace Go.Ev
open Go Go.Proofs
set_option maxRecDepth 100000
section
variable {N:Nat} {C:Calls Prop} {K0:Kw Prop} {K:Ks Prop} {h:T Blk} {nx:Pa} {a b c d e a0:AV} {O:yu Prop} {tm:T AV} {Kt:KTm} {r:List RO} {s0 s1 s2 s3 s4 s5 s6 s7 s8 s9 s10 s11 s12 s13 s14 s15 s16 s17 s18 s19 s20 s21 s22 s23 s24 s25 s26 s27 s28 s29 s30 s31 s32 s33 s34 s35 s36 s37 s38 s39 s40 s41 s42 s43 s44 s45 s46 s47 s48 s49 s50 s51 s52 s53 s54 s55 s56 s57 s58 s59:AV}
def F54.t0:IR:=.reg [.q (.of 1) (.mv (.c (I 0)))]
def F54.t1:IR:=.reg [.q (.of 2) (.mv (.c (I 0)))]
def F54.t2:IR:=.reg [.s (.mv (.t (.of 2))),.s (.mv (.t (.of 0))),.s (.len (.s 0)),.q (.of 3) (.bin .lss .int (.s 2) (.s 0))]
def F54.t3:IR:=.cond (.t (.of 3)) .skip (.exit 0)
def F54.t4:IR:=.seq F54.t2 F54.t3
def F54.r3_1:List RO:=.p .push (some ((.s 2),false)) (.zu 1 (.s 1) (.s 0))::.p .push (some ((.s 3),false)) (.load (.s 0))::.p .push (some ((.s 4),false)) (.bin .gtr .int (.s 0) (.c (I 999999999)))::.q (.of 4) (.pick (.s 5) (.c (.bool true)) (.s 0))::[]
def F54.r3_0:List RO:=.s (.mv (.t (.of 0)))::.s (.mv (.t (.of 2)))::.s (.zu 1 (.s 1) (.s 0))::.s (.load (.s 0))::.s (.bin .lss .int (.s 0) (.c (I (-999999999))))::.s (.mv (.s 0))::.p .push (some ((.s 0),false)) (.mv (.t (.of 0)))::.p .push (some ((.s 1),false)) (.mv (.t (.of 2)))::F54.r3_1
def F54.t5:IR:=.reg F54.r3_0
def F54.t6:IR:=.reg [.q (.of 1) (.mv (.c (I 3)))]
def F54.t7:IR:=.seq F54.t6 .ret
def F54.t8:IR:=.cond (.t (.of 4)) F54.t7 .skip
def F54.t9:IR:=.seq F54.t5 F54.t8
def F54.t10:IR:=.block 1 F54.t9
def F54.t11:IR:=.reg [.s (.mv (.t (.of 2))),.s (.bin .add .int (.s 0) (.c (I 1))),.q (.of 2) (.mv (.s 0))]
def F54.t12:IR:=.seq F54.t10 F54.t11
def F54.t13:IR:=.seq F54.t4 F54.t12
def F54.t14:IR:=.loop F54.t13
def F54.t15:IR:=.block 0 F54.t14
def F54.t16:IR:=.seq F54.t1 F54.t15
def F54.t17:IR:=.reg [.q (.of 1) (.mv (.c (I 0)))]
def F54.t18:IR:=.seq F54.t17 .ret
def F54.t19:IR:=.seq F54.t16 F54.t18
def F54.t20:IR:=.seq F54.t0 F54.t19
theorem F54.rM:IR.run F54.t0 C N O K (F54.fr a b c d e) h nx =
 K (F54.fr a (I 0) c d e) h nx:=by kernel_rfl
theorem F54.rP:IR.run F54.t1 C N O K (F54.fr a b c d e) h nx =
 K (F54.fr a b (I 0) d e) h nx:=by kernel_rfl
theorem F54.rF:IR.run F54.t2 C N O K (F54.fr a b c d e) h nx =
 sLen a fun v1=>zh .lss .int c v1 fun v2=>K (F54.fr a b c v2 e) h nx:=by kernel_rfl
theorem F54.v3:Arg.ev (.t (.of 3)) ⟨(F54.fr a b c d e),[]⟩=d:=by kernel_rfl
theorem F54.t5_s:IR.run F54.t5 C N O K tm h nx=yR F54.r3_0 C ⟨tm,[]⟩ h nx (fun tm h nx=>K tm.v h nx):=qL ..
theorem F54.zw9:yR (.s (.mv (.t (.of 0)))::.s (.mv (.t (.of 2)))::.s (.zu 1 (.s 1) (.s 0))::.s (.load (.s 0))::.s (.bin .lss .int (.s 0) (.c (I (-999999999))))::.s (.mv (.s 0))::.p .push (some ((.s 0),false)) (.mv (.t (.of 0)))::.p .push (some ((.s 1),false)) (.mv (.t (.of 2)))::r) C ⟨(F54.fr a b c d e),[]⟩ h nx Kt =
 zV 1 a c fun v1=>zG v1 h fun v2=>zh .lss .int v2 (I (-999999999)) fun v3=>sG v3 false (fun k=>k a) fun v4=>sG v3 false (fun k=>k c) fun v5=>yR r C ⟨(F54.fr a b c d e),v5::v4::v3::v3::v2::v1::c::a::[]⟩ h nx Kt:=by kernel_rfl
theorem F54.zm6:yR (.p .push (some ((.s 2),false)) (.zu 1 (.s 1) (.s 0))::.p .push (some ((.s 3),false)) (.load (.s 0))::.p .push (some ((.s 4),false)) (.bin .gtr .int (.s 0) (.c (I 999999999)))::.q (.of 4) (.pick (.s 5) (.c (.bool true)) (.s 0))::[]) C ⟨(F54.fr a b c d e),s0::s1::s2::s3::s4::s5::s6::s7::[]⟩ h nx Kt =
 sG s2 false (fun k=>zV 1 s1 s0 k) fun v1=>sG s2 false (fun k=>zG v1 h k) fun v2=>sG s2 false (fun k=>zh .gtr .int v2 (I 999999999) k) fun v3=>jE s2 (.bool true) v3 fun v4=>Kt ⟨(F54.fr a b c d v4),v3::v2::v1::s0::s1::s2::s3::s4::s5::s6::s7::[]⟩ h nx:=by kernel_rfl
theorem F54.aJ:IR.run F54.t6 C N O K (F54.fr a b c d e) h nx =
 K (F54.fr a (I 3) c d e) h nx:=by kernel_rfl
theorem F54.v4:Arg.ev (.t (.of 4)) ⟨(F54.fr a b c d e),[]⟩=e:=by kernel_rfl
theorem F54.zau:IR.run F54.t11 C N O K (F54.fr a b c d e) h nx =
 zh .add .int c (I 1) fun v1=>K (F54.fr a b v1 d e) h nx:=by kernel_rfl
theorem F54.zz3 (Inv:Nat->AV->T Blk->Pa->Prop) {m:Nat} (hm:m<N) (hi:Inv m c h nx)
  (step:∀ (m:Nat) (z1 z2 z3 z4:AV) (h:T Blk) (nx:Pa) (R:Ks Prop),Inv m z2 h nx->(∀ (m':Nat) (w1 w2 w3 w4:AV) (h':T Blk) (nx':Pa),m'<m->Inv m' w2 h' nx'->R (F54.fr a w1 w2 w3 w4) h' nx'=.ok True)->IR.run F54.t13 C N O R (F54.fr a z1 z2 z3 z4) h nx=.ok True) :
  IR.run F54.t14 C N O K (F54.fr a b c d e) h nx=.ok True:=by
 rw [F54.t14];refine yK (fun m tm h nx=>∃ z1 z2 z3 z4,tm=(F54.fr a z1 z2 z3 z4)/\Inv m z2 h nx) ?_ hm ⟨_,_,_,_,rfl,hi⟩;rintro m tm h nx R ⟨z1,z2,z3,z4,rfl,hi⟩ hR;exact step m z1 z2 z3 z4 h nx R hi fun m' w1 w2 w3 w4 h' nx' hlt hi'=>hR m' _ h' nx' hlt ⟨_,_,_,_,rfl,hi'⟩
theorem F54.oh:IR.run F54.t17 C N O K (F54.fr a b c d e) h nx =
 K (F54.fr a (I 0) c d e) h nx:=by kernel_rfl
theorem F54.tab:T.get none (.of 54) tbl=some F54:=by kernel_rfl
theorem F54.bind (k:T AV->OP):yP F54.params [a0] F54.init k=k (F54.fr a0 .u .u .u .u):=by kernel_rfl
theorem F54.jo:F54.body=F54.t20:=by kernel_rfl
theorem F54.go:zQ tbl N C (.of 54) [a0] h nx K0=IR.run F54.t20 C N (fnO F54.res K0) (jq F54.res K0) (F54.fr a0 .u .u .u .u) h nx:=by
 rw [zK F54.tab,F54.bind,F54.jo];kernel_rfl
theorem F54.ret:jq F54.res K0 (F54.fr a b c d e) h nx=K0 b h nx:=by kernel_rfl
end
end Go.Ev
namespace Go.Ev
open Go Go.Proofs
set_option maxRecDepth 100000
section
variable {N:Nat} {C:Calls Prop} {K0:Kw Prop} {K:Ks Prop} {h:T Blk} {nx:Pa} {a b c d e i a0 a1:AV} {O:yu Prop} {tm:T AV} {Kt:KTm} {r:List RO} {s0 s1 s2 s3 s4 s5 s6 s7 s8 s9 s10 s11 s12 s13 s14 s15 s16 s17 s18 s19 s20 s21 s22 s23 s24 s25 s26 s27 s28 s29 s30 s31 s32 s33 s34 s35 s36 s37 s38 s39 s40 s41 s42 s43 s44 s45 s46 s47 s48 s49 s50 s51 s52 s53 s54 s55 s56 s57 s58 s59:AV}
def F68.t0:IR:=.reg [.q (.of 2) (.mv (.c .zf)),.q (.of 3) (.mv (.c (I 0)))]
def F68.t1:IR:=.reg [.s (.mv (.t (.of 0))),.s (.mv (.t (.of 1))),.w .push none (.call (.c (.fn 128 (.of 128) [])) [(.s 1),(.s 0)]),.q (.of 4) (.mv (.s 0))]
def F68.t2:IR:=.reg [.s (.mv (.t (.of 4))),.q (.of 5) (.bin .neq .int (.s 0) (.c (I 0)))]
def F68.t3:IR:=.reg [.s (.mv (.t (.of 4))),.q (.of 2) (.mv (.c .zf)),.q (.of 3) (.mv (.s 0))]
def F68.t4:IR:=.seq F68.t3 .ret
def F68.t5:IR:=.cond (.t (.of 5)) F68.t4 .skip
def F68.t6:IR:=.seq F68.t2 F68.t5
def F68.t7:IR:=.seq F68.t1 F68.t6
def F68.t8:IR:=.reg [.s (.mv (.t (.of 0))),.s (.mv (.t (.of 1))),.w .push none (.call (.c (.fn 129 (.of 129) [])) [(.s 1),(.s 0)]),.s (.ext 0 (.s 0)),.s (.ext 1 (.s 1)),.q (.of 2) (.mv (.s 1)),.q (.of 3) (.mv (.s 0))]
def F68.t9:IR:=.seq F68.t8 .ret
def F68.t10:IR:=.seq F68.t7 F68.t9
def F68.t11:IR:=.seq F68.t0 F68.t10
theorem F68.rM:IR.run F68.t0 C N O K (F68.fr a b c d e i) h nx =
 K (F68.fr a b .zf (I 0) e i) h nx:=by kernel_rfl
theorem F68.rP:IR.run F68.t1 C N O K (F68.fr a b c d e i) h nx =
 C.fn 128 (.of 128) [a,b] h nx fun v1 h2 n3=>K (F68.fr a b c d v1 i) h2 n3:=by kernel_rfl
theorem F68.rF:IR.run F68.t2 C N O K (F68.fr a b c d e i) h nx =
 zh .neq .int e (I 0) fun v1=>K (F68.fr a b c d e v1) h nx:=by kernel_rfl
theorem F68.aF:IR.run F68.t3 C N O K (F68.fr a b c d e i) h nx =
 K (F68.fr a b .zf e e i) h nx:=by kernel_rfl
theorem F68.v5:Arg.ev (.t (.of 5)) ⟨(F68.fr a b c d e i),[]⟩=i:=by kernel_rfl
theorem F68.t8_s:IR.run F68.t8 C N O K (F68.fr a b c d e i) h nx =
 C.fn 129 (.of 129) [a,b] h nx fun v1 h2 n3=>fB 0 v1 fun v4=>fB 1 v1 fun v5=>K (F68.fr a b v4 v5 e i) h2 n3:=by kernel_rfl
theorem F68.tab:T.get none (.of 68) tbl=some F68:=by kernel_rfl
theorem F68.bind (k:T AV->OP):yP F68.params [a0,a1] F68.init k=k (F68.fr a0 a1 .u .u .u .u):=by kernel_rfl
theorem F68.jo:F68.body=F68.t11:=by kernel_rfl
theorem F68.go:zQ tbl N C (.of 68) [a0,a1] h nx K0=IR.run F68.t11 C N (fnO F68.res K0) (jq F68.res K0) (F68.fr a0 a1 .u .u .u .u) h nx:=by
 rw [zK F68.tab,F68.bind,F68.jo];kernel_rfl
theorem F68.ret:jq F68.res K0 (F68.fr a b c d e i) h nx=K0 (.tup [c,d]) h nx:=by kernel_rfl
end
end Go.Ev
namespace Go.Ev
open Go Go.Proofs
set_option maxRecDepth 100000
section
variable {N:Nat} {C:Calls Prop} {K0:Kw Prop} {K:Ks Prop} {h:T Blk} {nx:Pa} {a b c d e i l a0 a1:AV} {O:yu Prop} {tm:T AV} {Kt:KTm} {r:List RO} {s0 s1 s2 s3 s4 s5 s6 s7 s8 s9 s10 s11 s12 s13 s14 s15 s16 s17 s18 s19 s20 s21 s22 s23 s24 s25 s26 s27 s28 s29 s30 s31 s32 s33 s34 s35 s36 s37 s38 s39 s40 s41 s42 s43 s44 s45 s46 s47 s48 s49 s50 s51 s52 s53 s54 s55 s56 s57 s58 s59:AV}
def F23.t0:IR:=.reg [.q (.of 2) (.mv (.c .zf)),.q (.of 3) (.mv (.c (I 0)))]
def F23.t1:IR:=.reg [.s (.mv (.t (.of 0))),.s (.mv (.t (.of 1))),.w .push none (.call (.c (.fn 68 (.of 68) [])) [(.s 1),(.s 0)]),.s (.mv (.s 0)),.s (.ext 0 (.s 0)),.s (.ext 1 (.s 1)),.q (.of 4) (.mv (.s 1)),.q (.of 5) (.mv (.s 0))]
def F23.t2:IR:=.reg [.s (.mv (.t (.of 5))),.q (.of 6) (.bin .neq .int (.s 0) (.c (I 0)))]
def F23.t3:IR:=.reg [.s (.mv (.t (.of 5))),.q (.of 2) (.mv (.c .zf)),.q (.of 3) (.mv (.s 0))]
def F23.t4:IR:=.seq F23.t3 .ret
def F23.t5:IR:=.cond (.t (.of 6)) F23.t4 .skip
def F23.t6:IR:=.seq F23.t2 F23.t5
def F23.t7:IR:=.reg [.s (.mv (.t (.of 4))),.s (.zu 1 (.s 0) (.c (I 0))),.s (.load (.s 0)),.q (.of 2) (.mv (.s 0)),.q (.of 3) (.mv (.c (I 0)))]
def F23.t8:IR:=.seq F23.t7 .ret
def F23.t9:IR:=.seq F23.t6 F23.t8
def F23.t10:IR:=.seq F23.t1 F23.t9
def F23.t11:IR:=.seq F23.t0 F23.t10
theorem F23.rM:IR.run F23.t0 C N O K (F23.fr a b c d e i l) h nx =
 K (F23.fr a b .zf (I 0) e i l) h nx:=by kernel_rfl
theorem F23.rP:IR.run F23.t1 C N O K (F23.fr a b c d e i l) h nx =
 C.fn 68 (.of 68) [a,b] h nx fun v1 h2 n3=>fB 0 v1 fun v4=>fB 1 v1 fun v5=>K (F23.fr a b c d v4 v5 l) h2 n3:=by kernel_rfl
theorem F23.rF:IR.run F23.t2 C N O K (F23.fr a b c d e i l) h nx =
 zh .neq .int i (I 0) fun v1=>K (F23.fr a b c d e i v1) h nx:=by kernel_rfl
theorem F23.aF:IR.run F23.t3 C N O K (F23.fr a b c d e i l) h nx =
 K (F23.fr a b .zf i e i l) h nx:=by kernel_rfl
theorem F23.v6:Arg.ev (.t (.of 6)) ⟨(F23.fr a b c d e i l),[]⟩=l:=by kernel_rfl
theorem F23.t7_s:IR.run F23.t7 C N O K (F23.fr a b c d e i l) h nx =
 zV 1 e (I 0) fun v1=>zG v1 h fun v2=>K (F23.fr a b v2 (I 0) e i l) h nx:=by kernel_rfl
theorem F23.tab:T.get none (.of 23) tbl=some F23:=by kernel_rfl
theorem F23.bind (k:T AV->OP):yP F23.params [a0,a1] F23.init k=k (F23.fr a0 a1 .u .u .u .u .u):=by kernel_rfl
theorem F23.jo:F23.body=F23.t11:=by kernel_rfl
theorem F23.go:zQ tbl N C (.of 23) [a0,a1] h nx K0=IR.run F23.t11 C N (fnO F23.res K0) (jq F23.res K0) (F23.fr a0 a1 .u .u .u .u .u) h nx:=by
 rw [zK F23.tab,F23.bind,F23.jo];kernel_rfl
theorem F23.ret:jq F23.res K0 (F23.fr a b c d e i l) h nx=K0 (.tup [c,d]) h nx:=by kernel_rfl
end
end Go.Ev
namespace Go.Ev
open Go Go.Proofs
set_option maxRecDepth 100000
section
variable {N:Nat} {C:Calls Prop} {K0:Kw Prop} {K:Ks Prop} {h:T Blk} {nx:Pa} {a b c d e i l o q s f p a0 a1:AV} {O:yu Prop} {tm:T AV} {Kt:KTm} {r:List RO} {s0 s1 s2 s3 s4 s5 s6 s7 s8 s9 s10 s11 s12 s13 s14 s15 s16 s17 s18 s19 s20 s21 s22 s23 s24 s25 s26 s27 s28 s29 s30 s31 s32 s33 s34 s35 s36 s37 s38 s39 s40 s41 s42 s43 s44 s45 s46 s47 s48 s49 s50 s51 s52 s53 s54 s55 s56 s57 s58 s59:AV}
def zx.t0:IR:=.reg [.w (.loc (.of 2)) none (.box (.t (.of 1))),.w (.loc (.of 3)) none (.alloc [.zf]),.w (.loc (.of 4)) none (.alloc [(I 0)])]
def zx.t1:IR:=.reg [.w (.loc (.of 5)) none (.alloc [.zf])]
def zx.t2:IR:=.reg [.s (.mv (.t (.of 0))),.w (.loc (.of 8)) none (.call (.c (.fn 86 (.of 86) [])) [(.s 0)])]
def zx.t3:IR:=.reg [.w (.loc (.of 6)) none (.alloc [.zf,(.bool false)]),.w .none none (.store 2 (.t (.of 6)) (.t (.of 10)))]
def zx.t4:IR:=.reg [.s (.zn 2 (.t (.of 6))),.s (.load (.t (.of 2))),.w .push none (.call (.c (.fn 65 (.of 65) [])) [(.s 1),(.s 0)]),.q (.of 7) (.mv (.s 0))]
def zx.t5:IR:=.reg [.s (.mv (.t (.of 7))),.w (.loc (.of 11)) none (.call (.c (.fn 66 (.of 66) [])) [(.s 0),(.c (.fn 67 (.of 67) []))])]
def zx.t6:IR:=.reg [.w .none none (.store 1 (.t (.of 3)) (.c .zf)),.w .none none (.store 1 (.t (.of 4)) (.c (I 3)))]
def zx.t7:IR:=.seq zx.t6 .ret
def zx.t8:IR:=.cond (.t (.of 11)) zx.t7 .skip
def zx.t9:IR:=.seq zx.t5 zx.t8
def zx.t10:IR:=.reg [.s (.load (.t (.of 5))),.s (.mv (.t (.of 7))),.w .push none (.yj 1 1 [.zf] [(0,1,(.s 0))]),.w .push none (.app 1 24 (.s 2) (.s 0)),.w .none none (.store 1 (.t (.of 5)) (.s 0))]
def zx.t11:IR:=.seq zx.t9 zx.t10
def zx.t12:IR:=.seq zx.t4 zx.t11
def zx.t13:IR:=.block 1 zx.t12
def zx.t14:IR:=.rf (.t (.of 8)) [(.of 9),(.of 10)] zx.t3 zx.t13
def zx.t15:IR:=.block 0 zx.t14
def zx.t16:IR:=.seq zx.t2 zx.t15
def zx.t17:IR:=.reg [.s (.load (.t (.of 5))),.w .push none (.call (.c (.fn 188 (.of 188) [])) [(.s 0),(.c (.fn 161 (.of 161) []))])]
def zx.t18:IR:=.reg [.s (.load (.t (.of 5))),.w .push none (.call (.c (.fn 189 (.of 189) [])) [(.s 0),(.c (.fn 190 (.of 190) []))]),.w .none none (.store 1 (.t (.of 3)) (.s 0)),.w .none none (.store 1 (.t (.of 4)) (.c (I 0)))]
def zx.t19:IR:=.seq zx.t18 .ret
def zx.t20:IR:=.seq zx.t17 zx.t19
def zx.t21:IR:=.seq zx.t16 zx.t20
def zx.t22:IR:=.seq zx.t1 zx.t21
def zx.t23:IR:=.seq zx.t0 zx.t22
theorem zx.rM:IR.run zx.t0 C N O K (zx.fr a b c d e i l o q s f p) h nx =
 vk b h nx fun v1 h2 n3=>yT [.zf] h2 n3 fun v4 h5 n6=>yT [(I 0)] h5 n6 fun v7 h8 n9=>K (zx.fr a b v1 v4 v7 i l o q s f p) h8 n9:=by kernel_rfl
theorem zx.rP:IR.run zx.t1 C N O K (zx.fr a b c d e i l o q s f p) h nx =
 yT [.zf] h nx fun v1 h2 n3=>K (zx.fr a b c d e v1 l o q s f p) h2 n3:=by kernel_rfl
theorem zx.rF:IR.run zx.t2 C N O K (zx.fr a b c d e i l o q s f p) h nx =
 C.fn 86 (.of 86) [a] h nx fun v1 h2 n3=>K (zx.fr a b c d e i l o v1 s f p) h2 n3:=by kernel_rfl
theorem zx.aF:IR.run zx.t3 C N O K (zx.fr a b c d e i l o q s f p) h nx =
 yT [.zf,(.bool false)] h nx fun v1 h2 n3=>zY 2 v1 f h2 n3 fun v4 h5 n6=>K (zx.fr a b c d e i v1 o q s f p) h5 n6:=by kernel_rfl
theorem zx.t4_s:IR.run zx.t4 C N O K (zx.fr a b c d e i l o q s f p) h nx =
 zS 2 l h fun v1=>zG c h fun v2=>C.fn 65 (.of 65) [v1,v2] h nx fun v3 h4 n5=>K (zx.fr a b c d e i l v3 q s f p) h4 n5:=by kernel_rfl
theorem zx.t5_s:IR.run zx.t5 C N O K (zx.fr a b c d e i l o q s f p) h nx =
 C.fn 66 (.of 66) [o,(.fn 67 (.of 67) [])] h nx fun v1 h2 n3=>K (zx.fr a b c d e i l o q s f v1) h2 n3:=by kernel_rfl
theorem zx.aJ:IR.run zx.t6 C N O K (zx.fr a b c d e i l o q s f p) h nx =
 zY 1 d .zf h nx fun v1 h2 n3=>zY 1 e (I 3) h2 n3 fun v4 h5 n6=>K (zx.fr a b c d e i l o q s f p) h5 n6:=by kernel_rfl
theorem zx.v11:Arg.ev (.t (.of 11)) ⟨(zx.fr a b c d e i l o q s f p),[]⟩=p:=by kernel_rfl
theorem zx.aZ:IR.run zx.t10 C N O K (zx.fr a b c d e i l o q s f p) h nx =
 zG i h fun v1=>jM 1 1 [.zf] [(0,1,o)] h nx fun v2 h3 n4=>tu 1 24 v1 v2 h3 n4 fun v5 h6 n7=>zY 1 i v5 h6 n7 fun v8 h9 nC=>K (zx.fr a b c d e i l o q s f p) h9 nC:=by kernel_rfl
theorem zx.zz4:Arg.ev (.t (.of 8)) ⟨(zx.fr a b c d e i l o q s f p),[]⟩=q:=by kernel_rfl
theorem zx.zz5 {z0 z1:AV} (k:T AV->OP):yP [(.of 9),(.of 10)] [z0,z1] (zx.fr a b c d e i l o q s f p) k=k (zx.fr a b c d e i l o q z0 z1 p):=by kernel_rfl
theorem zx.oh:IR.run zx.t17 C N O K (zx.fr a b c d e i l o q s f p) h nx =
 zG i h fun v1=>C.fn 188 (.of 188) [v1,(.fn 161 (.of 161) [])] h nx fun v2 h3 n4=>K (zx.fr a b c d e i l o q s f p) h3 n4:=by kernel_rfl
theorem zx.ze8:IR.run zx.t18 C N O K (zx.fr a b c d e i l o q s f p) h nx =
 zG i h fun v1=>C.fn 189 (.of 189) [v1,(.fn 190 (.of 190) [])] h nx fun v2 h3 n4=>zY 1 d v2 h3 n4 fun v5 h6 n7=>zY 1 e (I 0) h6 n7 fun v8 h9 nC=>K (zx.fr a b c d e i l o q s f p) h9 nC:=by kernel_rfl
theorem zx.tab:T.get none (.of 129) tbl=some zx:=by kernel_rfl
theorem zx.bind (k:T AV->OP):yP zx.params [a0,a1] zx.init k=k (zx.fr a0 a1 .u .u .u .u .u .u .u .u .u .u):=by kernel_rfl
theorem zx.jo:zx.body=zx.t23:=by kernel_rfl
theorem zx.go:zQ tbl N C (.of 129) [a0,a1] h nx K0=IR.run zx.t23 C N (fnO zx.res K0) (jq zx.res K0) (zx.fr a0 a1 .u .u .u .u .u .u .u .u .u .u) h nx:=by
 rw [zK zx.tab,zx.bind,zx.jo];kernel_rfl
theorem zx.ret:jq zx.res K0 (zx.fr a b c d e i l o q s f p) h nx=zG d h fun v1=>zG e h fun v2=>K0 (.tup [v1,v2]) h nx:=by kernel_rfl
end
end Go.Ev
namespace Go.Ev
open Go Go.Proofs
set_option maxRecDepth 100000
section
variable {N:Nat} {C:Calls Prop} {K0:Kw Prop} {K:Ks Prop} {h:T Blk} {nx:Pa} {a b c d e a0 a1:AV} {O:yu Prop} {tm:T AV} {Kt:KTm} {r:List RO} {s0 s1 s2 s3 s4 s5 s6 s7 s8 s9 s10 s11 s12 s13 s14 s15 s16 s17 s18 s19 s20 s21 s22 s23 s24 s25 s26 s27 s28 s29 s30 s31 s32 s33 s34 s35 s36 s37 s38 s39 s40 s41 s42 s43 s44 s45 s46 s47 s48 s49 s50 s51 s52 s53 s54 s55 s56 s57 s58 s59:AV}
def jg.t0:IR:=.reg [.q (.of 2) (.mv (.c (I 0)))]
def jg.t1:IR:=.reg [.s (.mv (.t (.of 1))),.w .push none (.call (.c (.fn 63 (.of 63) [])) [(.s 0)]),.q (.of 3) (.mv (.s 0))]
def jg.t2:IR:=.reg [.s (.mv (.t (.of 3))),.q (.of 4) (.bin .neq .int (.s 0) (.c (I 0)))]
def jg.t3:IR:=.reg [.s (.mv (.t (.of 3))),.q (.of 2) (.mv (.s 0))]
def jg.t4:IR:=.seq jg.t3 .ret
def jg.t5:IR:=.cond (.t (.of 4)) jg.t4 .skip
def jg.t6:IR:=.seq jg.t2 jg.t5
def jg.t7:IR:=.seq jg.t1 jg.t6
def jg.t8:IR:=.reg [.s (.mv (.t (.of 0))),.s (.mv (.t (.of 1))),.s (.len (.s 0)),.w .push none (.call (.c (.fn 84 (.of 84) [])) [(.s 2),(.s 0)]),.q (.of 2) (.mv (.s 0))]
def jg.t9:IR:=.seq jg.t8 .ret
def jg.t10:IR:=.seq jg.t7 jg.t9
def jg.t11:IR:=.seq jg.t0 jg.t10
theorem jg.rM:IR.run jg.t0 C N O K (jg.fr a b c d e) h nx =
 K (jg.fr a b (I 0) d e) h nx:=by kernel_rfl
theorem jg.rP:IR.run jg.t1 C N O K (jg.fr a b c d e) h nx =
 C.fn 63 (.of 63) [b] h nx fun v1 h2 n3=>K (jg.fr a b c v1 e) h2 n3:=by kernel_rfl
theorem jg.rF:IR.run jg.t2 C N O K (jg.fr a b c d e) h nx =
 zh .neq .int d (I 0) fun v1=>K (jg.fr a b c d v1) h nx:=by kernel_rfl
theorem jg.aF:IR.run jg.t3 C N O K (jg.fr a b c d e) h nx =
 K (jg.fr a b d d e) h nx:=by kernel_rfl
theorem jg.v4:Arg.ev (.t (.of 4)) ⟨(jg.fr a b c d e),[]⟩=e:=by kernel_rfl
theorem jg.t8_s:IR.run jg.t8 C N O K (jg.fr a b c d e) h nx =
 sLen b fun v1=>C.fn 84 (.of 84) [a,v1] h nx fun v2 h3 n4=>K (jg.fr a b v2 d e) h3 n4:=by kernel_rfl
theorem jg.tab:T.get none (.of 128) tbl=some jg:=by kernel_rfl
theorem jg.bind (k:T AV->OP):yP jg.params [a0,a1] jg.init k=k (jg.fr a0 a1 .u .u .u):=by kernel_rfl
theorem jg.jo:jg.body=jg.t11:=by kernel_rfl
theorem jg.go:zQ tbl N C (.of 128) [a0,a1] h nx K0=IR.run jg.t11 C N (fnO jg.res K0) (jq jg.res K0) (jg.fr a0 a1 .u .u .u) h nx:=by
 rw [zK jg.tab,jg.bind,jg.jo];kernel_rfl
theorem jg.ret:jq jg.res K0 (jg.fr a b c d e) h nx=K0 c h nx:=by kernel_rfl
end
end Go.Ev
namespace Go.Ev
open Go Go.Proofs
set_option maxRecDepth 100000
section
variable {N:Nat} {C:Calls Prop} {K0:Kw Prop} {K:Ks Prop} {h:T Blk} {nx:Pa} {a b c d e i l o q s f a0 a1:AV} {O:yu Prop} {tm:T AV} {Kt:KTm} {r:List RO} {s0 s1 s2 s3 s4 s5 s6 s7 s8 s9 s10 s11 s12 s13 s14 s15 s16 s17 s18 s19 s20 s21 s22 s23 s24 s25 s26 s27 s28 s29 s30 s31 s32 s33 s34 s35 s36 s37 s38 s39 s40 s41 s42 s43 s44 s45 s46 s47 s48 s49 s50 s51 s52 s53 s54 s55 s56 s57 s58 s59:AV}
def zi.t0:IR:=.reg [.q (.of 2) (.mv (.c .zf))]
def zi.t1:IR:=.reg [.s (.mv (.t (.of 0))),.s (.len (.s 0)),.q (.of 6) (.bin .lss .int (.s 0) (.c (I 2)))]
def zi.t2:IR:=.reg [.s (.mv (.t (.of 0))),.q (.of 2) (.mv (.s 0))]
def zi.t3:IR:=.seq zi.t2 .ret
def zi.t4:IR:=.cond (.t (.of 6)) zi.t3 .skip
def zi.t5:IR:=.seq zi.t1 zi.t4
def zi.t6:IR:=.reg [.q (.of 3) (.mv (.c (I 1)))]
def zi.t7:IR:=.reg [.s (.mv (.t (.of 3))),.s (.mv (.t (.of 0))),.s (.len (.s 0)),.q (.of 7) (.bin .lss .int (.s 2) (.s 0))]
def zi.t8:IR:=.cond (.t (.of 7)) .skip (.exit 0)
def zi.t9:IR:=.seq zi.t7 zi.t8
def zi.t10:IR:=.yh [] [(.s (.mv (.t (.of 1))),0,[]),(.s (.mv (.t (.of 0))),0,[]),(.s (.mv (.t (.of 3))),0,[]),(.s (.zu 1 (.s 1) (.s 0)),0,[]),(.s (.load (.s 0)),0,[]),(.s (.mv (.t (.of 0))),0,[]),(.s (.mv (.t (.of 3))),0,[]),(.s (.bin .sub .int (.s 0) (.c (I 1))),0,[]),(.s (.zu 1 (.s 2) (.s 0)),0,[]),(.s (.load (.s 0)),0,[]),(.w (.loc (.of 8)) none (.call (.s 9) [(.s 5),(.s 0)]),0,[])]
def zi.t11:IR:=.reg [.s (.mv (.t (.of 0))),.s (.mv (.t (.of 3))),.s (.slice 1 (.s 1) (some (.s 0)) none none),.q (.of 4) (.mv (.s 0))]
def zi.t12:IR:=.reg [.q (.of 5) (.mv (.c (I 1)))]
def zi.t13:IR:=.reg [.s (.mv (.t (.of 5))),.s (.mv (.t (.of 4))),.s (.len (.s 0)),.q (.of 9) (.bin .lss .int (.s 2) (.s 0))]
def zi.t14:IR:=.cond (.t (.of 9)) .skip (.exit 2)
def zi.t15:IR:=.seq zi.t13 zi.t14
def zi.t16:IR:=.yh [] [(.s (.mv (.t (.of 1))),0,[]),(.s (.mv (.t (.of 4))),0,[]),(.s (.mv (.t (.of 5))),0,[]),(.s (.zu 1 (.s 1) (.s 0)),0,[]),(.s (.load (.s 0)),0,[]),(.s (.mv (.t (.of 4))),0,[]),(.s (.mv (.t (.of 5))),0,[]),(.s (.bin .sub .int (.s 0) (.c (I 1))),0,[]),(.s (.zu 1 (.s 2) (.s 0)),0,[]),(.s (.load (.s 0)),0,[]),(.w .push none (.call (.s 9) [(.s 5),(.s 0)]),0,[]),(.q (.of 10) (.not (.s 0)),0,[])]
def zi.t17:IR:=.reg [.s (.mv (.t (.of 0))),.s (.mv (.t (.of 3))),.s (.mv (.t (.of 4))),.s (.mv (.t (.of 5))),.s (.zu 1 (.s 1) (.s 0)),.s (.load (.s 0)),.s (.zu 1 (.s 5) (.s 4)),.w .none none (.store 1 (.s 0) (.s 1))]
def zi.t18:IR:=.reg [.s (.mv (.t (.of 3))),.s (.bin .add .int (.s 0) (.c (I 1))),.q (.of 3) (.mv (.s 0))]
def zi.t19:IR:=.seq zi.t17 zi.t18
def zi.t20:IR:=.cond (.t (.of 10)) zi.t19 .skip
def zi.t21:IR:=.seq zi.t16 zi.t20
def zi.t22:IR:=.block 3 zi.t21
def zi.t23:IR:=.reg [.s (.mv (.t (.of 5))),.s (.bin .add .int (.s 0) (.c (I 1))),.q (.of 5) (.mv (.s 0))]
def zi.t24:IR:=.seq zi.t22 zi.t23
def zi.t25:IR:=.seq zi.t15 zi.t24
def zi.t26:IR:=.loop zi.t25
def zi.t27:IR:=.block 2 zi.t26
def zi.t28:IR:=.seq zi.t12 zi.t27
def zi.t29:IR:=.reg [.s (.mv (.t (.of 0))),.s (.mv (.t (.of 3))),.s (.slice 1 (.s 1) (some (.s 0)) none none),.w .none none (.clr 1 [.zf] (.s 0))]
def zi.t30:IR:=.reg [.s (.mv (.t (.of 0))),.s (.mv (.t (.of 3))),.s (.slice 1 (.s 1) none (some (.s 0)) none),.q (.of 2) (.mv (.s 0))]
def zi.t31:IR:=.seq zi.t30 .ret
def zi.t32:IR:=.seq zi.t29 zi.t31
def zi.t33:IR:=.seq zi.t28 zi.t32
def zi.t34:IR:=.seq zi.t11 zi.t33
def zi.t35:IR:=.cond (.t (.of 8)) zi.t34 .skip
def zi.t36:IR:=.seq zi.t10 zi.t35
def zi.t37:IR:=.block 1 zi.t36
def zi.t38:IR:=.reg [.s (.mv (.t (.of 3))),.s (.bin .add .int (.s 0) (.c (I 1))),.q (.of 3) (.mv (.s 0))]
def zi.t39:IR:=.seq zi.t37 zi.t38
def zi.t40:IR:=.seq zi.t9 zi.t39
def zi.t41:IR:=.loop zi.t40
def zi.t42:IR:=.block 0 zi.t41
def zi.t43:IR:=.seq zi.t6 zi.t42
def zi.t44:IR:=.reg [.s (.mv (.t (.of 0))),.q (.of 2) (.mv (.s 0))]
def zi.t45:IR:=.seq zi.t44 .ret
def zi.t46:IR:=.seq zi.t43 zi.t45
def zi.t47:IR:=.seq zi.t5 zi.t46
def zi.t48:IR:=.seq zi.t0 zi.t47
theorem zi.rM:IR.run zi.t0 C N O K (zi.fr a b c d e i l o q s f) h nx =
 K (zi.fr a b .zf d e i l o q s f) h nx:=by kernel_rfl
theorem zi.rP:IR.run zi.t1 C N O K (zi.fr a b c d e i l o q s f) h nx =
 sLen a fun v1=>zh .lss .int v1 (I 2) fun v2=>K (zi.fr a b c d e i v2 o q s f) h nx:=by kernel_rfl
theorem zi.rF:IR.run zi.t2 C N O K (zi.fr a b c d e i l o q s f) h nx =
 K (zi.fr a b a d e i l o q s f) h nx:=by kernel_rfl
theorem zi.v6:Arg.ev (.t (.of 6)) ⟨(zi.fr a b c d e i l o q s f),[]⟩=l:=by kernel_rfl
theorem zi.aJ:IR.run zi.t6 C N O K (zi.fr a b c d e i l o q s f) h nx =
 K (zi.fr a b c (I 1) e i l o q s f) h nx:=by kernel_rfl
theorem zi.t7_s:IR.run zi.t7 C N O K (zi.fr a b c d e i l o q s f) h nx =
 sLen a fun v1=>zh .lss .int d v1 fun v2=>K (zi.fr a b c d e i l v2 q s f) h nx:=by kernel_rfl
theorem zi.v7:Arg.ev (.t (.of 7)) ⟨(zi.fr a b c d e i l o q s f),[]⟩=o:=by kernel_rfl
theorem zi.aZ:IR.run zi.t10 C N O K (zi.fr a b c d e i l o q s f) h nx =
 zV 1 a d fun v1=>zG v1 h fun v2=>zh .sub .int d (I 1) fun v3=>zV 1 a v3 fun v4=>zG v4 h fun v5=>qC C b [v2,v5] h nx fun v6 h7 n8=>K (zi.fr a b c d e i l o v6 s f) h7 n8:=by kernel_rfl
theorem zi.zau:IR.run zi.t11 C N O K (zi.fr a b c d e i l o q s f) h nx =
 qR 1 a (some d) none none fun v1=>K (zi.fr a b c d v1 i l o q s f) h nx:=by kernel_rfl
theorem zi.ze6:IR.run zi.t12 C N O K (zi.fr a b c d e i l o q s f) h nx =
 K (zi.fr a b c d e (I 1) l o q s f) h nx:=by kernel_rfl
theorem zi.zm4:IR.run zi.t13 C N O K (zi.fr a b c d e i l o q s f) h nx =
 sLen e fun v1=>zh .lss .int i v1 fun v2=>K (zi.fr a b c d e i l o q v2 f) h nx:=by kernel_rfl
theorem zi.v9:Arg.ev (.t (.of 9)) ⟨(zi.fr a b c d e i l o q s f),[]⟩=s:=by kernel_rfl
theorem zi.ze9:IR.run zi.t16 C N O K (zi.fr a b c d e i l o q s f) h nx =
 zV 1 e i fun v1=>zG v1 h fun v2=>zh .sub .int i (I 1) fun v3=>zV 1 e v3 fun v4=>zG v4 h fun v5=>qC C b [v2,v5] h nx fun v6 h7 n8=>oM v6 fun v9=>K (zi.fr a b c d e i l o q s v9) h7 n8:=by kernel_rfl
theorem zi.oh:IR.run zi.t17 C N O K (zi.fr a b c d e i l o q s f) h nx =
 zV 1 e i fun v1=>zG v1 h fun v2=>zV 1 a d fun v3=>zY 1 v3 v2 h nx fun v4 h5 n6=>K (zi.fr a b c d e i l o q s f) h5 n6:=by kernel_rfl
theorem zi.ze8:IR.run zi.t18 C N O K (zi.fr a b c d e i l o q s f) h nx =
 zh .add .int d (I 1) fun v1=>K (zi.fr a b c v1 e i l o q s f) h nx:=by kernel_rfl
theorem zi.v10:Arg.ev (.t (.of 10)) ⟨(zi.fr a b c d e i l o q s f),[]⟩=f:=by kernel_rfl
theorem zi.zvy:IR.run zi.t23 C N O K (zi.fr a b c d e i l o q s f) h nx =
 zh .add .int i (I 1) fun v1=>K (zi.fr a b c d e v1 l o q s f) h nx:=by kernel_rfl
theorem zi.zz6 (Inv:Nat->AV->AV->T Blk->Pa->Prop) {m:Nat} (hm:m<N) (hi:Inv m d i h nx)
  (step:∀ (m:Nat) (z3 z5 z9 zA:AV) (h:T Blk) (nx:Pa) (R:Ks Prop),Inv m z3 z5 h nx->(∀ (m':Nat) (w3 w5 w9 wA:AV) (h':T Blk) (nx':Pa),m'<m->Inv m' w3 w5 h' nx'->R (zi.fr a b c w3 e w5 l o q w9 wA) h' nx'=.ok True)->IR.run zi.t25 C N O R (zi.fr a b c z3 e z5 l o q z9 zA) h nx=.ok True) :
  IR.run zi.t26 C N O K (zi.fr a b c d e i l o q s f) h nx=.ok True:=by
 rw [zi.t26];refine yK (fun m tm h nx=>∃ z3 z5 z9 zA,tm=(zi.fr a b c z3 e z5 l o q z9 zA)/\Inv m z3 z5 h nx) ?_ hm ⟨_,_,_,_,rfl,hi⟩;rintro m tm h nx R ⟨z3,z5,z9,zA,rfl,hi⟩ hR;exact step m z3 z5 z9 zA h nx R hi fun m' w3 w5 w9 wA h' nx' hlt hi'=>hR m' _ h' nx' hlt ⟨_,_,_,_,rfl,hi'⟩
theorem zi.zm7:IR.run zi.t29 C N O K (zi.fr a b c d e i l o q s f) h nx =
 qR 1 a (some d) none none fun v1=>sClr 1 [.zf] v1 h nx fun v2 h3 n4=>K (zi.fr a b c d e i l o q s f) h3 n4:=by kernel_rfl
theorem zi.zm8:IR.run zi.t30 C N O K (zi.fr a b c d e i l o q s f) h nx =
 qR 1 a none (some d) none fun v1=>K (zi.fr a b v1 d e i l o q s f) h nx:=by kernel_rfl
theorem zi.v8:Arg.ev (.t (.of 8)) ⟨(zi.fr a b c d e i l o q s f),[]⟩=q:=by kernel_rfl
theorem zi.zz7:IR.run zi.t38 C N O K (zi.fr a b c d e i l o q s f) h nx =
 zh .add .int d (I 1) fun v1=>K (zi.fr a b c v1 e i l o q s f) h nx:=by kernel_rfl
theorem zi.zz8 (Inv:Nat->AV->T Blk->Pa->Prop) {m:Nat} (hm:m<N) (hi:Inv m d h nx)
  (step:∀ (m:Nat) (z2 z3 z4 z5 z7 z8 z9 zA:AV) (h:T Blk) (nx:Pa) (R:Ks Prop),Inv m z3 h nx->(∀ (m':Nat) (w2 w3 w4 w5 w7 w8 w9 wA:AV) (h':T Blk) (nx':Pa),m'<m->Inv m' w3 h' nx'->R (zi.fr a b w2 w3 w4 w5 l w7 w8 w9 wA) h' nx'=.ok True)->IR.run zi.t40 C N O R (zi.fr a b z2 z3 z4 z5 l z7 z8 z9 zA) h nx=.ok True) :
  IR.run zi.t41 C N O K (zi.fr a b c d e i l o q s f) h nx=.ok True:=by
 rw [zi.t41];refine yK (fun m tm h nx=>∃ z2 z3 z4 z5 z7 z8 z9 zA,tm=(zi.fr a b z2 z3 z4 z5 l z7 z8 z9 zA)/\Inv m z3 h nx) ?_ hm ⟨_,_,_,_,_,_,_,_,rfl,hi⟩;rintro m tm h nx R ⟨z2,z3,z4,z5,z7,z8,z9,zA,rfl,hi⟩ hR;exact step m z2 z3 z4 z5 z7 z8 z9 zA h nx R hi fun m' w2 w3 w4 w5 w7 w8 w9 wA h' nx' hlt hi'=>hR m' _ h' nx' hlt ⟨_,_,_,_,_,_,_,_,rfl,hi'⟩
theorem zi.zz9:IR.run zi.t44 C N O K (zi.fr a b c d e i l o q s f) h nx =
 K (zi.fr a b a d e i l o q s f) h nx:=by kernel_rfl
theorem zi.tab:T.get none (.of 189) tbl=some zi:=by kernel_rfl
theorem zi.bind (k:T AV->OP):yP zi.params [a0,a1] zi.init k=k (zi.fr a0 a1 .u .u .u .u .u .u .u .u .u):=by kernel_rfl
theorem zi.jo:zi.body=zi.t48:=by kernel_rfl
theorem zi.go:zQ tbl N C (.of 189) [a0,a1] h nx K0=IR.run zi.t48 C N (fnO zi.res K0) (jq zi.res K0) (zi.fr a0 a1 .u .u .u .u .u .u .u .u .u) h nx:=by
 rw [zK zi.tab,zi.bind,zi.jo];kernel_rfl
theorem zi.ret:jq zi.res K0 (zi.fr a b c d e i l o q s f) h nx=K0 c h nx:=by kernel_rfl
end
end Go.Ev
namespace Go.Ev
open Go Go.Proofs
set_option maxRecDepth 100000
section
variable {N:Nat} {C:Calls Prop} {K0:Kw Prop} {K:Ks Prop} {h:T Blk} {nx:Pa} {a b c d e i l o q a0:AV} {O:yu Prop} {tm:T AV} {Kt:KTm} {r:List RO} {s0 s1 s2 s3 s4 s5 s6 s7 s8 s9 s10 s11 s12 s13 s14 s15 s16 s17 s18 s19 s20 s21 s22 s23 s24 s25 s26 s27 s28 s29 s30 s31 s32 s33 s34 s35 s36 s37 s38 s39 s40 s41 s42 s43 s44 s45 s46 s47 s48 s49 s50 s51 s52 s53 s54 s55 s56 s57 s58 s59:AV}
end
end Go.Ev
namespace Go.Ev
open Go Go.Proofs
set_option maxRecDepth 100000
section
variable {N:Nat} {C:Calls Prop} {K0:Kw Prop} {K:Ks Prop} {h:T Blk} {nx:Pa} {a b c d e i l o q s a0 a1 a2:AV} {O:yu Prop} {tm:T AV} {Kt:KTm} {r:List RO} {s0 s1 s2 s3 s4 s5 s6 s7 s8 s9 s10 s11 s12 s13 s14 s15 s16 s17 s18 s19 s20 s21 s22 s23 s24 s25 s26 s27 s28 s29 s30 s31 s32 s33 s34 s35 s36 s37 s38 s39 s40 s41 s42 s43 s44 s45 s46 s47 s48 s49 s50 s51 s52 s53 s54 s55 s56 s57 s58 s59:AV}
end
end Go.Ev
namespace Go.Ev
open Go Go.Proofs
set_option maxRecDepth 100000
section
variable {N:Nat} {C:Calls Prop} {K0:Kw Prop} {K:Ks Prop} {h:T Blk} {nx:Pa} {a b c d e i l o q s f p u v w a0 a1:AV} {O:yu Prop} {tm:T AV} {Kt:KTm} {r:List RO} {s0 s1 s2 s3 s4 s5 s6 s7 s8 s9 s10 s11 s12 s13 s14 s15 s16 s17 s18 s19 s20 s21 s22 s23 s24 s25 s26 s27 s28 s29 s30 s31 s32 s33 s34 s35 s36 s37 s38 s39 s40 s41 s42 s43 s44 s45 s46 s47 s48 s49 s50 s51 s52 s53 s54 s55 s56 s57 s58 s59:AV}
end
end Go.Ev
namespace Go.Ev
open Go Go.Proofs
set_option maxRecDepth 100000
section
variable {N:Nat} {C:Calls Prop} {K0:Kw Prop} {K:Ks Prop} {h:T Blk} {nx:Pa} {a b c d e i l o q s f p u a0:AV} {O:yu Prop} {tm:T AV} {Kt:KTm} {r:List RO} {s0 s1 s2 s3 s4 s5 s6 s7 s8 s9 s10 s11 s12 s13 s14 s15 s16 s17 s18 s19 s20 s21 s22 s23 s24 s25 s26 s27 s28 s29 s30 s31 s32 s33 s34 s35 s36 s37 s38 s39 s40 s41 s42 s43 s44 s45 s46 s47 s48 s49 s50 s51 s52 s53 s54 s55 s56 s57 s58 s59:AV}
end
end Go.Ev
namespace Go.Ev
open Go Go.Proofs
set_option maxRecDepth 100000
section
variable {N:Nat} {C:Calls Prop} {K0:Kw Prop} {K:Ks Prop} {h:T Blk} {nx:Pa} {a b c d a0 a1 a2:AV} {O:yu Prop} {tm:T AV} {Kt:KTm} {r:List RO} {s0 s1 s2 s3 s4 s5 s6 s7 s8 s9 s10 s11 s12 s13 s14 s15 s16 s17 s18 s19 s20 s21 s22 s23 s24 s25 s26 s27 s28 s29 s30 s31 s32 s33 s34 s35 s36 s37 s38 s39 s40 s41 s42 s43 s44 s45 s46 s47 s48 s49 s50 s51 s52 s53 s54 s55 s56 s57 s58 s59:AV}
def F21.t0:IR:=.reg [.q (.of 3) (.mv (.c (.bool false)))]
def F21.tZ:List RO:=.p .push (some ((.s 3),true)) (.bin .eql .int (.s 0) (.c (I 0)))::.s (.pick (.s 4) (.s 0) (.c (.bool false)))::.q (.of 3) (.mv (.s 0))::[]
def F21.aI:List RO:=.s (.mv (.s 0))::.p .push (some ((.s 0),true)) (.mv (.t (.of 0)))::.p .push (some ((.s 1),true)) (.mv (.t (.of 1)))::.w .push (some ((.s 2),true)) (.call (.c (.fn 31 (.of 31) [])) [(.s 1),(.s 0)])::F21.tZ
def F21.r1_0:List RO:=.s (.mv (.t (.of 0)))::.s (.len (.s 0))::.s (.mv (.t (.of 2)))::.s (.bin .leq .int (.s 1) (.s 0))::.s (.mv (.s 0))::.p .push (some ((.s 0),true)) (.mv (.t (.of 1)))::.p .push (some ((.s 1),true)) (.bin .leq .int (.s 0) (.c (I 16)))::.s (.pick (.s 2) (.s 0) (.c (.bool false)))::F21.aI
def F21.t1:IR:=.reg F21.r1_0
def F21.t2:IR:=.seq F21.t1 .ret
def F21.t3:IR:=.seq F21.t0 F21.t2
theorem F21.rM:IR.run F21.t0 C N O K (F21.fr a b c d) h nx =
 K (F21.fr a b c (.bool false)) h nx:=by kernel_rfl
theorem F21.rP:IR.run F21.t1 C N O K tm h nx=yR F21.r1_0 C ⟨tm,[]⟩ h nx (fun tm h nx=>K tm.v h nx):=qL ..
theorem F21.zaa:yR (.s (.mv (.t (.of 0)))::.s (.len (.s 0))::.s (.mv (.t (.of 2)))::.s (.bin .leq .int (.s 1) (.s 0))::.s (.mv (.s 0))::.p .push (some ((.s 0),true)) (.mv (.t (.of 1)))::.p .push (some ((.s 1),true)) (.bin .leq .int (.s 0) (.c (I 16)))::.s (.pick (.s 2) (.s 0) (.c (.bool false)))::r) C ⟨(F21.fr a b c d),[]⟩ h nx Kt =
 sLen a fun v1=>zh .leq .int v1 c fun v2=>sG v2 true (fun k=>k b) fun v3=>sG v2 true (fun k=>zh .leq .int v3 (I 16) k) fun v4=>jE v2 v4 (.bool false) fun v5=>yR r C ⟨(F21.fr a b c d),v5::v4::v3::v2::v2::c::v1::a::[]⟩ h nx Kt:=by kernel_rfl
theorem F21.rQ:yR (.s (.mv (.s 0))::.p .push (some ((.s 0),true)) (.mv (.t (.of 0)))::.p .push (some ((.s 1),true)) (.mv (.t (.of 1)))::.w .push (some ((.s 2),true)) (.call (.c (.fn 31 (.of 31) [])) [(.s 1),(.s 0)])::r) C ⟨(F21.fr a b c d),s0::s1::s2::s3::s4::s5::s6::s7::[]⟩ h nx Kt =
 sG s0 true (fun k=>k a) fun v1=>sG s0 true (fun k=>k b) fun v2=>sGW s0 true (fun k=>C.fn 31 (.of 31) [v1,v2] h nx k) h nx fun v3 h4 n5=>yR r C ⟨(F21.fr a b c d),v3::v2::v1::s0::s0::s1::s2::s3::s4::s5::s6::s7::[]⟩ h4 n5 Kt:=by kernel_rfl
theorem F21.fJ:yR (.p .push (some ((.s 3),true)) (.bin .eql .int (.s 0) (.c (I 0)))::.s (.pick (.s 4) (.s 0) (.c (.bool false)))::.q (.of 3) (.mv (.s 0))::[]) C ⟨(F21.fr a b c d),s0::s1::s2::s3::s4::s5::s6::s7::s8::s9::s10::s11::[]⟩ h nx Kt =
 sG s3 true (fun k=>zh .eql .int s0 (I 0) k) fun v1=>jE s3 v1 (.bool false) fun v2=>Kt ⟨(F21.fr a b c v2),v2::v1::s0::s1::s2::s3::s4::s5::s6::s7::s8::s9::s10::s11::[]⟩ h nx:=by kernel_rfl
theorem F21.tab:T.get none (.of 21) tbl=some F21:=by kernel_rfl
theorem F21.bind (k:T AV->OP):yP F21.params [a0,a1,a2] F21.init k=k (F21.fr a0 a1 a2 .u):=by kernel_rfl
theorem F21.jo:F21.body=F21.t3:=by kernel_rfl
theorem F21.go:zQ tbl N C (.of 21) [a0,a1,a2] h nx K0=IR.run F21.t3 C N (fnO F21.res K0) (jq F21.res K0) (F21.fr a0 a1 a2 .u) h nx:=by
 rw [zK F21.tab,F21.bind,F21.jo];kernel_rfl
theorem F21.ret:jq F21.res K0 (F21.fr a b c d) h nx=K0 d h nx:=by kernel_rfl
end
end Go.Ev
namespace Go.Ev
open Go Go.Proofs
set_option maxRecDepth 100000
section
variable {N:Nat} {C:Calls Prop} {K0:Kw Prop} {K:Ks Prop} {h:T Blk} {nx:Pa} {a b c d e i l o q s f a0 a1:AV} {O:yu Prop} {tm:T AV} {Kt:KTm} {r:List RO} {s0 s1 s2 s3 s4 s5 s6 s7 s8 s9 s10 s11 s12 s13 s14 s15 s16 s17 s18 s19 s20 s21 s22 s23 s24 s25 s26 s27 s28 s29 s30 s31 s32 s33 s34 s35 s36 s37 s38 s39 s40 s41 s42 s43 s44 s45 s46 s47 s48 s49 s50 s51 s52 s53 s54 s55 s56 s57 s58 s59:AV}
def F22.t0:IR:=.reg [.w (.loc (.of 2)) none (.box (.t (.of 0))),.q (.of 3) (.mv (.c .zf)),.q (.of 4) (.mv (.c (I 0)))]
def F22.t1:IR:=.reg [.s (.mv (.t (.of 1))),.w .push none (.call (.c (.fn 63 (.of 63) [])) [(.s 0)]),.q (.of 5) (.mv (.s 0))]
def F22.t2:IR:=.reg [.s (.mv (.t (.of 5))),.q (.of 8) (.bin .neq .int (.s 0) (.c (I 0)))]
def F22.t3:IR:=.reg [.s (.mv (.t (.of 5))),.q (.of 3) (.mv (.c .zf)),.q (.of 4) (.mv (.s 0))]
def F22.t4:IR:=.seq F22.t3 .ret
def F22.t5:IR:=.cond (.t (.of 8)) F22.t4 .skip
def F22.t6:IR:=.seq F22.t2 F22.t5
def F22.t7:IR:=.seq F22.t1 F22.t6
def F22.t8:IR:=.reg [.s (.zn 2 (.t (.of 2))),.s (.mv (.t (.of 1))),.s (.len (.s 0)),.w .push none (.call (.c (.fn 64 (.of 64) [])) [(.s 2),(.s 0)]),.q (.of 6) (.mv (.s 0))]
def F22.t9:IR:=.reg [.s (.mv (.t (.of 6))),.q (.of 9) (.bin .neq .int (.s 0) (.c (I 0)))]
def F22.t10:IR:=.reg [.s (.mv (.t (.of 6))),.q (.of 3) (.mv (.c .zf)),.q (.of 4) (.mv (.s 0))]
def F22.t11:IR:=.seq F22.t10 .ret
def F22.t12:IR:=.cond (.t (.of 9)) F22.t11 .skip
def F22.t13:IR:=.seq F22.t9 F22.t12
def F22.t14:IR:=.seq F22.t8 F22.t13
def F22.t15:IR:=.reg [.s (.zn 2 (.t (.of 2))),.s (.mv (.t (.of 1))),.w .push none (.call (.c (.fn 65 (.of 65) [])) [(.s 1),(.s 0)]),.q (.of 7) (.mv (.s 0))]
def F22.t16:IR:=.reg [.s (.mv (.t (.of 7))),.w (.loc (.of 10)) none (.call (.c (.fn 66 (.of 66) [])) [(.s 0),(.c (.fn 67 (.of 67) []))])]
def F22.t17:IR:=.reg [.q (.of 3) (.mv (.c .zf)),.q (.of 4) (.mv (.c (I 3)))]
def F22.t18:IR:=.seq F22.t17 .ret
def F22.t19:IR:=.cond (.t (.of 10)) F22.t18 .skip
def F22.t20:IR:=.seq F22.t16 F22.t19
def F22.t21:IR:=.reg [.s (.mv (.t (.of 7))),.q (.of 3) (.mv (.s 0)),.q (.of 4) (.mv (.c (I 0)))]
def F22.t22:IR:=.seq F22.t21 .ret
def F22.t23:IR:=.seq F22.t20 F22.t22
def F22.t24:IR:=.seq F22.t15 F22.t23
def F22.t25:IR:=.seq F22.t14 F22.t24
def F22.t26:IR:=.seq F22.t7 F22.t25
def F22.t27:IR:=.seq F22.t0 F22.t26
theorem F22.rM:IR.run F22.t0 C N O K (F22.fr a b c d e i l o q s f) h nx =
 vk a h nx fun v1 h2 n3=>K (F22.fr a b v1 .zf (I 0) i l o q s f) h2 n3:=by kernel_rfl
theorem F22.rP:IR.run F22.t1 C N O K (F22.fr a b c d e i l o q s f) h nx =
 C.fn 63 (.of 63) [b] h nx fun v1 h2 n3=>K (F22.fr a b c d e v1 l o q s f) h2 n3:=by kernel_rfl
theorem F22.rF:IR.run F22.t2 C N O K (F22.fr a b c d e i l o q s f) h nx =
 zh .neq .int i (I 0) fun v1=>K (F22.fr a b c d e i l o v1 s f) h nx:=by kernel_rfl
theorem F22.aF:IR.run F22.t3 C N O K (F22.fr a b c d e i l o q s f) h nx =
 K (F22.fr a b c .zf i i l o q s f) h nx:=by kernel_rfl
theorem F22.v8:Arg.ev (.t (.of 8)) ⟨(F22.fr a b c d e i l o q s f),[]⟩=q:=by kernel_rfl
theorem F22.t8_s:IR.run F22.t8 C N O K (F22.fr a b c d e i l o q s f) h nx =
 zS 2 c h fun v1=>sLen b fun v2=>C.fn 64 (.of 64) [v1,v2] h nx fun v3 h4 n5=>K (F22.fr a b c d e i v3 o q s f) h4 n5:=by kernel_rfl
theorem F22.t9_s:IR.run F22.t9 C N O K (F22.fr a b c d e i l o q s f) h nx =
 zh .neq .int l (I 0) fun v1=>K (F22.fr a b c d e i l o q v1 f) h nx:=by kernel_rfl
theorem F22.aZ:IR.run F22.t10 C N O K (F22.fr a b c d e i l o q s f) h nx =
 K (F22.fr a b c .zf l i l o q s f) h nx:=by kernel_rfl
theorem F22.v9:Arg.ev (.t (.of 9)) ⟨(F22.fr a b c d e i l o q s f),[]⟩=s:=by kernel_rfl
theorem F22.ze7:IR.run F22.t15 C N O K (F22.fr a b c d e i l o q s f) h nx =
 zS 2 c h fun v1=>C.fn 65 (.of 65) [v1,b] h nx fun v2 h3 n4=>K (F22.fr a b c d e i l v2 q s f) h3 n4:=by kernel_rfl
theorem F22.ze9:IR.run F22.t16 C N O K (F22.fr a b c d e i l o q s f) h nx =
 C.fn 66 (.of 66) [o,(.fn 67 (.of 67) [])] h nx fun v1 h2 n3=>K (F22.fr a b c d e i l o q s v1) h2 n3:=by kernel_rfl
theorem F22.oh:IR.run F22.t17 C N O K (F22.fr a b c d e i l o q s f) h nx =
 K (F22.fr a b c .zf (I 3) i l o q s f) h nx:=by kernel_rfl
theorem F22.v10:Arg.ev (.t (.of 10)) ⟨(F22.fr a b c d e i l o q s f),[]⟩=f:=by kernel_rfl
theorem F22.zm5:IR.run F22.t21 C N O K (F22.fr a b c d e i l o q s f) h nx =
 K (F22.fr a b c o (I 0) i l o q s f) h nx:=by kernel_rfl
theorem F22.tab:T.get none (.of 22) tbl=some F22:=by kernel_rfl
theorem F22.bind (k:T AV->OP):yP F22.params [a0,a1] F22.init k=k (F22.fr a0 a1 .u .u .u .u .u .u .u .u .u):=by kernel_rfl
theorem F22.jo:F22.body=F22.t27:=by kernel_rfl
theorem F22.go:zQ tbl N C (.of 22) [a0,a1] h nx K0=IR.run F22.t27 C N (fnO F22.res K0) (jq F22.res K0) (F22.fr a0 a1 .u .u .u .u .u .u .u .u .u) h nx:=by
 rw [zK F22.tab,F22.bind,F22.jo];kernel_rfl
theorem F22.ret:jq F22.res K0 (F22.fr a b c d e i l o q s f) h nx=K0 (.tup [d,e]) h nx:=by kernel_rfl
end
end Go.Ev
namespace Go.Ev
open Go Go.Proofs
set_option maxRecDepth 100000
section
variable {N:Nat} {C:Calls Prop} {K0:Kw Prop} {K:Ks Prop} {h:T Blk} {nx:Pa} {a b c d e i l o q s a0:AV} {O:yu Prop} {tm:T AV} {Kt:KTm} {r:List RO} {s0 s1 s2 s3 s4 s5 s6 s7 s8 s9 s10 s11 s12 s13 s14 s15 s16 s17 s18 s19 s20 s21 s22 s23 s24 s25 s26 s27 s28 s29 s30 s31 s32 s33 s34 s35 s36 s37 s38 s39 s40 s41 s42 s43 s44 s45 s46 s47 s48 s49 s50 s51 s52 s53 s54 s55 s56 s57 s58 s59:AV}
end
end Go.Ev
namespace Go.Ev
open Go Go.Proofs
set_option maxRecDepth 100000
section
variable {N:Nat} {C:Calls Prop} {K0:Kw Prop} {K:Ks Prop} {h:T Blk} {nx:Pa} {a b c d e i l o q s f p u v w a0:AV} {O:yu Prop} {tm:T AV} {Kt:KTm} {r:List RO} {s0 s1 s2 s3 s4 s5 s6 s7 s8 s9 s10 s11 s12 s13 s14 s15 s16 s17 s18 s19 s20 s21 s22 s23 s24 s25 s26 s27 s28 s29 s30 s31 s32 s33 s34 s35 s36 s37 s38 s39 s40 s41 s42 s43 s44 s45 s46 s47 s48 s49 s50 s51 s52 s53 s54 s55 s56 s57 s58 s59:AV}
end
end Go.Ev
namespace Go.Ev
open Go Go.Proofs
set_option maxRecDepth 100000
section
variable {N:Nat} {C:Calls Prop} {K0:Kw Prop} {K:Ks Prop} {h:T Blk} {nx:Pa} {a b a0:AV} {O:yu Prop} {tm:T AV} {Kt:KTm} {r:List RO} {s0 s1 s2 s3 s4 s5 s6 s7 s8 s9 s10 s11 s12 s13 s14 s15 s16 s17 s18 s19 s20 s21 s22 s23 s24 s25 s26 s27 s28 s29 s30 s31 s32 s33 s34 s35 s36 s37 s38 s39 s40 s41 s42 s43 s44 s45 s46 s47 s48 s49 s50 s51 s52 s53 s54 s55 s56 s57 s58 s59:AV}
end
end Go.Ev
namespace Go.Ev
open Go Go.Proofs
set_option maxRecDepth 100000
section
variable {N:Nat} {C:Calls Prop} {K0:Kw Prop} {K:Ks Prop} {h:T Blk} {nx:Pa} {a b c d e i l o q s a0 a1 a2:AV} {O:yu Prop} {tm:T AV} {Kt:KTm} {r:List RO} {s0 s1 s2 s3 s4 s5 s6 s7 s8 s9 s10 s11 s12 s13 s14 s15 s16 s17 s18 s19 s20 s21 s22 s23 s24 s25 s26 s27 s28 s29 s30 s31 s32 s33 s34 s35 s36 s37 s38 s39 s40 s41 s42 s43 s44 s45 s46 s47 s48 s49 s50 s51 s52 s53 s54 s55 s56 s57 s58 s59:AV}
end
end Go.Ev
namespace Go.Ev
open Go Go.Proofs
set_option maxRecDepth 100000
section
variable {N:Nat} {C:Calls Prop} {K0:Kw Prop} {K:Ks Prop} {h:T Blk} {nx:Pa} {a b c d e i l o q a0 a1 a2 a3:AV} {O:yu Prop} {tm:T AV} {Kt:KTm} {r:List RO} {s0 s1 s2 s3 s4 s5 s6 s7 s8 s9 s10 s11 s12 s13 s14 s15 s16 s17 s18 s19 s20 s21 s22 s23 s24 s25 s26 s27 s28 s29 s30 s31 s32 s33 s34 s35 s36 s37 s38 s39 s40 s41 s42 s43 s44 s45 s46 s47 s48 s49 s50 s51 s52 s53 s54 s55 s56 s57 s58 s59:AV}
end
end Go.Ev
namespace Go.Ev
open Go Go.Proofs
set_option maxRecDepth 100000
section
variable {N:Nat} {C:Calls Prop} {K0:Kw Prop} {K:Ks Prop} {h:T Blk} {nx:Pa} {a b c d e i l a0 a1 a2 a3 a4:AV} {O:yu Prop} {tm:T AV} {Kt:KTm} {r:List RO} {s0 s1 s2 s3 s4 s5 s6 s7 s8 s9 s10 s11 s12 s13 s14 s15 s16 s17 s18 s19 s20 s21 s22 s23 s24 s25 s26 s27 s28 s29 s30 s31 s32 s33 s34 s35 s36 s37 s38 s39 s40 s41 s42 s43 s44 s45 s46 s47 s48 s49 s50 s51 s52 s53 s54 s55 s56 s57 s58 s59:AV}
end
end Go.Ev
namespace Go.Ev
open Go Go.Proofs
set_option maxRecDepth 100000
section
variable {N:Nat} {C:Calls Prop} {K0:Kw Prop} {K:Ks Prop} {h:T Blk} {nx:Pa} {a b c d e i l o q s f p a0 a1 a2 a3 a4 a5:AV} {O:yu Prop} {tm:T AV} {Kt:KTm} {r:List RO} {s0 s1 s2 s3 s4 s5 s6 s7 s8 s9 s10 s11 s12 s13 s14 s15 s16 s17 s18 s19 s20 s21 s22 s23 s24 s25 s26 s27 s28 s29 s30 s31 s32 s33 s34 s35 s36 s37 s38 s39 s40 s41 s42 s43 s44 s45 s46 s47 s48 s49 s50 s51 s52 s53 s54 s55 s56 s57 s58 s59:AV}
end
end Go.Ev
namespace Go.Ev
open Go Go.Proofs
set_option maxRecDepth 100000
section
variable {N:Nat} {C:Calls Prop} {K0:Kw Prop} {K:Ks Prop} {h:T Blk} {nx:Pa} {a b c d e a0 a1 a2:AV} {O:yu Prop} {tm:T AV} {Kt:KTm} {r:List RO} {s0 s1 s2 s3 s4 s5 s6 s7 s8 s9 s10 s11 s12 s13 s14 s15 s16 s17 s18 s19 s20 s21 s22 s23 s24 s25 s26 s27 s28 s29 s30 s31 s32 s33 s34 s35 s36 s37 s38 s39 s40 s41 s42 s43 s44 s45 s46 s47 s48 s49 s50 s51 s52 s53 s54 s55 s56 s57 s58 s59:AV}
end
end Go.Ev
namespace Go.Ev
open Go Go.Proofs
set_option maxRecDepth 100000
section
variable {N:Nat} {C:Calls Prop} {K0:Kw Prop} {K:Ks Prop} {h:T Blk} {nx:Pa} {a b c d e i l o q s f p u v w y D z E a0:AV} {O:yu Prop} {tm:T AV} {Kt:KTm} {r:List RO} {s0 s1 s2 s3 s4 s5 s6 s7 s8 s9 s10 s11 s12 s13 s14 s15 s16 s17 s18 s19 s20 s21 s22 s23 s24 s25 s26 s27 s28 s29 s30 s31 s32 s33 s34 s35 s36 s37 s38 s39 s40 s41 s42 s43 s44 s45 s46 s47 s48 s49 s50 s51 s52 s53 s54 s55 s56 s57 s58 s59:AV}
end
end Go.Ev
namespace Go.Ev
open Go Go.Proofs
set_option maxRecDepth 100000
section
variable {N:Nat} {C:Calls Prop} {K0:Kw Prop} {K:Ks Prop} {h:T Blk} {nx:Pa} {a b c d e i l o q s f p u v w y D z E F G H L a0 a1 a2 a3 a4 a5 a6 a7:AV} {O:yu Prop} {tm:T AV} {Kt:KTm} {r:List RO} {s0 s1 s2 s3 s4 s5 s6 s7 s8 s9 s10 s11 s12 s13 s14 s15 s16 s17 s18 s19 s20 s21 s22 s23 s24 s25 s26 s27 s28 s29 s30 s31 s32 s33 s34 s35 s36 s37 s38 s39 s40 s41 s42 s43 s44 s45 s46 s47 s48 s49 s50 s51 s52 s53 s54 s55 s56 s57 s58 s59:AV}
end
end Go.Ev
namespace Go.Ev
open Go Go.Proofs
set_option maxRecDepth 100000
section
variable {N:Nat} {C:Calls Prop} {K0:Kw Prop} {K:Ks Prop} {h:T Blk} {nx:Pa} {a b c d e i l o q s a0:AV} {O:yu Prop} {tm:T AV} {Kt:KTm} {r:List RO} {s0 s1 s2 s3 s4 s5 s6 s7 s8 s9 s10 s11 s12 s13 s14 s15 s16 s17 s18 s19 s20 s21 s22 s23 s24 s25 s26 s27 s28 s29 s30 s31 s32 s33 s34 s35 s36 s37 s38 s39 s40 s41 s42 s43 s44 s45 s46 s47 s48 s49 s50 s51 s52 s53 s54 s55 s56 s57 s58 s59:AV}
end
end Go.Ev
namespace Go.Ev
open Go Go.Proofs
set_option maxRecDepth 100000
section
variable {N:Nat} {C:Calls Prop} {K0:Kw Prop} {K:Ks Prop} {h:T Blk} {nx:Pa} {a b c d e i l o a0 a1:AV} {O:yu Prop} {tm:T AV} {Kt:KTm} {r:List RO} {s0 s1 s2 s3 s4 s5 s6 s7 s8 s9 s10 s11 s12 s13 s14 s15 s16 s17 s18 s19 s20 s21 s22 s23 s24 s25 s26 s27 s28 s29 s30 s31 s32 s33 s34 s35 s36 s37 s38 s39 s40 s41 s42 s43 s44 s45 s46 s47 s48 s49 s50 s51 s52 s53 s54 s55 s56 s57 s58 s59:AV}
def F28.t0:IR:=.reg [.q (.of 2) (.mv (.c (.bool false)))]
def F28.t1:IR:=.reg [.s (.mv (.t (.of 0))),.q (.of 4) (.len (.s 0)),.q (.of 5) (.mv (.c (I 0)))]
def F28.t2:IR:=.reg [.q (.of 6) (.bin .lss .int (.t (.of 5)) (.t (.of 4)))]
def F28.t3:IR:=.cond (.t (.of 6)) .skip (.exit 0)
def F28.t4:IR:=.reg [.s (.mv (.t (.of 5))),.q (.of 3) (.mv (.s 0))]
def F28.t5:IR:=.reg [.s (.mv (.t (.of 0))),.s (.mv (.t (.of 3))),.s (.zu 1 (.s 1) (.s 0)),.s (.load (.s 0)),.s (.mv (.t (.of 1))),.q (.of 7) (.bin .eql .str (.s 1) (.s 0))]
def F28.t6:IR:=.reg [.q (.of 2) (.mv (.c (.bool true)))]
def F28.t7:IR:=.seq F28.t6 .ret
def F28.t8:IR:=.cond (.t (.of 7)) F28.t7 .skip
def F28.t9:IR:=.seq F28.t5 F28.t8
def F28.t10:IR:=.seq F28.t4 F28.t9
def F28.t11:IR:=.block 1 F28.t10
def F28.t12:IR:=.reg [.s (.bin .add .int (.t (.of 5)) (.c (I 1))),.q (.of 5) (.mv (.s 0))]
def F28.t13:IR:=.seq F28.t11 F28.t12
def F28.t14:IR:=.seq F28.t3 F28.t13
def F28.t15:IR:=.seq F28.t2 F28.t14
def F28.t16:IR:=.loop F28.t15
def F28.t17:IR:=.block 0 F28.t16
def F28.t18:IR:=.seq F28.t1 F28.t17
def F28.t19:IR:=.reg [.q (.of 2) (.mv (.c (.bool false)))]
def F28.t20:IR:=.seq F28.t19 .ret
def F28.t21:IR:=.seq F28.t18 F28.t20
def F28.t22:IR:=.seq F28.t0 F28.t21
theorem F28.rM:IR.run F28.t0 C N O K (F28.fr a b c d e i l o) h nx =
 K (F28.fr a b (.bool false) d e i l o) h nx:=by kernel_rfl
theorem F28.rP:IR.run F28.t1 C N O K (F28.fr a b c d e i l o) h nx =
 sLen a fun v1=>K (F28.fr a b c d v1 (I 0) l o) h nx:=by kernel_rfl
theorem F28.rF:IR.run F28.t2 C N O K (F28.fr a b c d e i l o) h nx =
 zh .lss .int i e fun v1=>K (F28.fr a b c d e i v1 o) h nx:=by kernel_rfl
theorem F28.v6:Arg.ev (.t (.of 6)) ⟨(F28.fr a b c d e i l o),[]⟩=l:=by kernel_rfl
theorem F28.t4_s:IR.run F28.t4 C N O K (F28.fr a b c d e i l o) h nx =
 K (F28.fr a b c i e i l o) h nx:=by kernel_rfl
theorem F28.t5_s:IR.run F28.t5 C N O K (F28.fr a b c d e i l o) h nx =
 zV 1 a d fun v1=>zG v1 h fun v2=>zh .eql .str v2 b fun v3=>K (F28.fr a b c d e i l v3) h nx:=by kernel_rfl
theorem F28.aJ:IR.run F28.t6 C N O K (F28.fr a b c d e i l o) h nx =
 K (F28.fr a b (.bool true) d e i l o) h nx:=by kernel_rfl
theorem F28.v7:Arg.ev (.t (.of 7)) ⟨(F28.fr a b c d e i l o),[]⟩=o:=by kernel_rfl
theorem F28.ze6:IR.run F28.t12 C N O K (F28.fr a b c d e i l o) h nx =
 zh .add .int i (I 1) fun v1=>K (F28.fr a b c d e v1 l o) h nx:=by kernel_rfl
theorem F28.qaa (Inv:Nat->AV->T Blk->Pa->Prop) {m:Nat} (hm:m<N) (hi:Inv m i h nx)
  (step:∀ (m:Nat) (z2 z3 z5 z6 z7:AV) (h:T Blk) (nx:Pa) (R:Ks Prop),Inv m z5 h nx->(∀ (m':Nat) (w2 w3 w5 w6 w7:AV) (h':T Blk) (nx':Pa),m'<m->Inv m' w5 h' nx'->R (F28.fr a b w2 w3 e w5 w6 w7) h' nx'=.ok True)->IR.run F28.t15 C N O R (F28.fr a b z2 z3 e z5 z6 z7) h nx=.ok True) :
  IR.run F28.t16 C N O K (F28.fr a b c d e i l o) h nx=.ok True:=by
 rw [F28.t16];refine yK (fun m tm h nx=>∃ z2 z3 z5 z6 z7,tm=(F28.fr a b z2 z3 e z5 z6 z7)/\Inv m z5 h nx) ?_ hm ⟨_,_,_,_,_,rfl,hi⟩;rintro m tm h nx R ⟨z2,z3,z5,z6,z7,rfl,hi⟩ hR;exact step m z2 z3 z5 z6 z7 h nx R hi fun m' w2 w3 w5 w6 w7 h' nx' hlt hi'=>hR m' _ h' nx' hlt ⟨_,_,_,_,_,rfl,hi'⟩
theorem F28.zm9:IR.run F28.t19 C N O K (F28.fr a b c d e i l o) h nx =
 K (F28.fr a b (.bool false) d e i l o) h nx:=by kernel_rfl
theorem F28.tab:T.get none (.of 28) tbl=some F28:=by kernel_rfl
theorem F28.bind (k:T AV->OP):yP F28.params [a0,a1] F28.init k=k (F28.fr a0 a1 .u .u .u .u .u .u):=by kernel_rfl
theorem F28.jo:F28.body=F28.t22:=by kernel_rfl
theorem F28.go:zQ tbl N C (.of 28) [a0,a1] h nx K0=IR.run F28.t22 C N (fnO F28.res K0) (jq F28.res K0) (F28.fr a0 a1 .u .u .u .u .u .u) h nx:=by
 rw [zK F28.tab,F28.bind,F28.jo];kernel_rfl
theorem F28.ret:jq F28.res K0 (F28.fr a b c d e i l o) h nx=K0 c h nx:=by kernel_rfl
end
end Go.Ev
namespace Go.Ev
open Go Go.Proofs
set_option maxRecDepth 100000
section
variable {N:Nat} {C:Calls Prop} {K0:Kw Prop} {K:Ks Prop} {h:T Blk} {nx:Pa} {a b c d e i l o q s f p u v w y D z E F G H L M P Q U V W Z x30 x31 x32 x33 x34 x35 x36 x37 x38 x39 x40 x41 x42 x43 a0 a1:AV} {O:yu Prop} {tm:T AV} {Kt:KTm} {r:List RO} {s0 s1 s2 s3 s4 s5 s6 s7 s8 s9 s10 s11 s12 s13 s14 s15 s16 s17 s18 s19 s20 s21 s22 s23 s24 s25 s26 s27 s28 s29 s30 s31 s32 s33 s34 s35 s36 s37 s38 s39 s40 s41 s42 s43 s44 s45 s46 s47 s48 s49 s50 s51 s52 s53 s54 s55 s56 s57 s58 s59:AV}
end
end Go.Ev
