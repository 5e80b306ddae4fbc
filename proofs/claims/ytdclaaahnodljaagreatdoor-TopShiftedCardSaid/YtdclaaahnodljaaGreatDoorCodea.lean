import Derived.Test.YtdclaaahnodljaaGreatDoorIrT
import Derived.KernelRfl
import Derived.Test.YtdclaaahnodljaaGreatDoorEvD
set_option linter.unusedSimpArgs false
set_option linter.unusedVariables false
noncomputable section
namespace Go.Ev
open Go Go.Proofs
set_option maxRecDepth 100000
variable {N:Nat} {C:Calls Prop} {K0:Kw Prop} {K R:Ks Prop} {h:T Blk} {nx:Pa} {b a c d e i l a0 a1 o q a2 s f p u v w y E z D F G H L M P Q U V W Z x30 a3 a4 a5 a6 a7:AV}
theorem F48.tab:T.get none (.of 48) tbl=some F48:=by kernel_rfl
theorem F48.go:zO tbl N C (.of 48) [a0] h nx K0 =
 zf .eql (.nil .sl) a0 .zh fun v1=>zX v1 (K0 .zh h nx) (yS 1 0 [(I 0)] [] h nx fun v2 h3 n4=>tC 1 8 v2 a0 h3 n4 fun v5 h6 n7=>K0 v5 h6 n7):=by
 rw [zF F48.tab];kernel_rfl
theorem oP.tab:T.get none (.of 197) tbl=some oP:=by kernel_rfl
theorem oP.go:zO tbl N C (.of 197) [a0,a1] h nx K0 =
 zB a1 h fun v1=>C.fn 190 (.of 190) [a0,v1] h nx fun v2 h3 n4=>K0 v2 h3 n4:=by
 rw [zF oP.tab];kernel_rfl
theorem oQ.tab:T.get none (.of 196) tbl=some oQ:=by kernel_rfl
theorem oQ.go:zO tbl N C (.of 196) [a0,a1] h nx K0 =
 C.fn 238 (.of 238) [a0,a1] h nx fun v1 h2 n3=>zf .geq .int v1 (I 0) fun v4=>K0 v4 h2 n3:=by
 rw [zF oQ.tab];kernel_rfl
theorem uf.wu (X2:IR) (O:yu Prop) (t:T AV):IR.run (uf.g1 X2) C N O K t h nx=IR.run X2 C N (O.blk 0 K) K t h nx:=by kernel_rfl
theorem uf.tab:T.get none (.of 238) tbl=some uf:=by kernel_rfl
theorem uf.go:zO tbl N C (.of 238) [a0,a1] h nx K0 =
 sLen a0 fun v1=>IR.run uf.b1 C N (fnO uf.res K0) (IR.run uf.b8 C N (fnO uf.res K0) (ji uf.res K0)) (uf.fr a0 a1 (I 0) .undef v1 (I 0) .undef .undef) h nx:=by
 rw [zF uf.tab];kernel_rfl
theorem uf.L1 (Inv:Nat->AV->T Blk->Pa->Prop) {m:Nat} (hm:m<N) (hi:Inv m i h nx)
  (step:∀ (m:Nat) (z2 z3 z5 z6 z7:AV) (h:T Blk) (nx:Pa) (R:Ks Prop),Inv m z5 h nx->(∀ (m':Nat) (w2 w3 w5 w6 w7:AV) (h':T Blk) (nx':Pa),m'<m->Inv m' w5 h' nx'->R (uf.fr b a w2 w3 e w5 w6 w7) h' nx'=.ok True) ->
   (zf .lss .int z5 e fun v1=>zX v1 (zS 1 b z5 fun v2=>zB v2 h fun v3=>u6 C a [v3] h nx fun v4 h5 n6=>zX v4 (K0 z5 h5 n6) (zf .add .int z5 (I 1) fun v7=>R (uf.fr b a z2 z5 e v7 v1 v4) h5 n6)) (K (uf.fr b a z2 z3 e z5 v1 z7) h nx))=.ok True) :
  IR.run uf.b1 C N (fnO uf.res K0) K (uf.fr b a c d e i l o) h nx=.ok True:=by
 rw [uf.b1,uf.wu,uf.b2];refine yG (fun m tm h nx=>∃ z2 z3 z5 z6 z7,tm=(uf.fr b a z2 z3 e z5 z6 z7)/\Inv m z5 h nx) ?_ hm ⟨_,_,_,_,_,rfl,hi⟩;rintro m tm h nx R ⟨z2,z3,z5,z6,z7,rfl,hi⟩ hR;refine Eq.trans ?_ (step m z2 z3 z5 z6 z7 h nx R hi fun m' w2 w3 w5 w6 w7 h' nx' hlt hi'=>hR m' _ h' nx' hlt ⟨_,_,_,_,_,rfl,hi'⟩)
 kernel_rfl
theorem uf.k8:IR.run uf.b8 C N (fnO uf.res K0) K (uf.fr b a c d e i l o) h nx =
 K0 (I (-1)) h nx:=by kernel_rfl
theorem jr.eG (X3:IR) (O:yu Prop) (t:T AV):IR.run (jr.g2 X3) C N O K t h nx=IR.run X3 C N (O.blk 0 K) K t h nx:=by kernel_rfl
theorem jr.tab:T.get none (.of 190) tbl=some jr:=by kernel_rfl
theorem jr.go:zO tbl N C (.of 190) [a0,a1] h nx K0 =
 sLen a0 fun v1=>sLen a1 fun v2=>zf .neq .int v1 v2 fun v3=>zX v3 (K0 (.bool false) h nx) (sLen a0 fun v4=>IR.run jr.b2 C N (fnO jr.res K0) (IR.run jr.b9 C N (fnO jr.res K0) (ji jr.res K0)) (jr.fr a0 a1 (.bool false) .undef v3 v4 (I 0) .undef .undef) h nx):=by
 rw [zF jr.tab];kernel_rfl
theorem jr.L2 (Inv:Nat->AV->T Blk->Pa->Prop) {m:Nat} (hm:m<N) (hi:Inv m l h nx)
  (step:∀ (m:Nat) (z2 z3 z6 z7 z8:AV) (h:T Blk) (nx:Pa) (R:Ks Prop),Inv m z6 h nx->(∀ (m':Nat) (w2 w3 w6 w7 w8:AV) (h':T Blk) (nx':Pa),m'<m->Inv m' w6 h' nx'->R (jr.fr b a w2 w3 e i w6 w7 w8) h' nx'=.ok True) ->
   (zf .lss .int z6 i fun v1=>zX v1 (zS 1 b z6 fun v2=>zB v2 h fun v3=>zS 1 a z6 fun v4=>zB v4 h fun v5=>zf .neq .int v3 v5 fun v6=>zX v6 (K0 (.bool false) h nx) (zf .add .int z6 (I 1) fun v7=>R (jr.fr b a z2 z6 e i v7 v1 v6) h nx)) (K (jr.fr b a z2 z3 e i z6 v1 z8) h nx))=.ok True) :
  IR.run jr.b2 C N (fnO jr.res K0) K (jr.fr b a c d e i l o q) h nx=.ok True:=by
 rw [jr.b2,jr.eG,jr.b3];refine yG (fun m tm h nx=>∃ z2 z3 z6 z7 z8,tm=(jr.fr b a z2 z3 e i z6 z7 z8)/\Inv m z6 h nx) ?_ hm ⟨_,_,_,_,_,rfl,hi⟩;rintro m tm h nx R ⟨z2,z3,z6,z7,z8,rfl,hi⟩ hR;refine Eq.trans ?_ (step m z2 z3 z6 z7 z8 h nx R hi fun m' w2 w3 w6 w7 w8 h' nx' hlt hi'=>hR m' _ h' nx' hlt ⟨_,_,_,_,_,rfl,hi'⟩)
 kernel_rfl
theorem jr.k9:IR.run jr.b9 C N (fnO jr.res K0) K (jr.fr b a c d e i l o q) h nx =
 K0 (.bool true) h nx:=by kernel_rfl
theorem F42.wu (X2:IR) (O:yu Prop) (t:T AV):IR.run (F42.g1 X2) C N O K t h nx=IR.run X2 C N (O.blk 0 K) K t h nx:=by kernel_rfl
theorem F42.tab:T.get none (.of 42) tbl=some F42:=by kernel_rfl
theorem F42.go:zO tbl N C (.of 42) [a0] h nx K0 =
 sLen a0 fun v1=>IR.run F42.b1 C N (fnO F42.res K0) (IR.run F42.b8 C N (fnO F42.res K0) (ji F42.res K0)) (F42.fr a0 (I 0) .undef a0 v1 (I 0) .undef .undef) h nx:=by
 rw [zF F42.tab];kernel_rfl
theorem F42.L1 (Inv:Nat->AV->T Blk->Pa->Prop) {m:Nat} (hm:m<N) (hi:Inv m i h nx)
  (step:∀ (m:Nat) (z1 z2 z5 z6 z7:AV) (h:T Blk) (nx:Pa) (R:Ks Prop),Inv m z5 h nx->(∀ (m':Nat) (w1 w2 w5 w6 w7:AV) (h':T Blk) (nx':Pa),m'<m->Inv m' w5 h' nx'->R (F42.fr b w1 w2 d e w5 w6 w7) h' nx'=.ok True) ->
   (zf .lss .int z5 e fun v1=>zX v1 (zS 1 d z5 fun v2=>zB v2 h fun v3=>zf .neq .int v3 (I 0) fun v4=>zX v4 (K0 v3 h nx) (zf .add .int z5 (I 1) fun v5=>R (F42.fr b z1 v3 d e v5 v1 v4) h nx)) (K (F42.fr b z1 z2 d e z5 v1 z7) h nx))=.ok True) :
  IR.run F42.b1 C N (fnO F42.res K0) K (F42.fr b a c d e i l o) h nx=.ok True:=by
 rw [F42.b1,F42.wu,F42.b2];refine yG (fun m tm h nx=>∃ z1 z2 z5 z6 z7,tm=(F42.fr b z1 z2 d e z5 z6 z7)/\Inv m z5 h nx) ?_ hm ⟨_,_,_,_,_,rfl,hi⟩;rintro m tm h nx R ⟨z1,z2,z5,z6,z7,rfl,hi⟩ hR;refine Eq.trans ?_ (step m z1 z2 z5 z6 z7 h nx R hi fun m' w1 w2 w5 w6 w7 h' nx' hlt hi'=>hR m' _ h' nx' hlt ⟨_,_,_,_,_,rfl,hi'⟩)
 kernel_rfl
theorem F42.k8:IR.run F42.b8 C N (fnO F42.res K0) K (F42.fr b a c d e i l o) h nx =
 K0 (I 0) h nx:=by kernel_rfl
theorem F44.tab:T.get none (.of 44) tbl=some F44:=by kernel_rfl
theorem F44.go:zO tbl N C (.of 44) [a0,a1] h nx K0 =
 zX a0 (K0 a1 h nx) (K0 (I 0) h nx):=by
 rw [zF F44.tab];kernel_rfl
theorem F70.tab:T.get none (.of 70) tbl=some F70:=by kernel_rfl
theorem F70.go:zO tbl N C (.of 70) [a0,a1,a2] h nx K0 =
 vw a0 h nx fun v1 h2 n3=>vw a1 h2 n3 fun v4 h5 n6=>C.fn 66 (.of 66) [a2,(.fn 131 (.of 131) [v1,v4])] h5 n6 fun v7 h8 n9=>C.fn 44 (.of 44) [v7,(I 3)] h8 n9 fun vA hA nA=>K0 vA hA nA:=by
 rw [zF F70.tab];kernel_rfl
theorem oU.tab:T.get none (.of 131) tbl=some oU:=by kernel_rfl
theorem oU.go:zO tbl N C (.of 131) [a0,a1,a2] h nx K0 =
 zB a1 h fun v1=>zf .lss .int a0 v1 fun v2=>sG v2 false (fun k=>k a0) fun v3=>sG v2 false (fun k=>zB a2 h k) fun v4=>sG v2 false (fun k=>zf .gtr .int v3 v4 k) fun v5=>jC v2 (.bool true) v5 fun v6=>K0 v6 h nx:=by
 rw [zF oU.tab];kernel_rfl
theorem F66.tab:T.get none (.of 66) tbl=some F66:=by kernel_rfl
theorem F66.go:zO tbl N C (.of 66) [a0,a1] h nx K0 =
 C.fn 127 (.of 127) [a0,a1] h nx fun v1 h2 n3=>zf .geq .int v1 (I 0) fun v4=>K0 v4 h2 n3:=by
 rw [zF F66.tab];kernel_rfl
theorem gq.wu (X2:IR) (O:yu Prop) (t:T AV):IR.run (gq.g1 X2) C N O K t h nx=IR.run X2 C N (O.blk 0 K) K t h nx:=by kernel_rfl
theorem gq.tab:T.get none (.of 127) tbl=some gq:=by kernel_rfl
theorem gq.go:zO tbl N C (.of 127) [a0,a1] h nx K0 =
 sLen a0 fun v1=>IR.run gq.b1 C N (fnO gq.res K0) (IR.run gq.b8 C N (fnO gq.res K0) (ji gq.res K0)) (gq.fr a0 a1 (I 0) .undef v1 (I 0) .undef .undef) h nx:=by
 rw [zF gq.tab];kernel_rfl
theorem gq.L1 (Inv:Nat->AV->T Blk->Pa->Prop) {m:Nat} (hm:m<N) (hi:Inv m i h nx)
  (step:∀ (m:Nat) (z2 z3 z5 z6 z7:AV) (h:T Blk) (nx:Pa) (R:Ks Prop),Inv m z5 h nx->(∀ (m':Nat) (w2 w3 w5 w6 w7:AV) (h':T Blk) (nx':Pa),m'<m->Inv m' w5 h' nx'->R (gq.fr b a w2 w3 e w5 w6 w7) h' nx'=.ok True) ->
   (zf .lss .int z5 e fun v1=>zX v1 (zS 1 b z5 fun v2=>zB v2 h fun v3=>u6 C a [v3] h nx fun v4 h5 n6=>zX v4 (K0 z5 h5 n6) (zf .add .int z5 (I 1) fun v7=>R (gq.fr b a z2 z5 e v7 v1 v4) h5 n6)) (K (gq.fr b a z2 z3 e z5 v1 z7) h nx))=.ok True) :
  IR.run gq.b1 C N (fnO gq.res K0) K (gq.fr b a c d e i l o) h nx=.ok True:=by
 rw [gq.b1,gq.wu,gq.b2];refine yG (fun m tm h nx=>∃ z2 z3 z5 z6 z7,tm=(gq.fr b a z2 z3 e z5 z6 z7)/\Inv m z5 h nx) ?_ hm ⟨_,_,_,_,_,rfl,hi⟩;rintro m tm h nx R ⟨z2,z3,z5,z6,z7,rfl,hi⟩ hR;refine Eq.trans ?_ (step m z2 z3 z5 z6 z7 h nx R hi fun m' w2 w3 w5 w6 w7 h' nx' hlt hi'=>hR m' _ h' nx' hlt ⟨_,_,_,_,_,rfl,hi'⟩)
 kernel_rfl
theorem gq.k8:IR.run gq.b8 C N (fnO gq.res K0) K (gq.fr b a c d e i l o) h nx =
 K0 (I (-1)) h nx:=by kernel_rfl
theorem F73.eG (X3:IR) (O:yu Prop) (t:T AV):IR.run (F73.g2 X3) C N O K t h nx=IR.run X3 C N (O.blk 0 K) K t h nx:=by kernel_rfl
theorem F73.tab:T.get none (.of 73) tbl=some F73:=by kernel_rfl
theorem F73.go:zO tbl N C (.of 73) [a0] h nx K0 =
 vw a0 h nx fun v1 h2 n3=>zJ 0 v1 fun v4=>zB v4 h2 fun v5=>zJ 1 v1 fun v6=>zB v6 h2 fun v7=>sLen v7 fun v8=>zf .gtr .int v8 (I 128) fun v9=>yS 1 1 [(I 0)] [(0,1,v5)] h2 n3 fun vA hA nA=>(zf .gtr .int v8 (I 128) fun vB=>zH vB v9 ((sLen v7 fun vC=>zH vC v8 ((zB v6 hA fun vD=>zH vD v7 ((zJ 1 v1 fun vE=>zH vE v6 (C.fn 70 (.of 70) [(I 1),(I 256),vA] hA nA fun vG hB nB=>(zf .gtr .int v8 (I 128) fun vH=>zH vH v9 ((sLen v7 fun vI=>zH vI v8 ((zB v6 hB fun vJ=>zH vJ v7 ((zJ 1 v1 fun vK=>zH vK v6 (C.fn 44 (.of 44) [v9,(I 5)] hB nB fun vL hC nC=>yS 1 2 [(I 0)] [(0,1,vG),(1,1,vL)] hC nC fun vM hD nD=>C.fn 42 (.of 42) [vM] hD nD fun vN hE nE=>zf .neq .int vN (I 0) fun vO=>zX vO (K0 vN hE nE) (zJ 1 v1 fun vP=>zB vP hE fun vQ=>sLen vQ fun vR=>IR.run F73.b2 C N (fnO F73.res K0) (IR.run F73.b9 C N (fnO F73.res K0) (ji F73.res K0)) (F73.fr a0 v1 (I 0) vN .undef .undef vO vR (I 0) .undef .undef) hE nE))))))))))))))))):=by
 rw [zF F73.tab];kernel_rfl
theorem F73.L2 (Inv:Nat->AV->T Blk->Pa->Prop) {m:Nat} (hm:m<N) (hi:Inv m q h nx)
  (step:∀ (m:Nat) (z2 z4 z5 z8 z9 zC:AV) (h:T Blk) (nx:Pa) (R:Ks Prop),Inv m z8 h nx->(∀ (m':Nat) (w2 w4 w5 w8 w9 wA:AV) (h':T Blk) (nx':Pa),m'<m->Inv m' w8 h' nx'->R (F73.fr b a w2 d w4 w5 l o w8 w9 wA) h' nx'=.ok True) ->
   (zf .lss .int z8 o fun v1=>zX v1 (zN 2 a h fun v2=>C.fn 136 (.of 136) [v2,z8] h nx fun v3 h4 n5=>zf .neq .int v3 (I 0) fun v6=>zX v6 (K0 v3 h4 n5) (zf .add .int z8 (I 1) fun v7=>R (F73.fr b a z2 d z8 v3 l o v7 v1 v6) h4 n5)) (K (F73.fr b a z2 d z4 z5 l o z8 v1 zC) h nx))=.ok True) :
  IR.run F73.b2 C N (fnO F73.res K0) K (F73.fr b a c d e i l o q s f) h nx=.ok True:=by
 rw [F73.b2,F73.eG,F73.b3];refine yG (fun m tm h nx=>∃ z2 z4 z5 z8 z9 zC,tm=(F73.fr b a z2 d z4 z5 l o z8 z9 zC)/\Inv m z8 h nx) ?_ hm ⟨_,_,_,_,_,_,rfl,hi⟩;rintro m tm h nx R ⟨z2,z4,z5,z8,z9,zC,rfl,hi⟩ hR;refine Eq.trans ?_ (step m z2 z4 z5 z8 z9 zC h nx R hi fun m' w2 w4 w5 w8 w9 wA h' nx' hlt hi'=>hR m' _ h' nx' hlt ⟨_,_,_,_,_,_,rfl,hi'⟩)
 kernel_rfl
theorem F73.k9:IR.run F73.b9 C N (fnO F73.res K0) K (F73.fr b a c d e i l o q s f) h nx =
 K0 (I 0) h nx:=by kernel_rfl
theorem jo.eG (X3:IR) (O:yu Prop) (t:T AV):IR.run (jo.g2 X3) C N O K t h nx=IR.run X3 C N (O.blk 0 K) K t h nx:=by kernel_rfl
theorem jo.tab:T.get none (.of 136) tbl=some jo:=by kernel_rfl
theorem jo.go:zO tbl N C (.of 136) [a0,a1] h nx K0 =
 vw a0 h nx fun v1 h2 n3=>zJ 1 v1 fun v4=>zB v4 h2 fun v5=>zS 1 v5 a1 fun v6=>zB v6 h2 fun v7=>yJ [.zh] h2 n3 fun v8 h9 nF=>zQ 1 v8 v7 h9 nF fun vS hF nG=>zB v8 hF fun vT=>sLen vT fun vU=>zf .eql .int vU (I 0) fun vL=>zX vL (K0 (I 12) hF nG) (zB v8 hF fun vV=>sLen vV fun vW=>IR.run jo.b2 C N (fnO jo.res K0) (IR.run jo.b9 C N (fnO jo.res K0) (ji jo.res K0)) (jo.fr a0 a1 v1 (I 0) v8 .undef .undef .undef vL vV vW (I 0) .undef .undef) hF nG):=by
 rw [zF jo.tab];kernel_rfl
theorem jo.L2 (Inv:Nat->AV->T Blk->Pa->Prop) {m:Nat} (hm:m<N) (hi:Inv m p h nx)
  (step:∀ (m:Nat) (z3 z5 z6 z7 zD zE zG:AV) (h:T Blk) (nx:Pa) (R:Ks Prop),Inv m zD h nx->(∀ (m':Nat) (w3 w5 w6 w7 wB wC wD:AV) (h':T Blk) (nx':Pa),m'<m->Inv m' wB h' nx'->R (jo.fr b a c w3 e w5 w6 w7 q s f wB wC wD) h' nx'=.ok True) ->
   (zf .lss .int zD f fun v1=>zX v1 (zS 1 s zD fun v2=>zB v2 h fun v3=>zf .lss .int v3 (I 0) fun v4=>sG v4 false (fun k=>k v3) fun v5=>sG v4 false (fun k=>zJ 0 c k) fun v6=>sG v4 false (fun k=>zB v6 h k) fun v7=>sG v4 false (fun k=>zf .geq .int v5 v7 k) fun v8=>jC v4 (.bool true) v8 fun v9=>C.fn 44 (.of 44) [v9,(I 10)] h nx fun vA hA nA=>zf .gtr .int zD (I 0) fun vG=>sG vG true (fun k=>zB e hA k) fun vT=>sG vG true (fun k=>k zD) fun vU=>sG vG true (fun k=>zf .sub .int vU (I 1) k) fun vL=>sG vG true (fun k=>zS 1 vT vL k) fun vV=>sG vG true (fun k=>zB vV hA k) fun vW=>sG vG true (fun k=>k v3) fun vM=>sG vG true (fun k=>zf .geq .int vW vM k) fun vX=>jC vG vX (.bool false) fun vY=>C.fn 44 (.of 44) [vY,(I 11)] hA nA fun vN hE nE=>yS 1 2 [(I 0)] [(0,1,vA),(1,1,vN)] hE nE fun vO hG nH=>C.fn 42 (.of 42) [vO] hG nH fun vR hH nI=>zf .neq .int vR (I 0) fun vI=>zX vI (K0 vR hH nI) (zf .add .int zD (I 1) fun vH=>R (jo.fr b a c z3 e zD v3 vR q s f vH v1 vI) hH nI)) (K (jo.fr b a c z3 e z5 z6 z7 q s f zD v1 zG) h nx))=.ok True) :
  IR.run jo.b2 C N (fnO jo.res K0) K (jo.fr b a c d e i l o q s f p u v) h nx=.ok True:=by
 rw [jo.b2,jo.eG,jo.b3];refine yG (fun m tm h nx=>∃ z3 z5 z6 z7 zD zE zG,tm=(jo.fr b a c z3 e z5 z6 z7 q s f zD zE zG)/\Inv m zD h nx) ?_ hm ⟨_,_,_,_,_,_,_,rfl,hi⟩;rintro m tm h nx R ⟨z3,z5,z6,z7,zD,zE,zG,rfl,hi⟩ hR;refine Eq.trans ?_ (step m z3 z5 z6 z7 zD zE zG h nx R hi fun m' w3 w5 w6 w7 wB wC wD h' nx' hlt hi'=>hR m' _ h' nx' hlt ⟨_,_,_,_,_,_,_,rfl,hi'⟩)
 kernel_rfl
theorem jo.k9:IR.run jo.b9 C N (fnO jo.res K0) K (jo.fr b a c d e i l o q s f p u v) h nx =
 zJ 1 c fun v1=>zB v1 h fun v2=>vF 1 v2 none (some a) none fun v3=>C.fn 196 (.of 196) [v3,(.fn 197 (.of 197) [e])] h nx fun v4 h5 n6=>C.fn 44 (.of 44) [v4,(I 9)] h5 n6 fun v7 h8 n9=>K0 v7 h8 n9:=by kernel_rfl
theorem oV.tab:T.get none (.of 102) tbl=some oV:=by kernel_rfl
theorem oV.go:zO tbl N C (.of 102) [a0] h nx K0 =
 vw a0 h nx fun v1 h2 n3=>K0 (.fn 169 (.of 169) [v1]) h2 n3:=by
 rw [zF oV.tab];kernel_rfl
theorem oW.tab:T.get none (.of 101) tbl=some oW:=by kernel_rfl
theorem oW.go:zO tbl N C (.of 101) [a0] h nx K0 =
 C.fn 168 (.of 168) [a0] h nx fun v1 h2 n3=>C.fn 138 (.of 138) [v1] h2 n3 fun v4 h5 n6=>K0 v1 h5 n6:=by
 rw [zF oW.tab];kernel_rfl
theorem oZ.tab:T.get none (.of 168) tbl=some oZ:=by kernel_rfl
theorem oZ.go:zO tbl N C (.of 168) [a0] h nx K0 =
 C.fn 221 (.of 221) [.zh,a0] h nx fun v1 h2 n3=>K0 v1 h2 n3:=by
 rw [zF oZ.tab];kernel_rfl
theorem wz.wu (X2:IR) (O:yu Prop) (t:T AV):IR.run (wz.g1 X2) C N O K t h nx=IR.run X2 C N (O.blk 0 K) K t h nx:=by kernel_rfl
theorem wz.tab:T.get none (.of 169) tbl=some wz:=by kernel_rfl
theorem wz.go:zO tbl N C (.of 169) [a0,a1] h nx K0 =
 zB a1 h fun v1=>sLen v1 fun v2=>IR.run wz.b1 C N (fnO wz.res K0) (ji wz.res K0) (wz.fr a0 a1 .undef v1 v2 (I 0) .undef .undef) h nx:=by
 rw [zF wz.tab];kernel_rfl
theorem wz.L1 (Inv:Nat->AV->T Blk->Pa->Prop) {m:Nat} (hm:m<N) (hi:Inv m i h nx)
  (step:∀ (m:Nat) (z2 z5 z6 z7:AV) (h:T Blk) (nx:Pa) (R:Ks Prop),Inv m z5 h nx->(∀ (m':Nat) (w2 w5 w6 w7:AV) (h':T Blk) (nx':Pa),m'<m->Inv m' w5 h' nx'->R (wz.fr b a w2 d e w5 w6 w7) h' nx'=.ok True) ->
   (zf .lss .int z5 e fun v1=>zX v1 (zS 1 d z5 fun v2=>zB v2 h fun v3=>u6 C b [v3] h nx fun v4 h5 n6=>sNot v4 fun v7=>zX v7 (K0 (.tup []) h5 n6) (zf .add .int z5 (I 1) fun v8=>R (wz.fr b a v3 d e v8 v1 v7) h5 n6)) (K (wz.fr b a z2 d e z5 v1 z7) h nx))=.ok True) :
  IR.run wz.b1 C N (fnO wz.res K0) K (wz.fr b a c d e i l o) h nx=.ok True:=by
 rw [wz.b1,wz.wu,wz.b2];refine yG (fun m tm h nx=>∃ z2 z5 z6 z7,tm=(wz.fr b a z2 d e z5 z6 z7)/\Inv m z5 h nx) ?_ hm ⟨_,_,_,_,rfl,hi⟩;rintro m tm h nx R ⟨z2,z5,z6,z7,rfl,hi⟩ hR;refine Eq.trans ?_ (step m z2 z5 z6 z7 h nx R hi fun m' w2 w5 w6 w7 h' nx' hlt hi'=>hR m' _ h' nx' hlt ⟨_,_,_,_,rfl,hi'⟩)
 kernel_rfl
theorem qc.tab:T.get none (.of 221) tbl=some qc:=by kernel_rfl
theorem qc.go:zO tbl N C (.of 221) [a0,a1] h nx K0 =
 vw a0 h nx fun v1 h2 n3=>IR.run (.rf (.t (.of 5)) [(.of 6)] qc.b3 qc.b4) C N ((fnO qc.res K0).blk 0 (IR.run qc.b6 C N (fnO qc.res K0) (ji qc.res K0))) (IR.run qc.b6 C N (fnO qc.res K0) (ji qc.res K0)) (qc.fr a0 a1 v1 .zh .undef a1 .undef) h2 n3:=by
 rw [zF qc.tab];kernel_rfl
theorem qc.k6:IR.run qc.b6 C N (fnO qc.res K0) K (qc.fr b a c d e i l) h nx =
 zB c h fun v1=>K0 v1 h nx:=by kernel_rfl
theorem qc.y4 {N:Nat} {C:Calls Prop} {K0:Kw Prop} {id nx:Pa} {j:Jump} {h h1:T Blk} {b a c d e i l z0:AV} (hl:T.get .no id h=.loop .ready j (qc.fr b a c d e i l) [.of 6] qc.b3 qc.b4) (he:h1=T.set .no (.loop .busy j (qc.fr b a c d e i l) [.of 6] qc.b3 qc.b4) id h) :
 kI N C id [z0] h nx K0 =
 zB c h1 fun v1=>yS 1 1 [(I 0)] [(0,1,z0)] h1 nx fun v2 h3 n4=>tC 1 8 v1 v2 h3 n4 fun v5 h6 n7=>zQ 1 c v5 h6 n7 fun v8 h9 nF=>yZ id K0 .none true .e h9 nF:=by
 subst he;rw [zuy hl (tm1:=(qc.fr b a c d e i z0)) (tm2:=(qc.fr b a c d z0 i z0)) (by intro k;kernel_rfl) (by intro O K h nx;kernel_rfl)];kernel_rfl
theorem jm.wu (X2:IR) (O:yu Prop) (t:T AV):IR.run (jm.g1 X2) C N O K t h nx=IR.run X2 C N (O.blk 0 K) K t h nx:=by kernel_rfl
theorem jm.tab:T.get none (.of 161) tbl=some jm:=by kernel_rfl
theorem jm.go:zO tbl N C (.of 161) [a0,a1] h nx K0 =
 sLen a0 fun v1=>IR.run jm.b1 C N (fnO jm.res K0) (IR.run jm.b9 C N (fnO jm.res K0) (ji jm.res K0)) (jm.fr a0 a1 (I 0) .undef .undef .undef .undef a0 v1 (I 0) .undef .undef .undef .undef) h nx:=by
 rw [zF jm.tab];kernel_rfl
theorem jm.L1 (Inv:Nat->AV->T Blk->Pa->Prop) {m:Nat} (hm:m<N) (hi:Inv m s h nx)
  (step:∀ (m:Nat) (z2 z3 z4 z5 z6 z9 zC zD zE:AV) (h:T Blk) (nx:Pa) (R:Ks Prop),Inv m z9 h nx->(∀ (m':Nat) (w2 w3 w4 w5 w6 w9 wA wB wC:AV) (h':T Blk) (nx':Pa),m'<m->Inv m' w9 h' nx'->R (jm.fr b a w2 w3 w4 w5 w6 o q w9 wA wB wC v) h' nx'=.ok True) ->
   (zf .lss .int z9 q fun v1=>zX v1 (zS 1 o z9 fun v2=>zB v2 h fun v3=>sLen a fun v4=>zf .geq .int z9 v4 fun v5=>zX v5 (K0 (I 1) h nx) (zS 1 a z9 fun v6=>zB v6 h fun v7=>C.fn 217 (.of 217) [v3,v7] h nx fun v8 h9 nF=>zf .neq .int v8 (I 0) fun vS=>zX vS (K0 v8 h9 nF) (zf .add .int z9 (I 1) fun vZ=>R (jm.fr b a z2 z9 v3 v7 v8 o q vZ v1 v5 vS v) h9 nF))) (K (jm.fr b a z2 z3 z4 z5 z6 o q z9 v1 zD zE v) h nx))=.ok True) :
  IR.run jm.b1 C N (fnO jm.res K0) K (jm.fr b a c d e i l o q s f p u v) h nx=.ok True:=by
 rw [jm.b1,jm.wu,jm.b2];refine yG (fun m tm h nx=>∃ z2 z3 z4 z5 z6 z9 zC zD zE,tm=(jm.fr b a z2 z3 z4 z5 z6 o q z9 zC zD zE v)/\Inv m z9 h nx) ?_ hm ⟨_,_,_,_,_,_,_,_,_,rfl,hi⟩;rintro m tm h nx R ⟨z2,z3,z4,z5,z6,z9,zC,zD,zE,rfl,hi⟩ hR;refine Eq.trans ?_ (step m z2 z3 z4 z5 z6 z9 zC zD zE h nx R hi fun m' w2 w3 w4 w5 w6 w9 wA wB wC h' nx' hlt hi'=>hR m' _ h' nx' hlt ⟨_,_,_,_,_,_,_,_,_,rfl,hi'⟩)
 kernel_rfl
theorem jm.k9:IR.run jm.b9 C N (fnO jm.res K0) K (jm.fr b a c d e i l o q s f p u v) h nx =
 sLen b fun v1=>sLen a fun v2=>zf .lss .int v1 v2 fun v3=>zX v3 (K0 (I (-1)) h nx) (K0 (I 0) h nx):=by kernel_rfl
theorem rU.tab:T.get none (.of 217) tbl=some rU:=by kernel_rfl
theorem rU.go:zO tbl N C (.of 217) [a0,a1] h nx K0 =
 C.fn 261 (.of 261) [a0] h nx fun v1 h2 n3=>C.fn 261 (.of 261) [a1] h2 n3 fun v4 h5 n6=>zX v1 (zX v4 (K0 (I 0) h5 n6) (K0 (I (-1)) h5 n6)) (zX v4 (K0 (I 1) h5 n6) (zf .lss .int a0 a1 fun v7=>zX v7 (K0 (I (-1)) h5 n6) (zf .gtr .int a0 a1 fun v8=>zX v8 (K0 (I 1) h5 n6) (K0 (I 0) h5 n6)))):=by
 rw [zF rU.tab];kernel_rfl
theorem o7.tab:T.get none (.of 261) tbl=some o7:=by kernel_rfl
theorem o7.go:zO tbl N C (.of 261) [a0] h nx K0 =
 zf .neq .int a0 a0 fun v1=>K0 v1 h nx:=by
 rw [zF o7.tab];kernel_rfl
theorem F84.tab:T.get none (.of 84) tbl=some F84:=by kernel_rfl
theorem F84.go:zO tbl N C (.of 84) [a0,a1] h nx K0 =
 C.fn 143 (.of 143) [a0,a1] h nx fun v1 h2 n3=>fC 0 v1 fun v4=>fC 1 v1 fun v5=>fC 2 v1 fun v6=>K0 v6 h2 n3:=by
 rw [zF F84.tab];kernel_rfl
theorem ug.wu (X2:IR) (O:yu Prop) (t:T AV):IR.run (ug.g1 X2) C N O K t h nx=IR.run X2 C N (O.blk 0 K) K t h nx:=by kernel_rfl
theorem ug.tab:T.get none (.of 199) tbl=some ug:=by kernel_rfl
theorem ug.go:zO tbl N C (.of 199) [a0,a1] h nx K0 =
 sLen a0 fun v1=>IR.run ug.b1 C N (fnO ug.res K0) (IR.run ug.b8 C N (fnO ug.res K0) (ji ug.res K0)) (ug.fr a0 a1 (I 0) .undef .undef a0 v1 (I 0) .undef .undef) h nx:=by
 rw [zF ug.tab];kernel_rfl
theorem ug.L1 (Inv:Nat->AV->T Blk->Pa->Prop) {m:Nat} (hm:m<N) (hi:Inv m o h nx)
  (step:∀ (m:Nat) (z2 z3 z4 z7 z8 z9:AV) (h:T Blk) (nx:Pa) (R:Ks Prop),Inv m z7 h nx->(∀ (m':Nat) (w2 w3 w4 w7 w8 w9:AV) (h':T Blk) (nx':Pa),m'<m->Inv m' w7 h' nx'->R (ug.fr b a w2 w3 w4 i l w7 w8 w9) h' nx'=.ok True) ->
   (zf .lss .int z7 l fun v1=>zX v1 (zS 2 i z7 fun v2=>zN 2 v2 h fun v3=>yJ [.zh,(.bool false)] h nx fun v4 h5 n6=>zQ 2 v4 v3 h5 n6 fun v7 h8 n9=>zN 2 v4 h8 fun vA=>C.fn 64 (.of 64) [vA,a] h8 n9 fun vS hF nG=>zf .neq .int vS (I 0) fun vT=>zX vT (K0 vS hF nG) (zf .add .int z7 (I 1) fun vU=>R (ug.fr b a z2 v4 vS i l vU v1 vT) hF nG)) (K (ug.fr b a z2 z3 z4 i l z7 v1 z9) h nx))=.ok True) :
  IR.run ug.b1 C N (fnO ug.res K0) K (ug.fr b a c d e i l o q s) h nx=.ok True:=by
 rw [ug.b1,ug.wu,ug.b2];refine yG (fun m tm h nx=>∃ z2 z3 z4 z7 z8 z9,tm=(ug.fr b a z2 z3 z4 i l z7 z8 z9)/\Inv m z7 h nx) ?_ hm ⟨_,_,_,_,_,_,rfl,hi⟩;rintro m tm h nx R ⟨z2,z3,z4,z7,z8,z9,rfl,hi⟩ hR;refine Eq.trans ?_ (step m z2 z3 z4 z7 z8 z9 h nx R hi fun m' w2 w3 w4 w7 w8 w9 h' nx' hlt hi'=>hR m' _ h' nx' hlt ⟨_,_,_,_,_,_,rfl,hi'⟩)
 kernel_rfl
theorem ug.k8:IR.run ug.b8 C N (fnO ug.res K0) K (ug.fr b a c d e i l o q s) h nx =
 K0 (I 0) h nx:=by kernel_rfl
theorem F86.tab:T.get none (.of 86) tbl=some F86:=by kernel_rfl
theorem F86.go:zO tbl N C (.of 86) [a0] h nx K0 =
 vw a0 h nx fun v1 h2 n3=>K0 (.fn 144 (.of 144) [v1]) h2 n3:=by
 rw [zF F86.tab];kernel_rfl
theorem rW.tab:T.get none (.of 114) tbl=some rW:=by kernel_rfl
theorem rW.go:zO tbl N C (.of 114) [a0,a1] h nx K0 =
 vw a0 h nx fun v1 h2 n3=>vw a1 h2 n3 fun v4 h5 n6=>zJ 0 v1 fun v7=>zB v7 h5 fun v8=>zJ 0 v4 fun v9=>zB v9 h5 fun vA=>C.fn 161 (.of 161) [v8,vA] h5 n6 fun vS hF nG=>zf .neq .int vS (I 0) fun vT=>sG vT false (fun k=>zJ 1 v1 k) fun vU=>sG vT false (fun k=>zB vU hF k) fun vL=>sG vT false (fun k=>zJ 1 v4 k) fun vV=>sG vT false (fun k=>zB vV hF k) fun vW=>sG vT false (fun k=>zf .eql .bool vL vW k) fun vM=>jC vT (.bool true) vM fun vX=>zX vX (K0 vS hF nG) ((IR.run rW.b1 C N (fnO rW.res K0) (ji rW.res K0)) (rW.fr a0 a1 v1 v4 (I 0) vS vX .undef) hF nG):=by
 rw [zF rW.tab];kernel_rfl
theorem rW.k1:IR.run rW.b1 C N (fnO rW.res K0) K (rW.fr b a c d e i l o) h nx =
 zJ 1 c fun v1=>zB v1 h fun v2=>zX v2 (K0 (I 1) h nx) (K0 (I (-1)) h nx):=by kernel_rfl
theorem F64.tab:T.get none (.of 64) tbl=some F64:=by kernel_rfl
theorem F64.go:zO tbl N C (.of 64) [a0,a1] h nx K0 =
 vw a0 h nx fun v1 h2 n3=>zJ 0 v1 fun v4=>zB v4 h2 fun v5=>sLen v5 fun v6=>zf .neq .int v6 a1 fun v7=>zJ 0 v1 fun v8=>zB v8 h2 fun v9=>C.fn 125 (.of 125) [a1] h2 n3 fun vA hA nA=>(zB v8 hA fun vB=>zH vB v9 ((zJ 0 v1 fun vC=>zH vC v8 ((zf .neq .int v6 a1 fun vD=>zH vD v7 (zH a1 a1 ((sLen v5 fun vE=>zH vE v6 ((zB v4 hA fun vH=>zH vH v5 ((zJ 0 v1 fun vI=>zH vI v4 (C.fn 76 (.of 76) [v7,(I 2)] hA nA fun vG hB nB=>(zB v8 hB fun vJ=>zH vJ v9 ((zJ 0 v1 fun vK=>zH vK v8 (C.fn 126 (.of 126) [v9] hB nB fun vL hC nC=>sNot vL fun vM=>C.fn 76 (.of 76) [vM,(I 14)] hC nC fun vX hI nJ=>yS 1 3 [(I 0)] [(0,1,vA),(1,1,vG),(2,1,vX)] hI nJ fun v23 hJ nK=>C.fn 72 (.of 72) [v23] hJ nK fun vP hK nL=>K0 vP hK nL))))))))))))))))):=by
 rw [zF F64.tab];kernel_rfl
theorem xg.wu (X2:IR) (O:yu Prop) (t:T AV):IR.run (xg.g1 X2) C N O K t h nx=IR.run X2 C N (O.blk 0 K) K t h nx:=by kernel_rfl
theorem xg.tab:T.get none (.of 144) tbl=some xg:=by kernel_rfl
theorem xg.go:zO tbl N C (.of 144) [a0,a1] h nx K0 =
 zB a1 h fun v1=>sLen v1 fun v2=>IR.run xg.b1 C N (fnO xg.res K0) (ji xg.res K0) (xg.fr a0 a1 .undef .undef v1 v2 (I 0) .undef .undef) h nx:=by
 rw [zF xg.tab];kernel_rfl
theorem xg.L1 (Inv:Nat->AV->T Blk->Pa->Prop) {m:Nat} (hm:m<N) (hi:Inv m l h nx)
  (step:∀ (m:Nat) (z2 z3 z6 z7 z8:AV) (h:T Blk) (nx:Pa) (R:Ks Prop),Inv m z6 h nx->(∀ (m':Nat) (w2 w3 w6 w7 w8:AV) (h':T Blk) (nx':Pa),m'<m->Inv m' w6 h' nx'->R (xg.fr b a w2 w3 e i w6 w7 w8) h' nx'=.ok True) ->
   (zf .lss .int z6 i fun v1=>zX v1 (zS 2 e z6 fun v2=>zN 2 v2 h fun v3=>yJ [.zh,(.bool false)] h nx fun v4 h5 n6=>zQ 2 v4 v3 h5 n6 fun v7 h8 n9=>zN 2 v4 h8 fun vA=>u6 C b [z6,vA] h8 n9 fun vS hF nG=>sNot vS fun vT=>zX vT (K0 (.tup []) hF nG) (zf .add .int z6 (I 1) fun vU=>R (xg.fr b a z6 v4 e i vU v1 vT) hF nG)) (K (xg.fr b a z2 z3 e i z6 v1 z8) h nx))=.ok True) :
  IR.run xg.b1 C N (fnO xg.res K0) K (xg.fr b a c d e i l o q) h nx=.ok True:=by
 rw [xg.b1,xg.wu,xg.b2];refine yG (fun m tm h nx=>∃ z2 z3 z6 z7 z8,tm=(xg.fr b a z2 z3 e i z6 z7 z8)/\Inv m z6 h nx) ?_ hm ⟨_,_,_,_,_,rfl,hi⟩;rintro m tm h nx R ⟨z2,z3,z6,z7,z8,rfl,hi⟩ hR;refine Eq.trans ?_ (step m z2 z3 z6 z7 z8 h nx R hi fun m' w2 w3 w6 w7 w8 h' nx' hlt hi'=>hR m' _ h' nx' hlt ⟨_,_,_,_,_,rfl,hi'⟩)
 kernel_rfl
theorem uh.wu (X2:IR) (O:yu Prop) (t:T AV):IR.run (uh.g1 X2) C N O K t h nx=IR.run X2 C N (O.blk 0 K) K t h nx:=by kernel_rfl
theorem uh.tab:T.get none (.of 248) tbl=some uh:=by kernel_rfl
theorem uh.go:zO tbl N C (.of 248) [a0] h nx K0 =
 yJ [.zh,(.bool false)] h nx fun v1 h2 n3=>uF 1 8 [(I 0)] a0 a0 h2 n3 fun v4 h5 n6=>y9 [.zh,(.bool false)] [(0,1,v4)] fun v7=>yJ [.zh,(.bool false)] h5 n6 fun v8 h9 nF=>zQ 2 v8 v7 h9 nF fun vS hF nG=>zJ 0 v8 fun vT=>zB vT hF fun vU=>sLen vU fun vL=>IR.run uh.b1 C N (fnO uh.res K0) (IR.run uh.b8 C N (fnO uh.res K0) (ji uh.res K0)) (uh.fr a0 v1 v8 .undef vL (I 0) .undef) hF nG:=by
 rw [zF uh.tab];kernel_rfl
theorem uh.L1 (Inv:Nat->AV->T Blk->Pa->Prop) {m:Nat} (hm:m<N) (hi:Inv m i h nx)
  (step:∀ (m:Nat) (z3 z5 z6:AV) (h:T Blk) (nx:Pa) (R:Ks Prop),Inv m z5 h nx->(∀ (m':Nat) (w3 w5 w6:AV) (h':T Blk) (nx':Pa),m'<m->Inv m' w5 h' nx'->R (uh.fr b a c w3 e w5 w6) h' nx'=.ok True) ->
   (zf .lss .int z5 e fun v1=>zX v1 (zJ 0 c fun v2=>zB v2 h fun v3=>zS 1 v3 z5 fun v4=>zQ 1 v4 z5 h nx fun v5 h6 n7=>zf .add .int z5 (I 1) fun v8=>R (uh.fr b a c z5 e v8 v1) h6 n7) (K (uh.fr b a c z3 e z5 v1) h nx))=.ok True) :
  IR.run uh.b1 C N (fnO uh.res K0) K (uh.fr b a c d e i l) h nx=.ok True:=by
 rw [uh.b1,uh.wu,uh.b2];refine yG (fun m tm h nx=>∃ z3 z5 z6,tm=(uh.fr b a c z3 e z5 z6)/\Inv m z5 h nx) ?_ hm ⟨_,_,_,rfl,hi⟩;rintro m tm h nx R ⟨z3,z5,z6,rfl,hi⟩ hR;refine Eq.trans ?_ (step m z3 z5 z6 h nx R hi fun m' w3 w5 w6 h' nx' hlt hi'=>hR m' _ h' nx' hlt ⟨_,_,_,rfl,hi'⟩)
 kernel_rfl
theorem uh.k8:IR.run uh.b8 C N (fnO uh.res K0) K (uh.fr b a c d e i l) h nx =
 zN 2 c h fun v1=>zQ 2 a v1 h nx fun v2 h3 n4=>zN 2 a h3 fun v5=>K0 v5 h3 n4:=by kernel_rfl
theorem jv.wu (X2:IR) (O:yu Prop) (t:T AV):IR.run (jv.g1 X2) C N O K t h nx=IR.run X2 C N (O.blk 0 K) K t h nx:=by kernel_rfl
theorem jv.tab:T.get none (.of 112) tbl=some jv:=by kernel_rfl
theorem jv.go:zO tbl N C (.of 112) [a0] h nx K0 =
 vw a0 h nx fun v1 h2 n3=>zJ 0 v1 fun v4=>zB v4 h2 fun v5=>sLen v5 fun v6=>zf .add .int v6 (I 1) fun v7=>uF 1 1 [(.int .u8 0)] (I 0) v7 h2 n3 fun v8 h9 nF=>zJ 0 v1 fun vS=>zB vS h9 fun vZ=>sLen vZ fun vG=>IR.run jv.b1 C N (fnO jv.res K0) (IR.run jv.b8 C N (fnO jv.res K0) (ji jv.res K0)) (jv.fr a0 v1 (.str []) v8 .undef vZ vG (I 0) .undef .undef) h9 nF:=by
 rw [zF jv.tab];kernel_rfl
theorem jv.L1 (Inv:Nat->AV->AV->T Blk->Pa->Prop) {m:Nat} (hm:m<N) (hi:Inv m d o h nx)
  (step:∀ (m:Nat) (z3 z4 z7 z8:AV) (h:T Blk) (nx:Pa) (R:Ks Prop),Inv m z3 z7 h nx->(∀ (m':Nat) (w3 w4 w7 w8:AV) (h':T Blk) (nx':Pa),m'<m->Inv m' w3 w7 h' nx'->R (jv.fr b a c w3 w4 i l w7 w8 s) h' nx'=.ok True) ->
   (zf .lss .int z7 l fun v1=>zX v1 (zS 1 i z7 fun v2=>zB v2 h fun v3=>kL .u8 v3 fun v4=>yS 1 1 [(.int .u8 0)] [(0,1,v4)] h nx fun v5 h6 n7=>tC 1 1 z3 v5 h6 n7 fun v8 h9 nF=>zf .add .int z7 (I 1) fun vS=>R (jv.fr b a c v8 v3 i l vS v1 s) h9 nF) (K (jv.fr b a c z3 z4 i l z7 v1 s) h nx))=.ok True) :
  IR.run jv.b1 C N (fnO jv.res K0) K (jv.fr b a c d e i l o q s) h nx=.ok True:=by
 rw [jv.b1,jv.wu,jv.b2];refine yG (fun m tm h nx=>∃ z3 z4 z7 z8,tm=(jv.fr b a c z3 z4 i l z7 z8 s)/\Inv m z3 z7 h nx) ?_ hm ⟨_,_,_,_,rfl,hi⟩;rintro m tm h nx R ⟨z3,z4,z7,z8,rfl,hi⟩ hR;refine Eq.trans ?_ (step m z3 z4 z7 z8 h nx R hi fun m' w3 w4 w7 w8 h' nx' hlt hi'=>hR m' _ h' nx' hlt ⟨_,_,_,_,rfl,hi'⟩)
 kernel_rfl
theorem jv.k8:IR.run jv.b8 C N (fnO jv.res K0) K (jv.fr b a c d e i l o q s) h nx =
 zJ 1 a fun v1=>zB v1 h fun v2=>zX v2 (yS 1 1 [(.int .u8 0)] [(0,1,(.int .u8 1))] h nx fun v3 h4 n5=>tC 1 1 d v3 h4 n5 fun v6 h7 n8=>sB2s v6 h7 fun v9=>K0 v9 h7 n8) (sB2s d h fun vA=>K0 vA h nx):=by kernel_rfl
theorem o8.tab:T.get none (.of 249) tbl=some o8:=by kernel_rfl
theorem o8.go:zO tbl N C (.of 249) [a0,a1] h nx K0 =
 vw a1 h nx fun v1 h2 n3=>zN 2 v1 h2 fun v4=>C.fn 112 (.of 112) [v4] h2 n3 fun v5 h6 n7=>zex .str (.agg [.zh,(.bool false)]) true a0 v5 h6 fun v8=>fC 0 v8 fun v9=>fC 1 v8 fun vA=>yJ [.zh,(.bool false)] h6 n7 fun vS hF nG=>zQ 2 vS v9 hF nG fun vT hL nM=>K0 vA hL nM:=by
 rw [zF o8.tab];kernel_rfl
theorem uj.wu (X2:IR) (O:yu Prop) (t:T AV):IR.run (uj.g1 X2) C N O K t h nx=IR.run X2 C N (O.blk 0 K) K t h nx:=by kernel_rfl
theorem uj.tab:T.get none (.of 250) tbl=some uj:=by kernel_rfl
theorem uj.go:zO tbl N C (.of 250) [a0,a1] h nx K0 =
 vw a0 h nx fun v1 h2 n3=>vw a1 h2 n3 fun v4 h5 n6=>yJ [.zh,(.bool false)] h5 n6 fun v7 h8 n9=>sChk (true&&true) (zJ 0 v4 fun vA=>zB vA h8 fun vS=>sLen vS fun vZ=>sChk (mkSl 8 vZ vZ&&true) (zJ 1 v1 fun vG=>zB vG h8 fun vT=>zJ 1 v4 fun vU=>zB vU h8 fun vL=>zf .neq .bool vT vL fun vV=>uF 1 8 [(I 0)] vZ vZ h8 n9 fun vW hM nN=>(zf .neq .bool vT vL fun v47=>zH v47 vV ((zB vU hM fun v46=>zH v46 vL ((zJ 1 v4 fun v45=>zH v45 vU ((zB vG hM fun v44=>zH v44 vT ((zJ 1 v1 fun v43=>zH v43 vG ((sLen vS fun v42=>zH v42 vZ ((zB vA hM fun v41=>zH v41 vS ((zJ 0 v4 fun v40=>zH v40 vA (y9 [.zh,(.bool false)] [(0,1,vW),(1,1,vV)] fun vY=>yJ [.zh,(.bool false)] hM nN fun vN hE nE=>(y9 [.zh,(.bool false)] [(0,1,vW),(1,1,vV)] fun v39=>zH v39 vY ((zf .neq .bool vT vL fun v38=>zH v38 vV ((zB vU hE fun v37=>zH v37 vL ((zJ 1 v4 fun vB=>zH vB vU ((zB vG hE fun vC=>zH vC vT ((zJ 1 v1 fun vD=>zH vD vG ((sLen vS fun vE=>zH vE vZ ((zB vA hE fun vH=>zH vH vS ((zJ 0 v4 fun vI=>zH vI vA (zQ 2 vN vY hE nE fun vO hG nH=>zJ 0 v4 fun vR=>zB vR hG fun vK=>sLen vK fun vJ=>IR.run uj.b1 C N (fnO uj.res K0) (IR.run uj.b8 C N (fnO uj.res K0) (ji uj.res K0)) (uj.fr a0 a1 v1 v4 v7 vN .undef .undef vK vJ (I 0) .undef) hG nH)))))))))))))))))))))))))))))))))))):=by
 rw [zF uj.tab];kernel_rfl
theorem uj.L1 (Inv:Nat->AV->T Blk->Pa->Prop) {m:Nat} (hm:m<N) (hi:Inv m f h nx)
  (step:∀ (m:Nat) (z6 z7 zC zD:AV) (h:T Blk) (nx:Pa) (R:Ks Prop),Inv m zC h nx->(∀ (m':Nat) (w6 w7 wA wB:AV) (h':T Blk) (nx':Pa),m'<m->Inv m' wA h' nx'->R (uj.fr b a c d e i w6 w7 q s wA wB) h' nx'=.ok True) ->
   (zf .lss .int zC s fun v1=>zX v1 (zS 1 q zC fun v2=>zB v2 h fun v3=>zJ 0 i fun v4=>zB v4 h fun v5=>zJ 0 c fun v6=>zB v6 h fun v7=>zS 1 v7 v3 fun v8=>zB v8 h fun v9=>zS 1 v5 zC fun vA=>zQ 1 vA v9 h nx fun vS hF nG=>zf .add .int zC (I 1) fun vT=>R (uj.fr b a c d e i zC v3 q s vT v1) hF nG) (K (uj.fr b a c d e i z6 z7 q s zC v1) h nx))=.ok True) :
  IR.run uj.b1 C N (fnO uj.res K0) K (uj.fr b a c d e i l o q s f p) h nx=.ok True:=by
 rw [uj.b1,uj.wu,uj.b2];refine yG (fun m tm h nx=>∃ z6 z7 zC zD,tm=(uj.fr b a c d e i z6 z7 q s zC zD)/\Inv m zC h nx) ?_ hm ⟨_,_,_,_,rfl,hi⟩;rintro m tm h nx R ⟨z6,z7,zC,zD,rfl,hi⟩ hR;refine Eq.trans ?_ (step m z6 z7 zC zD h nx R hi fun m' w6 w7 wA wB h' nx' hlt hi'=>hR m' _ h' nx' hlt ⟨_,_,_,_,rfl,hi'⟩)
 kernel_rfl
theorem uj.k8:IR.run uj.b8 C N (fnO uj.res K0) K (uj.fr b a c d e i l o q s f p) h nx =
 zN 2 i h fun v1=>zQ 2 e v1 h nx fun v2 h3 n4=>zN 2 e h3 fun v5=>K0 v5 h3 n4:=by kernel_rfl
theorem o9.tab:T.get none (.of 126) tbl=some o9:=by kernel_rfl
theorem o9.go:zO tbl N C (.of 126) [a0] h nx K0 =
 C.fn 187 (.of 187) [a0] h nx fun v1 h2 n3=>zf .eql .int v1 (I 0) fun v4=>K0 v4 h2 n3:=by
 rw [zF o9.tab];kernel_rfl
theorem jg.eG (X3:IR) (O:yu Prop) (t:T AV):IR.run (jg.g2 X3) C N O K t h nx=IR.run X3 C N (O.blk 0 K) K t h nx:=by kernel_rfl
theorem jg.tab:T.get none (.of 187) tbl=some jg:=by kernel_rfl
theorem jg.go:zO tbl N C (.of 187) [a0] h nx K0 =
 sLen a0 fun v1=>zf .gtr .int v1 (I 256) fun v2=>zX v2 (K0 (I 5) h nx) (sLen a0 fun v3=>uF 1 1 [(.bool false)] v3 v3 h nx fun v4 h5 n6=>sLen a0 fun v7=>IR.run jg.b2 C N (fnO jg.res K0) (IR.run jg.b10 C N (fnO jg.res K0) (ji jg.res K0)) (jg.fr a0 (I 0) v4 .undef v2 a0 v7 (I 0) .undef .undef) h5 n6):=by
 rw [zF jg.tab];kernel_rfl
theorem jg.L2 (Inv:Nat->AV->T Blk->Pa->Prop) {m:Nat} (hm:m<N) (hi:Inv m o h nx)
  (step:∀ (m:Nat) (z1 z3 z7 z8 z9:AV) (h:T Blk) (nx:Pa) (R:Ks Prop),Inv m z7 h nx->(∀ (m':Nat) (w1 w3 w7 w8 w9:AV) (h':T Blk) (nx':Pa),m'<m->Inv m' w7 h' nx'->R (jg.fr b w1 c w3 e i l w7 w8 w9) h' nx'=.ok True) ->
   (zf .lss .int z7 l fun v1=>zX v1 (zS 1 i z7 fun v2=>zB v2 h fun v3=>zf .lss .int v3 (I 0) fun v4=>sG v4 false (fun k=>k v3) fun v5=>sG v4 false (fun k=>k b) fun v6=>sG v4 false (fun k=>sLen v6 k) fun v7=>sG v4 false (fun k=>zf .geq .int v5 v7 k) fun v8=>jC v4 (.bool true) v8 fun v9=>sG v9 false (fun k=>k c) fun vA=>sG v9 false (fun k=>k v3) fun vS=>sG v9 false (fun k=>zS 1 vA vS k) fun vZ=>sG v9 false (fun k=>zB vZ h k) fun vG=>jC v9 (.bool true) vG fun vT=>zX vT (K0 (I 14) h nx) ((IR.run jg.b8 C N (((fnO jg.res K0).blk 0 K).blk 1 (IR.run jg.b9 C N ((fnO jg.res K0).blk 0 K) R)) (IR.run jg.b9 C N ((fnO jg.res K0).blk 0 K) R)) (jg.fr b z1 c v3 e i l z7 v1 vT) h nx)) (K (jg.fr b z1 c z3 e i l z7 v1 z9) h nx))=.ok True) :
  IR.run jg.b2 C N (fnO jg.res K0) K (jg.fr b a c d e i l o q s) h nx=.ok True:=by
 rw [jg.b2,jg.eG,jg.b3];refine yG (fun m tm h nx=>∃ z1 z3 z7 z8 z9,tm=(jg.fr b z1 c z3 e i l z7 z8 z9)/\Inv m z7 h nx) ?_ hm ⟨_,_,_,_,_,rfl,hi⟩;rintro m tm h nx R ⟨z1,z3,z7,z8,z9,rfl,hi⟩ hR;refine Eq.trans ?_ (step m z1 z3 z7 z8 z9 h nx R hi fun m' w1 w3 w7 w8 w9 h' nx' hlt hi'=>hR m' _ h' nx' hlt ⟨_,_,_,_,_,rfl,hi'⟩)
 kernel_rfl
theorem jg.k10:IR.run jg.b10 C N (fnO jg.res K0) K (jg.fr b a c d e i l o q s) h nx =
 K0 (I 0) h nx:=by kernel_rfl
theorem jg.k9 {E0:Ks Prop}:IR.run jg.b9 C N ((fnO jg.res K0).blk 0 E0) K (jg.fr b a c d e i l o q s) h nx =
 zf .add .int o (I 1) fun v1=>K (jg.fr b a c d e i l v1 q s) h nx:=by kernel_rfl
theorem jg.k8 {E0 E1:Ks Prop}:IR.run jg.b8 C N (((fnO jg.res K0).blk 0 E0).blk 1 E1) K (jg.fr b a c d e i l o q s) h nx =
 zS 1 c d fun v1=>zQ 1 v1 (.bool true) h nx fun v2 h3 n4=>K (jg.fr b a c d e i l o q s) h3 n4:=by kernel_rfl
theorem F72.wu (X2:IR) (O:yu Prop) (t:T AV):IR.run (F72.g1 X2) C N O K t h nx=IR.run X2 C N (O.blk 0 K) K t h nx:=by kernel_rfl
theorem F72.tab:T.get none (.of 72) tbl=some F72:=by kernel_rfl
theorem F72.go:zO tbl N C (.of 72) [a0] h nx K0 =
 sLen a0 fun v1=>IR.run F72.b1 C N (fnO F72.res K0) (IR.run F72.b8 C N (fnO F72.res K0) (ji F72.res K0)) (F72.fr a0 (I 0) .undef a0 v1 (I 0) .undef .undef) h nx:=by
 rw [zF F72.tab];kernel_rfl
theorem F72.L1 (Inv:Nat->AV->T Blk->Pa->Prop) {m:Nat} (hm:m<N) (hi:Inv m i h nx)
  (step:∀ (m:Nat) (z1 z2 z5 z6 z7:AV) (h:T Blk) (nx:Pa) (R:Ks Prop),Inv m z5 h nx->(∀ (m':Nat) (w1 w2 w5 w6 w7:AV) (h':T Blk) (nx':Pa),m'<m->Inv m' w5 h' nx'->R (F72.fr b w1 w2 d e w5 w6 w7) h' nx'=.ok True) ->
   (zf .lss .int z5 e fun v1=>zX v1 (zS 1 d z5 fun v2=>zB v2 h fun v3=>zf .neq .int v3 (I 0) fun v4=>zX v4 (K0 v3 h nx) (zf .add .int z5 (I 1) fun v5=>R (F72.fr b z1 v3 d e v5 v1 v4) h nx)) (K (F72.fr b z1 z2 d e z5 v1 z7) h nx))=.ok True) :
  IR.run F72.b1 C N (fnO F72.res K0) K (F72.fr b a c d e i l o) h nx=.ok True:=by
 rw [F72.b1,F72.wu,F72.b2];refine yG (fun m tm h nx=>∃ z1 z2 z5 z6 z7,tm=(F72.fr b z1 z2 d e z5 z6 z7)/\Inv m z5 h nx) ?_ hm ⟨_,_,_,_,_,rfl,hi⟩;rintro m tm h nx R ⟨z1,z2,z5,z6,z7,rfl,hi⟩ hR;refine Eq.trans ?_ (step m z1 z2 z5 z6 z7 h nx R hi fun m' w1 w2 w5 w6 w7 h' nx' hlt hi'=>hR m' _ h' nx' hlt ⟨_,_,_,_,_,rfl,hi'⟩)
 kernel_rfl
theorem F72.k8:IR.run F72.b8 C N (fnO F72.res K0) K (F72.fr b a c d e i l o) h nx =
 K0 (I 0) h nx:=by kernel_rfl
theorem F125.tab:T.get none (.of 125) tbl=some F125:=by kernel_rfl
theorem F125.go:zO tbl N C (.of 125) [a0] h nx K0 =
 zf .lss .int a0 (I 0) fun v1=>sG v1 false (fun k=>k a0) fun v2=>sG v1 false (fun k=>zf .gtr .int v2 (I 256) k) fun v3=>jC v1 (.bool true) v3 fun v4=>C.fn 76 (.of 76) [v4,(I 3)] h nx fun v5 h6 n7=>K0 v5 h6 n7:=by
 rw [zF F125.tab];kernel_rfl
theorem F76.tab:T.get none (.of 76) tbl=some F76:=by kernel_rfl
theorem F76.go:zO tbl N C (.of 76) [a0,a1] h nx K0 =
 zX a0 (K0 a1 h nx) (K0 (I 0) h nx):=by
 rw [zF F76.tab];kernel_rfl
theorem zo.zuz (X14:IR) (O:yu Prop) (t:T AV):IR.run (zo.g13 X14) C N O K t h nx=IR.run X14 C N (O.blk 4 K) K t h nx:=by kernel_rfl
theorem zo.zey (X8:IR) (O:yu Prop) (t:T AV):IR.run (zo.g7 X8) C N O K t h nx=IR.run X8 C N (O.blk 2 K) K t h nx:=by kernel_rfl
theorem zo.tab:T.get none (.of 200) tbl=some zo:=by kernel_rfl
theorem zo.go:zO tbl N C (.of 200) [a0,a1,a2] h nx K0 =
 vw a2 h nx fun v1 h2 n3=>yJ [.qj] h2 n3 fun v4 h5 n6=>yJ [.zh] h5 n6 fun v7 h8 n9=>yJ [(.bool false)] h8 n9 fun vA hA nA=>C.fn 248 (.of 248) [a1] hA nA fun vG hB nB=>yJ [.zh,(.bool false)] hB nB fun vL hC nC=>zQ 2 vL vG hC nC fun vM hD nD=>sChk (true&&(true&&true)) (zN 2 vL hD fun vN=>zN 2 vL hD fun v23=>C.fn 112 (.of 112) [vN] hD nD fun v24 hN nO=>(zN 2 vL hN fun v52=>zH v52 v23 ((zN 2 vL hN fun v51=>zH v51 vN (d6 hN nO fun vQ hO nP=>(zN 2 vL hO fun v50=>zH v50 v23 ((zN 2 vL hO fun v49=>zH v49 vN (xP .str vQ v24 v23 hO nP fun vJ hP nQ=>(zN 2 vL hP fun v48=>zH v48 v23 ((zN 2 vL hP fun v47=>zH v47 vN (yJ [.qj] hP nQ fun vE hQ nR=>zH vQ vQ ((zN 2 vL hQ fun v46=>zH v46 v23 ((zN 2 vL hQ fun v45=>zH v45 vN (zQ 1 vE vQ hQ nR fun vB hS nS=>yJ [.zh] hS nS fun v39 hT nT=>C.fn 86 (.of 86) [a0] hT nT fun v42 hU nU=>IR.run (.rf (.t (.of 14)) [(.of 15),(.of 16)] zo.b3 zo.b4) C N ((fnO zo.res K0).blk 0 (IR.run zo.b23 C N (fnO zo.res K0) (ji zo.res K0))) (IR.run zo.b23 C N (fnO zo.res K0) (ji zo.res K0)) (zo.fr a0 a1 a2 v1 v4 v7 vA vL vE v39 .undef .undef .undef .undef v42 .undef .undef .undef .undef .undef .undef .undef .undef .undef .undef) hU nU)))))))))))))))))):=by
 rw [zF zo.tab];kernel_rfl
theorem zo.k23:IR.run zo.b23 C N (fnO zo.res K0) K (zo.fr b a c d e i l o q s f p u v w y E z D F G H L M P) h nx =
 zB q h fun v1=>zB s h fun v2=>zQ 1 e v1 h nx fun v3 h4 n5=>(zB s h4 fun vU=>zH vU v2 (zQ 1 i v2 h4 n5 fun v6 h7 n8=>zQ 1 l (.bool true) h7 n8 fun v9 hV nV=>zB e hV fun vZ=>zB i hV fun vG=>zB l hV fun vT=>K0 (.tup [vZ,vG,vT]) hV nV)):=by kernel_rfl
theorem zo.p4 {N:Nat} {C:Calls Prop} {K0:Kw Prop} {id nx:Pa} {j:Jump} {h:T Blk} {b a c d e i l o q s f p u v w y E z D F G H L M P z0 z1:AV} (hl:T.get .no id h=.loop .ready j (zo.fr b a c d e i l o q s f p u v w y E z D F G H L M P) [.of 15,.of 16] zo.b3 zo.b4) :
 kI N C id [z0,z1] h nx K0 =
 yJ [.zh,(.bool false)] h nx fun v1 h2 n3=>zQ 2 v1 z1 h2 n3 fun v4 h5 n6=>rMid N C id K0 zo.b4 (zo.fr b a c d e i l o q s v1 p u v w z0 z1 z D F G H L M P) h5 n6:=by
 rw [zjb hl (tm1:=(zo.fr b a c d e i l o q s f p u v w z0 z1 z D F G H L M P)) (by intro k;kernel_rfl)];kernel_rfl
theorem zo.y4 {N:Nat} {C:Calls Prop} {K0:Kw Prop} {id nx:Pa} {h:T Blk} {b a c d e i l o q s f p u v w y E z D F G H L M P:AV} :
 IR.run zo.b4 C N (rO id K0) (yZ id K0 .none true) (zo.fr b a c d e i l o q s f p u v w y E z D F G H L M P) h nx =
 zB q h fun v1=>zN 2 f h fun v2=>C.fn 249 (.of 249) [v1,v2] h nx fun v3 h4 n5=>zX v3 (yZ id K0 .none true .e h4 n5) (zB s h4 fun v6=>zN 2 f h4 fun v7=>yS 2 1 [.zh,(.bool false)] [(0,2,v7)] h4 n5 fun v8 h9 nF=>pX C 2 32 v6 v8 h9 nF fun vS hF nG=>zQ 1 s vS hF nG fun vT hL nM=>sChk (true&&true) (zN 2 o hL fun vV=>zN 2 o hL fun vW=>C.fn 112 (.of 112) [vV] hL nM fun vM hD nD=>(zN 2 o hD fun v38=>zH v38 vW ((zN 2 o hD fun v37=>zH v37 vV (d6 hD nD fun vN hE nE=>(zN 2 o hE fun vB=>zH vB vW ((zN 2 o hE fun vC=>zH vC vV (xP .str vN vM vW hE nE fun vO hG nH=>zQ 1 q vN hG nH fun vR hH nI=>zN 2 o hH fun vI=>yS 2 1 [.zh,(.bool false)] [(0,2,vI)] hH nI fun vH hW nW=>IR.run zo.b7 C N ((rO id K0).blk 1 (yZ id K0 .none true)) (yZ id K0 .none true) (zo.fr b a c d e i l o q s f vH u v w y E v3 D F G H L M P) hW nW)))))))))):=by kernel_rfl
theorem zo.L7 {id:Pa} {E1:Ks Prop} (Inv:Nat->AV->T Blk->Pa->Prop) {m:Nat} (hm:m<N) (hi:Inv m p h nx)
  (step:∀ (m:Nat) (zD zE zG zI zK zL zM zP zR zT:AV) (h:T Blk) (nx:Pa) (R:Ks Prop),Inv m zD h nx->(∀ (m':Nat) (wB wC wD wE wF wG wH wI wJ wK:AV) (h':T Blk) (nx':Pa),m'<m->Inv m' wB h' nx'->R (zo.fr b a c d e i l o q s f wB wC wD w y E z wE wF wG wH wI wJ wK) h' nx'=.ok True) ->
   (sLen zD fun v1=>zf .gtr .int v1 (I 0) fun v2=>zX v2 (zB s h fun v3=>sLen v3 fun v4=>IR.run zo.b13 C N ((((rO id K0).blk 1 E1).blk 2 K).blk 3 (IR.run zo.b22 C N (((rO id K0).blk 1 E1).blk 2 K) R)) (IR.run zo.b22 C N (((rO id K0).blk 1 E1).blk 2 K) R) (zo.fr b a c d e i l o q s f zD zE zG w y E z v2 v3 v4 (I 0) zP zR zT) h nx) (K (zo.fr b a c d e i l o q s f zD zE zG w y E z v2 zK zL zM zP zR zT) h nx))=.ok True) :
  IR.run zo.b7 C N ((rO id K0).blk 1 E1) K (zo.fr b a c d e i l o q s f p u v w y E z D F G H L M P) h nx=.ok True:=by
 rw [zo.b7,zo.zey,zo.b8];refine yG (fun m tm h nx=>∃ zD zE zG zI zK zL zM zP zR zT,tm=(zo.fr b a c d e i l o q s f zD zE zG w y E z zI zK zL zM zP zR zT)/\Inv m zD h nx) ?_ hm ⟨_,_,_,_,_,_,_,_,_,_,rfl,hi⟩;rintro m tm h nx R ⟨zD,zE,zG,zI,zK,zL,zM,zP,zR,zT,rfl,hi⟩ hR;refine Eq.trans ?_ (step m zD zE zG zI zK zL zM zP zR zT h nx R hi fun m' wB wC wD wE wF wG wH wI wJ wK h' nx' hlt hi'=>hR m' _ h' nx' hlt ⟨_,_,_,_,_,_,_,_,_,_,rfl,hi'⟩)
 kernel_rfl
theorem zo.k22 {id:Pa} {E1 E2:Ks Prop}:IR.run zo.b22 C N (((rO id K0).blk 1 E1).blk 2 E2) K (zo.fr b a c d e i l o q s f p u v w y E z D F G H L M P) h nx =
 vF 2 p (some (I 1)) none none fun v1=>K (zo.fr b a c d e i l o q s f v1 u v w y E z D F G H L M P) h nx:=by kernel_rfl
theorem zo.L13 {id:Pa} {E1 E2 E3:Ks Prop} (Inv:Nat->AV->AV->T Blk->Pa->Prop) {m:Nat} (hm:m<N) (hi:Inv m p H h nx)
  (step:∀ (m:Nat) (zD zE zG zM zP zR zT:AV) (h:T Blk) (nx:Pa) (R:Ks Prop),Inv m zD zM h nx->(∀ (m':Nat) (wB wC wD wH wI wJ wK:AV) (h':T Blk) (nx':Pa),m'<m->Inv m' wB wH h' nx'->R (zo.fr b a c d e i l o q s f wB wC wD w y E z D F G wH wI wJ wK) h' nx'=.ok True) ->
   (zf .lss .int zM G fun v1=>zX v1 (zS 2 F zM fun v2=>zN 2 v2 h fun v3=>yJ [.zh,(.bool false)] h nx fun v4 h5 n6=>zQ 2 v4 v3 h5 n6 fun v7 h8 n9=>sChk (true&&true) (zN 2 v4 h8 fun vA=>zS 2 zD (I 0) fun vS=>zN 2 vS h8 fun vZ=>C.fn 250 (.of 250) [vA,vZ] h8 n9 fun vG hB nB=>(zN 2 vS hB fun v65=>zH v65 vZ ((zS 2 zD (I 0) fun v64=>zH v64 vS (zH zD zD ((zN 2 v4 hB fun v63=>zH v63 vA (yJ [.zh,(.bool false)] hB nB fun vL hC nC=>(zN 2 vS hC fun v62=>zH v62 vZ ((zS 2 zD (I 0) fun v61=>zH v61 vS (zH zD zD ((zN 2 v4 hC fun v60=>zH v60 vA (zQ 2 vL vG hC nC fun vM hD nD=>zB q hD fun vN=>zN 2 vL hD fun v23=>C.fn 249 (.of 249) [vN,v23] hD nD fun v24 hN nO=>zX v24 (zf .add .int zM (I 1) fun vQ=>R (zo.fr b a c d e i l o q s f zD v4 vL w y E z D F G vQ v1 v24 zT) hN nO) (zB q hN fun vR=>zjc vR hN fun vK=>zB d hN fun vJ=>zf .eql .int vK vJ fun vI=>zX vI (zQ 1 e .qj hN nO fun vH hW nW=>zQ 1 i .zh hW nW fun vC hX nX=>zQ 1 l (.bool false) hX nX fun v38 hY nY=>yZ id K0 .ret false .e hY nY) (zB q hN fun v41=>zN 2 vL hN fun v42=>zN 2 vL hN fun v43=>C.fn 112 (.of 112) [v42] hN nO fun v44 hZ nZ=>(zN 2 vL hZ fun v59=>zH v59 v43 ((zB q hZ fun v58=>zH v58 v41 (xP .str v41 v44 v43 hZ nZ fun v47 h48 n49=>zN 2 vL h48 fun v50=>yS 2 1 [.zh,(.bool false)] [(0,2,v50)] h48 n49 fun v51 h52 n53=>pX C 2 32 zD v51 h52 n53 fun v54 h55 n56=>zf .add .int zM (I 1) fun v57=>R (zo.fr b a c d e i l o q s f v54 v4 vL w y E z D F G v57 v1 v24 vI) h55 n56)))))))))))))))))))))) (K (zo.fr b a c d e i l o q s f zD zE zG w y E z D F G zM v1 zR zT) h nx))=.ok True) :
  IR.run zo.b13 C N ((((rO id K0).blk 1 E1).blk 2 E2).blk 3 E3) K (zo.fr b a c d e i l o q s f p u v w y E z D F G H L M P) h nx=.ok True:=by
 rw [zo.b13,zo.zuz,zo.b14];refine yG (fun m tm h nx=>∃ zD zE zG zM zP zR zT,tm=(zo.fr b a c d e i l o q s f zD zE zG w y E z D F G zM zP zR zT)/\Inv m zD zM h nx) ?_ hm ⟨_,_,_,_,_,_,_,rfl,hi⟩;rintro m tm h nx R ⟨zD,zE,zG,zM,zP,zR,zT,rfl,hi⟩ hR;refine Eq.trans ?_ (step m zD zE zG zM zP zR zT h nx R hi fun m' wB wC wD wH wI wJ wK h' nx' hlt hi'=>hR m' _ h' nx' hlt ⟨_,_,_,_,_,_,_,rfl,hi'⟩)
 kernel_rfl
theorem yx.tab:T.get none (.of 143) tbl=some yx:=by kernel_rfl
theorem yx.go:zO tbl N C (.of 143) [a0,a1] h nx K0 =
 vw a0 h nx fun v1 h2 n3=>yJ [.qj] h2 n3 fun v4 h5 n6=>yJ [.zh] h5 n6 fun v7 h8 n9=>yJ [(I 0)] h8 n9 fun vA hA nA=>zB v1 hA fun vG=>sLen vG fun vT=>zf .eql .int vT (I 0) fun vU=>zB v1 hA fun vL=>sLen vL fun vV=>zf .gtr .int vV (I 1536) fun vW=>C.fn 125 (.of 125) [a1] hA nA fun vM hD nD=>(zf .gtr .int vV (I 1536) fun v76=>zH v76 vW ((sLen vL fun v75=>zH v75 vV ((zB v1 hD fun v74=>zH v74 vL ((zf .eql .int vT (I 0) fun v73=>zH v73 vU ((sLen vG fun v72=>zH v72 vT ((zB v1 hD fun v71=>zH v71 vG (C.fn 76 (.of 76) [vU,(I 12)] hD nD fun vN hE nE=>(zf .gtr .int vV (I 1536) fun v70=>zH v70 vW ((sLen vL fun v69=>zH v69 vV ((zB v1 hE fun v68=>zH v68 vL (C.fn 76 (.of 76) [vW,(I 5)] hE nE fun vO hG nH=>yS 1 3 [(I 0)] [(0,1,vM),(1,1,vN),(2,1,vO)] hG nH fun vR hH nI=>C.fn 72 (.of 72) [vR] hH nI fun vI h32 n33=>zf .neq .int vI (I 0) fun vD=>zX vD (zQ 1 v4 .qj h32 n33 fun vC hX nX=>zQ 1 v7 .zh hX nX fun v38 hY nY=>zQ 1 vA vI hY nY fun v41 h42 n43=>zB v4 h42 fun v44=>zB v7 h42 fun v45=>zB vA h42 fun v46=>K0 (.tup [v44,v45,v46]) h42 n43) (zB v1 h32 fun v47=>C.fn 199 (.of 199) [v47,a1] h32 n33 fun v48 h49 n50=>zf .neq .int v48 (I 0) fun v51=>zX v51 (zQ 1 v4 .qj h49 n50 fun v52 h53 n54=>zQ 1 v7 .zh h53 n54 fun v55 h56 n57=>zQ 1 vA v48 h56 n57 fun v58 h59 n60=>zB v4 h59 fun v61=>zB v7 h59 fun v62=>zB vA h59 fun v63=>K0 (.tup [v61,v62,v63]) h59 n60) (zB v1 h49 fun v64=>C.fn 86 (.of 86) [v64] h49 n50 fun v65 h66 n67=>IR.run (.rf (.t (.of 15)) [(.of 16),(.of 17)] yx.b5 yx.b6) C N ((fnO yx.res K0).blk 0 (IR.run yx.b8 C N (fnO yx.res K0) (ji yx.res K0))) (IR.run yx.b8 C N (fnO yx.res K0) (ji yx.res K0)) (yx.fr a0 a1 v1 v4 v7 vA vI v48 .undef .undef .undef .undef .undef vD v51 v65 .undef .undef .undef .undef) h66 n67)))))))))))))))))))):=by
 rw [zF yx.tab];kernel_rfl
theorem yx.k8:IR.run yx.b8 C N (fnO yx.res K0) K (yx.fr b a c d e i l o q s f p u v w y E z D F) h nx =
 zB c h fun v1=>zB c h fun v2=>sLen v2 fun v3=>C.fn 200 (.of 200) [v1,a,v3] h nx fun v4 h5 n6=>fC 0 v4 fun v7=>fC 1 v4 fun v8=>fC 2 v4 fun v9=>sNot v9 fun vA=>sG vA false (fun k=>k v7) fun vS=>sG vA false (fun k=>zjc vS h5 k) fun vZ=>sG vA false (fun k=>zB c h5 k) fun vG=>sG vA false (fun k=>sLen vG k) fun vT=>sG vA false (fun k=>zf .neq .int vZ vT k) fun vU=>jC vA (.bool true) vU fun vL=>zX vL (zQ 1 d .qj h5 n6 fun vV h18 n19=>zQ 1 e .zh h18 n19 fun vX hI nJ=>zQ 1 i (I 28) hI nJ fun v23 hJ nK=>zB d hJ fun vP=>zB e hJ fun vQ=>zB i hJ fun vR=>K0 (.tup [vP,vQ,vR]) hJ nK) ((IR.run yx.b9 C N (fnO yx.res K0) K) (yx.fr b a c d e i l o q s v7 v8 v9 v w y E z D vL) h5 n6):=by kernel_rfl
theorem yx.p6 {N:Nat} {C:Calls Prop} {K0:Kw Prop} {id nx:Pa} {j:Jump} {h:T Blk} {b a c d e i l o q s f p u v w y E z D F z0 z1:AV} (hl:T.get .no id h=.loop .ready j (yx.fr b a c d e i l o q s f p u v w y E z D F) [.of 16,.of 17] yx.b5 yx.b6) :
 kI N C id [z0,z1] h nx K0 =
 yJ [.zh,(.bool false)] h nx fun v1 h2 n3=>zQ 2 v1 z1 h2 n3 fun v4 h5 n6=>rMid N C id K0 yx.b6 (yx.fr b a c d e i l o z0 v1 f p u v w y z0 z1 D F) h5 n6:=by
 rw [zjb hl (tm1:=(yx.fr b a c d e i l o q s f p u v w y z0 z1 D F)) (by intro k;kernel_rfl)];kernel_rfl
theorem yx.y6 {N:Nat} {C:Calls Prop} {K0:Kw Prop} {id nx:Pa} {h:T Blk} {b a c d e i l o q s f p u v w y E z D F:AV} :
 IR.run yx.b6 C N (rO id K0) (yZ id K0 .none true) (yx.fr b a c d e i l o q s f p u v w y E z D F) h nx =
 zf .gtr .int q (I 0) fun v1=>sG v1 true (fun k=>zB c h k) fun v2=>sG v1 true (fun k=>k q) fun v3=>sG v1 true (fun k=>zf .sub .int v3 (I 1) k) fun v4=>sG v1 true (fun k=>zS 2 v2 v4 k) fun v5=>sG v1 true (fun k=>zN 2 v5 h k) fun v6=>sG v1 true (fun k=>zN 2 s h k) fun v7=>sGW v1 true (fun k=>C.fn 114 (.of 114) [v6,v7] h nx k) h nx fun v8 h9 nF=>sG v1 true (fun k=>zf .geq .int v8 (I 0) k) fun vS=>jC v1 vS (.bool false) fun vZ=>zX vZ (zQ 1 d .qj h9 nF fun vG hB nB=>zQ 1 e .zh hB nB fun vL hC nC=>zQ 1 i (I 11) hC nC fun vM hD nD=>yZ id K0 .ret false .e hD nD) (yZ id K0 .none true .e h9 nF):=by kernel_rfl
theorem yx.k9:IR.run yx.b9 C N (fnO yx.res K0) K (yx.fr b a c d e i l o q s f p u v w y E z D F) h nx =
 zQ 1 d f h nx fun v1 h2 n3=>zQ 1 e p h2 n3 fun v4 h5 n6=>zQ 1 i (I 0) h5 n6 fun v7 h8 n9=>zB d h8 fun vA=>zB e h8 fun vS=>zB i h8 fun vZ=>K0 (.tup [vA,vS,vZ]) h8 n9:=by kernel_rfl
theorem F60.wu (X2:IR) (O:yu Prop) (t:T AV):IR.run (F60.g1 X2) C N O K t h nx=IR.run X2 C N (O.blk 0 K) K t h nx:=by kernel_rfl
theorem F60.zey (X8:IR) (O:yu Prop) (t:T AV):IR.run (F60.g7 X8) C N O K t h nx=IR.run X8 C N (O.blk 2 K) K t h nx:=by kernel_rfl
theorem F60.tab:T.get none (.of 60) tbl=some F60:=by kernel_rfl
theorem F60.go:zO tbl N C (.of 60) [a0] h nx K0 =
 zg9 a0 h nx fun v1 h2 n3=>IR.run F60.b1 C N (fnO F60.res K0) (IR.run F60.b6 C N (fnO F60.res K0) (ji F60.res K0)) (F60.fr a0 .zh .zh .undef .undef .undef v1 .undef .undef .undef .undef .undef) h2 n3:=by
 rw [zF F60.tab];kernel_rfl
theorem F60.L1 (Inv:Nat->AV->T Blk->Pa->Prop) {m:Nat} (hm:m<N) (hi:Inv m c h nx)
  (step:∀ (m:Nat) (z2 z3 z7:AV) (h:T Blk) (nx:Pa) (R:Ks Prop),Inv m z2 h nx->(∀ (m':Nat) (w2 w3 w7:AV) (h':T Blk) (nx':Pa),m'<m->Inv m' w2 h' nx'->R (F60.fr b a w2 w3 e i l w7 q s f p) h' nx'=.ok True) ->
   (zml C l h nx fun v1 h2 n3=>fC 0 v1 fun v4=>zX v4 (zha l h2 fun v5=>fC 1 v5 fun v6=>yJ [.zh,(.bool false)] h2 n3 fun v7 h8 n9=>zQ 2 v7 v6 h8 n9 fun vA hA nA=>zN 2 v7 hA fun vG=>yS 2 1 [.zh,(.bool false)] [(0,2,vG)] hA nA fun vT hL nM=>pX C 2 32 z2 vT hL nM fun vV h18 n19=>R (F60.fr b a vV v7 e i l v4 q s f p) h18 n19) (K (F60.fr b a z2 z3 e i l v4 q s f p) h2 n3))=.ok True) :
  IR.run F60.b1 C N (fnO F60.res K0) K (F60.fr b a c d e i l o q s f p) h nx=.ok True:=by
 rw [F60.b1,F60.wu,F60.b2];refine yG (fun m tm h nx=>∃ z2 z3 z7,tm=(F60.fr b a z2 z3 e i l z7 q s f p)/\Inv m z2 h nx) ?_ hm ⟨_,_,_,rfl,hi⟩;rintro m tm h nx R ⟨z2,z3,z7,rfl,hi⟩ hR;refine Eq.trans ?_ (step m z2 z3 z7 h nx R hi fun m' w2 w3 w7 h' nx' hlt hi'=>hR m' _ h' nx' hlt ⟨_,_,_,rfl,hi'⟩)
 kernel_rfl
theorem F60.k6:IR.run F60.b6 C N (fnO F60.res K0) K (F60.fr b a c d e i l o q s f p) h nx =
 C.fn 113 (.of 113) [c,(.fn 114 (.of 114) [])] h nx fun v1 h2 n3=>sLen c fun v4=>IR.run F60.b7 C N (fnO F60.res K0) (IR.run F60.b14 C N (fnO F60.res K0) K) (F60.fr b a c d .zh i l o c v4 (I 0) p) h2 n3:=by kernel_rfl
theorem F60.L7 (Inv:Nat->AV->AV->T Blk->Pa->Prop) {m:Nat} (hm:m<N) (hi:Inv m e f h nx)
  (step:∀ (m:Nat) (z4 z5 zC zD:AV) (h:T Blk) (nx:Pa) (R:Ks Prop),Inv m z4 zC h nx->(∀ (m':Nat) (w4 w5 wA wB:AV) (h':T Blk) (nx':Pa),m'<m->Inv m' w4 wA h' nx'->R (F60.fr b a c d w4 w5 l o q s wA wB) h' nx'=.ok True) ->
   (zf .lss .int zC s fun v1=>zX v1 (zS 2 q zC fun v2=>zN 2 v2 h fun v3=>yJ [.zh,(.bool false)] h nx fun v4 h5 n6=>zQ 2 v4 v3 h5 n6 fun v7 h8 n9=>zN 2 v4 h8 fun vA=>yS 2 1 [.zh,(.bool false)] [(0,2,vA)] h8 n9 fun vS hF nG=>pX C 2 32 z4 vS hF nG fun vT hL nM=>zf .add .int zC (I 1) fun vV=>R (F60.fr b a c d vT v4 l o q s vV v1) hL nM) (K (F60.fr b a c d z4 z5 l o q s zC v1) h nx))=.ok True) :
  IR.run F60.b7 C N (fnO F60.res K0) K (F60.fr b a c d e i l o q s f p) h nx=.ok True:=by
 rw [F60.b7,F60.zey,F60.b8];refine yG (fun m tm h nx=>∃ z4 z5 zC zD,tm=(F60.fr b a c d z4 z5 l o q s zC zD)/\Inv m z4 zC h nx) ?_ hm ⟨_,_,_,_,rfl,hi⟩;rintro m tm h nx R ⟨z4,z5,zC,zD,rfl,hi⟩ hR;refine Eq.trans ?_ (step m z4 z5 zC zD h nx R hi fun m' w4 w5 wA wB h' nx' hlt hi'=>hR m' _ h' nx' hlt ⟨_,_,_,_,rfl,hi'⟩)
 kernel_rfl
theorem F60.k14:IR.run F60.b14 C N (fnO F60.res K0) K (F60.fr b a c d e i l o q s f p) h nx =
 K0 e h nx:=by kernel_rfl
theorem F50.wu (X2:IR) (O:yu Prop) (t:T AV):IR.run (F50.g1 X2) C N O K t h nx=IR.run X2 C N (O.blk 0 K) K t h nx:=by kernel_rfl
theorem F50.tab:T.get none (.of 50) tbl=some F50:=by kernel_rfl
theorem F50.go:zO tbl N C (.of 50) [a0] h nx K0 =
 C.fn 102 (.of 102) [a0] h nx fun v1 h2 n3=>C.fn 101 (.of 101) [v1] h2 n3 fun v4 h5 n6=>sLen v4 fun v7=>IR.run F50.b1 C N (fnO F50.res K0) (IR.run F50.b8 C N (fnO F50.res K0) (ji F50.res K0)) (F50.fr a0 (.bool false) .undef .undef v4 v7 (I 0) .undef .undef) h5 n6:=by
 rw [zF F50.tab];kernel_rfl
theorem F50.L1 (Inv:Nat->AV->T Blk->Pa->Prop) {m:Nat} (hm:m<N) (hi:Inv m l h nx)
  (step:∀ (m:Nat) (z1 z2 z3 z6 z7 z8:AV) (h:T Blk) (nx:Pa) (R:Ks Prop),Inv m z6 h nx->(∀ (m':Nat) (w1 w2 w3 w6 w7 w8:AV) (h':T Blk) (nx':Pa),m'<m->Inv m' w6 h' nx'->R (F50.fr b w1 w2 w3 e i w6 w7 w8) h' nx'=.ok True) ->
   (zf .lss .int z6 i fun v1=>zX v1 (zS 1 e z6 fun v2=>zB v2 h fun v3=>zf .add .int z6 (I 1) fun v4=>zf .neq .int v3 v4 fun v5=>zX v5 (K0 (.bool false) h nx) (zf .add .int z6 (I 1) fun v6=>R (F50.fr b z1 z6 v3 e i v6 v1 v5) h nx)) (K (F50.fr b z1 z2 z3 e i z6 v1 z8) h nx))=.ok True) :
  IR.run F50.b1 C N (fnO F50.res K0) K (F50.fr b a c d e i l o q) h nx=.ok True:=by
 rw [F50.b1,F50.wu,F50.b2];refine yG (fun m tm h nx=>∃ z1 z2 z3 z6 z7 z8,tm=(F50.fr b z1 z2 z3 e i z6 z7 z8)/\Inv m z6 h nx) ?_ hm ⟨_,_,_,_,_,_,rfl,hi⟩;rintro m tm h nx R ⟨z1,z2,z3,z6,z7,z8,rfl,hi⟩ hR;refine Eq.trans ?_ (step m z1 z2 z3 z6 z7 z8 h nx R hi fun m' w1 w2 w3 w6 w7 w8 h' nx' hlt hi'=>hR m' _ h' nx' hlt ⟨_,_,_,_,_,_,rfl,hi'⟩)
 kernel_rfl
theorem F50.k8:IR.run F50.b8 C N (fnO F50.res K0) K (F50.fr b a c d e i l o q) h nx =
 K0 (.bool true) h nx:=by kernel_rfl
theorem F109.tab:T.get none (.of 109) tbl=some F109:=by kernel_rfl
theorem F109.go:zO tbl N C (.of 109) [a0] h nx K0 =
 C.fn 70 (.of 70) [(I (-999999999)),(I 999999999),a0] h nx fun v1 h2 n3=>K0 v1 h2 n3:=by
 rw [zF F109.tab];kernel_rfl
theorem F53.wu (X2:IR) (O:yu Prop) (t:T AV):IR.run (F53.g1 X2) C N O K t h nx=IR.run X2 C N (O.blk 0 K) K t h nx:=by kernel_rfl
theorem F53.tab:T.get none (.of 53) tbl=some F53:=by kernel_rfl
theorem F53.go:zO tbl N C (.of 53) [a0] h nx K0 =
 IR.run F53.b1 C N (fnO F53.res K0) (IR.run F53.b8 C N (fnO F53.res K0) (ji F53.res K0)) (F53.fr a0 (I 0) (I 0) .undef .undef) h nx:=by
 rw [zF F53.tab];kernel_rfl
theorem F53.L1 (Inv:Nat->AV->T Blk->Pa->Prop) {m:Nat} (hm:m<N) (hi:Inv m c h nx)
  (step:∀ (m:Nat) (z1 z2 z3 z4:AV) (h:T Blk) (nx:Pa) (R:Ks Prop),Inv m z2 h nx->(∀ (m':Nat) (w1 w2 w3 w4:AV) (h':T Blk) (nx':Pa),m'<m->Inv m' w2 h' nx'->R (F53.fr b w1 w2 w3 w4) h' nx'=.ok True) ->
   (sLen b fun v1=>zf .lss .int z2 v1 fun v2=>zX v2 (zS 1 b z2 fun v3=>zB v3 h fun v4=>zf .lss .int v4 (I (-999999999)) fun v5=>sG v5 false (fun k=>k b) fun v6=>sG v5 false (fun k=>k z2) fun v7=>sG v5 false (fun k=>zS 1 v6 v7 k) fun v8=>sG v5 false (fun k=>zB v8 h k) fun v9=>sG v5 false (fun k=>zf .gtr .int v9 (I 999999999) k) fun vA=>jC v5 (.bool true) vA fun vS=>zX vS (K0 (I 3) h nx) (zf .add .int z2 (I 1) fun vZ=>R (F53.fr b z1 vZ v2 vS) h nx)) (K (F53.fr b z1 z2 v2 z4) h nx))=.ok True) :
  IR.run F53.b1 C N (fnO F53.res K0) K (F53.fr b a c d e) h nx=.ok True:=by
 rw [F53.b1,F53.wu,F53.b2];refine yG (fun m tm h nx=>∃ z1 z2 z3 z4,tm=(F53.fr b z1 z2 z3 z4)/\Inv m z2 h nx) ?_ hm ⟨_,_,_,_,rfl,hi⟩;rintro m tm h nx R ⟨z1,z2,z3,z4,rfl,hi⟩ hR;refine Eq.trans ?_ (step m z1 z2 z3 z4 h nx R hi fun m' w1 w2 w3 w4 h' nx' hlt hi'=>hR m' _ h' nx' hlt ⟨_,_,_,_,rfl,hi'⟩)
 kernel_rfl
theorem F53.k8:IR.run F53.b8 C N (fnO F53.res K0) K (F53.fr b a c d e) h nx =
 K0 (I 0) h nx:=by kernel_rfl
theorem yg.zey (X8:IR) (O:yu Prop) (t:T AV):IR.run (yg.g7 X8) C N O K t h nx=IR.run X8 C N (O.blk 2 K) K t h nx:=by kernel_rfl
theorem yg.wu (X2:IR) (O:yu Prop) (t:T AV):IR.run (yg.g1 X2) C N O K t h nx=IR.run X2 C N (O.blk 0 K) K t h nx:=by kernel_rfl
theorem yg.tab:T.get none (.of 124) tbl=some yg:=by kernel_rfl
theorem yg.go:zO tbl N C (.of 124) [a0,a1] h nx K0 =
 vw a0 h nx fun v1 h2 n3=>yJ [(I 0),.zh] h2 n3 fun v4 h5 n6=>zJ 0 v1 fun v7=>zB v7 h5 fun v8=>C.fn 71 (.of 71) [(.str [109,97,103,105,99]),v8] h5 n6 fun v9 hV nV=>zez 1 none v9 fun vZ=>sLen vZ fun vG=>IR.run yg.b1 C N (fnO yg.res K0) (IR.run yg.b17 C N (fnO yg.res K0) (ji yg.res K0)) (yg.fr a0 a1 v1 (.bool false) v4 .undef .undef .undef .undef vZ vG (I 0) .undef .undef .undef .undef .undef .undef .undef) hV nV:=by
 rw [zF yg.tab];kernel_rfl
theorem yg.L1 (Inv:Nat->AV->T Blk->Pa->Prop) {m:Nat} (hm:m<N) (hi:Inv m p h nx)
  (step:∀ (m:Nat) (z3 z5 z6 z7 z8 zD zE zG zU zV zW zY zI:AV) (h:T Blk) (nx:Pa) (R:Ks Prop),Inv m zD h nx->(∀ (m':Nat) (w3 w5 w6 w7 w8 wB wC wD wL wM wN wO wE:AV) (h':T Blk) (nx':Pa),m'<m->Inv m' wB h' nx'->R (yg.fr b a c w3 e w5 w6 w7 w8 s f wB wC wD wL wM wN wO wE) h' nx'=.ok True) ->
   (zf .lss .int zD f fun v1=>zX v1 (zS 1 s zD fun v2=>zB v2 h fun v3=>C.fn 85 (.of 85) [(I 0)] h nx fun v4 h5 n6=>yJ [(I 0),.zh] h5 n6 fun v7 h8 n9=>zQ 2 v7 v4 h8 n9 fun vA hA nA=>sLen v3 fun vG=>IR.run yg.b7 C N (((fnO yg.res K0).blk 0 K).blk 1 (IR.run yg.b16 C N ((fnO yg.res K0).blk 0 K) R)) (IR.run yg.b14 C N (((fnO yg.res K0).blk 0 K).blk 1 (IR.run yg.b16 C N ((fnO yg.res K0).blk 0 K) R)) (IR.run yg.b16 C N ((fnO yg.res K0).blk 0 K) R)) (yg.fr b a c z3 e zD v3 v7 z8 s f zD v1 v3 vG (I 0) zW zY zI) hA nA) (K (yg.fr b a c z3 e z5 z6 z7 z8 s f zD v1 zG zU zV zW zY zI) h nx))=.ok True) :
  IR.run yg.b1 C N (fnO yg.res K0) K (yg.fr b a c d e i l o q s f p u v w y E z D) h nx=.ok True:=by
 rw [yg.b1,yg.wu,yg.b2];refine yG (fun m tm h nx=>∃ z3 z5 z6 z7 z8 zD zE zG zU zV zW zY zI,tm=(yg.fr b a c z3 e z5 z6 z7 z8 s f zD zE zG zU zV zW zY zI)/\Inv m zD h nx) ?_ hm ⟨_,_,_,_,_,_,_,_,_,_,_,_,_,rfl,hi⟩;rintro m tm h nx R ⟨z3,z5,z6,z7,z8,zD,zE,zG,zU,zV,zW,zY,zI,rfl,hi⟩ hR;refine Eq.trans ?_ (step m z3 z5 z6 z7 z8 zD zE zG zU zV zW zY zI h nx R hi fun m' w3 w5 w6 w7 w8 wB wC wD wL wM wN wO wE h' nx' hlt hi'=>hR m' _ h' nx' hlt ⟨_,_,_,_,_,_,_,_,_,_,_,_,_,rfl,hi'⟩)
 kernel_rfl
theorem yg.k17:IR.run yg.b17 C N (fnO yg.res K0) K (yg.fr b a c d e i l o q s f p u v w y E z D) h nx =
 K0 (.bool true) h nx:=by kernel_rfl
theorem yg.k16 {E0:Ks Prop}:IR.run yg.b16 C N ((fnO yg.res K0).blk 0 E0) K (yg.fr b a c d e i l o q s f p u v w y E z D) h nx =
 zf .add .int p (I 1) fun v1=>K (yg.fr b a c d e i l o q s f v1 u v w y E z D) h nx:=by kernel_rfl
theorem yg.L7 {E0 E1:Ks Prop} (Inv:Nat->AV->T Blk->Pa->Prop) {m:Nat} (hm:m<N) (hi:Inv m y h nx)
  (step:∀ (m:Nat) (z8 zV zW:AV) (h:T Blk) (nx:Pa) (R:Ks Prop),Inv m zV h nx->(∀ (m':Nat) (w8 wM wN:AV) (h':T Blk) (nx':Pa),m'<m->Inv m' wM h' nx'->R (yg.fr b a c d e i l o w8 s f p u v w wM wN z D) h' nx'=.ok True) ->
   (zf .lss .int zV w fun v1=>zX v1 (zS 1 v zV fun v2=>zB v2 h fun v3=>zN 2 o h fun v4=>zJ 1 c fun v5=>zB v5 h fun v6=>zS 1 v6 v3 fun v7=>zB v7 h fun v8=>C.fn 85 (.of 85) [v8] h nx fun v9 hV nV=>zH a a ((zN 2 o hV fun v23=>zH v23 v4 (C.fn 185 (.of 185) [v9,a] hV nV fun vZ h13 n14=>(zN 2 o h13 fun vN=>zH vN v4 (C.fn 87 (.of 87) [v4,vZ] h13 n14 fun vU h16 n17=>zQ 2 o vU h16 n17 fun vW hM nN=>zf .add .int zV (I 1) fun vY=>R (yg.fr b a c d e i l o v3 s f p u v w vY v1 z D) hM nN)))))) (K (yg.fr b a c d e i l o z8 s f p u v w zV v1 z D) h nx))=.ok True) :
  IR.run yg.b7 C N (((fnO yg.res K0).blk 0 E0).blk 1 E1) K (yg.fr b a c d e i l o q s f p u v w y E z D) h nx=.ok True:=by
 rw [yg.b7,yg.zey,yg.b8];refine yG (fun m tm h nx=>∃ z8 zV zW,tm=(yg.fr b a c d e i l o z8 s f p u v w zV zW z D)/\Inv m zV h nx) ?_ hm ⟨_,_,_,rfl,hi⟩;rintro m tm h nx R ⟨z8,zV,zW,rfl,hi⟩ hR;refine Eq.trans ?_ (step m z8 zV zW h nx R hi fun m' w8 wM wN h' nx' hlt hi'=>hR m' _ h' nx' hlt ⟨_,_,_,rfl,hi'⟩)
 kernel_rfl
theorem yg.k14 {E0 E1:Ks Prop}:IR.run yg.b14 C N (((fnO yg.res K0).blk 0 E0).blk 1 E1) K (yg.fr b a c d e i l o q s f p u v w y E z D) h nx =
 zf .eql .int i (I 0) fun v1=>zX v1 (zN 2 o h fun v2=>zQ 2 e v2 h nx fun v3 h4 n5=>(IR.run yg.b15 C N (((fnO yg.res K0).blk 0 E0).blk 1 E1) K) (yg.fr b a c d e i l o q s f p u v w y E v1 D) h4 n5) ((IR.run yg.b15 C N (((fnO yg.res K0).blk 0 E0).blk 1 E1) K) (yg.fr b a c d e i l o q s f p u v w y E v1 D) h nx):=by kernel_rfl
theorem yg.k15 {E0 E1:Ks Prop}:IR.run yg.b15 C N (((fnO yg.res K0).blk 0 E0).blk 1 E1) K (yg.fr b a c d e i l o q s f p u v w y E z D) h nx =
 zN 2 o h fun v1=>zN 2 e h fun v2=>C.fn 186 (.of 186) [v1,v2] h nx fun v3 h4 n5=>zf .neq .int v3 (I 0) fun v6=>zX v6 (K0 (.bool false) h4 n5) (K (yg.fr b a c d e i l o q s f p u v w y E z v6) h4 n5):=by kernel_rfl
theorem F85.tab:T.get none (.of 85) tbl=some F85:=by kernel_rfl
theorem F85.go:zO tbl N C (.of 85) [a0] h nx K0 =
 yJ [(I 0),.zh] h nx fun v1 h2 n3=>y9 [(I 0),.zh] [(0,1,a0)] fun v4=>zQ 2 v1 v4 h2 n3 fun v5 h6 n7=>zN 2 v1 h6 fun v8=>K0 v8 h6 n7:=by
 rw [zF F85.tab];kernel_rfl
theorem F87.tab:T.get none (.of 87) tbl=some F87:=by kernel_rfl
theorem F87.go:zO tbl N C (.of 87) [a0,a1] h nx K0 =
 vw a0 h nx fun v1 h2 n3=>vw a1 h2 n3 fun v4 h5 n6=>yJ [(I 0),.zh] h5 n6 fun v7 h8 n9=>zJ 1 v1 fun vA=>zB vA h8 fun vS=>zf .eql (.nil .sl) vS .zh fun vZ=>sG vZ true (fun k=>zJ 1 v4 k) fun vG=>sG vZ true (fun k=>zB vG h8 k) fun vT=>sG vZ true (fun k=>zf .eql (.nil .sl) vT .zh k) fun vU=>jC vZ vU (.bool false) fun vL=>zX vL (zJ 0 v1 fun vV=>zB vV h8 fun vW=>zJ 0 v4 fun vM=>zB vM h8 fun vX=>zf .add .int vW vX fun vY=>zJ 0 v1 fun vN=>zB vN h8 fun v23=>zf .gtr .int vY v23 fun v24=>zJ 0 v4 fun vO=>zB vO h8 fun vP=>zf .gtr .int vP (I 0) fun vQ=>zf .eql .bool v24 vQ fun vR=>zX vR (y9 [(I 0),.zh] [(0,1,vY)] fun vK=>zQ 2 v7 vK h8 n9 fun vJ hP nQ=>zN 2 v7 hP fun vE=>K0 vE hP nQ) ((IR.run F87.b1 C N (fnO F87.res K0) (ji F87.res K0)) (F87.fr a0 a1 v1 v4 v7 vY .undef .undef .undef .undef vL vR .undef .undef) h8 n9)) ((IR.run F87.b1 C N (fnO F87.res K0) (ji F87.res K0)) (F87.fr a0 a1 v1 v4 v7 .undef .undef .undef .undef .undef vL .undef .undef .undef) h8 n9):=by
 rw [zF F87.tab];kernel_rfl
theorem jd.wu (X2:IR) (O:yu Prop) (t:T AV):IR.run (jd.g1 X2) C N O K t h nx=IR.run X2 C N (O.blk 0 K) K t h nx:=by kernel_rfl
theorem jd.tab:T.get none (.of 185) tbl=some jd:=by kernel_rfl
theorem jd.go:zO tbl N C (.of 185) [a0,a1] h nx K0 =
 vw a0 h nx fun v1 h2 n3=>yJ [(I 0),.zh] h2 n3 fun v4 h5 n6=>C.fn 85 (.of 85) [(I 1)] h5 n6 fun v7 h8 n9=>yJ [(I 0),.zh] h8 n9 fun vA hA nA=>zQ 2 vA v7 hA nA fun vG hB nB=>IR.run jd.b1 C N (fnO jd.res K0) (IR.run jd.b9 C N (fnO jd.res K0) (ji jd.res K0)) (jd.fr a0 a1 v1 v4 vA .undef .undef .undef) hB nB:=by
 rw [zF jd.tab];kernel_rfl
theorem jd.L1 (Inv:Nat->AV->T Blk->Pa->Prop) {m:Nat} (hm:m<N) (hi:Inv m a h nx)
  (step:∀ (m:Nat) (z1 z5 z6 z7:AV) (h:T Blk) (nx:Pa) (R:Ks Prop),Inv m z1 h nx->(∀ (m':Nat) (w1 w5 w6 w7:AV) (h':T Blk) (nx':Pa),m'<m->Inv m' w1 h' nx'->R (jd.fr b w1 c d e w5 w6 w7) h' nx'=.ok True) ->
   (zf .gtr .int z1 (I 0) fun v1=>zX v1 (zf .and .int z1 (I 1) fun v2=>zf .eql .int v2 (I 1) fun v3=>zX v3 (zN 2 e h fun v4=>zN 2 c h fun v5=>C.fn 151 (.of 151) [v4,v5] h nx fun v6 h7 n8=>zQ 2 e v6 h7 n8 fun v9 hV nV=>(IR.run jd.b7 C N (((fnO jd.res K0).blk 0 K).blk 1 (IR.run jd.b8 C N ((fnO jd.res K0).blk 0 K) R)) (IR.run jd.b8 C N ((fnO jd.res K0).blk 0 K) R)) (jd.fr b z1 c d e v1 v3 z7) hV nV) ((IR.run jd.b7 C N (((fnO jd.res K0).blk 0 K).blk 1 (IR.run jd.b8 C N ((fnO jd.res K0).blk 0 K) R)) (IR.run jd.b8 C N ((fnO jd.res K0).blk 0 K) R)) (jd.fr b z1 c d e v1 v3 z7) h nx)) (K (jd.fr b z1 c d e v1 z6 z7) h nx))=.ok True) :
  IR.run jd.b1 C N (fnO jd.res K0) K (jd.fr b a c d e i l o) h nx=.ok True:=by
 rw [jd.b1,jd.wu,jd.b2];refine yG (fun m tm h nx=>∃ z1 z5 z6 z7,tm=(jd.fr b z1 c d e z5 z6 z7)/\Inv m z1 h nx) ?_ hm ⟨_,_,_,_,rfl,hi⟩;rintro m tm h nx R ⟨z1,z5,z6,z7,rfl,hi⟩ hR;refine Eq.trans ?_ (step m z1 z5 z6 z7 h nx R hi fun m' w1 w5 w6 w7 h' nx' hlt hi'=>hR m' _ h' nx' hlt ⟨_,_,_,_,rfl,hi'⟩)
 kernel_rfl
theorem jd.k9:IR.run jd.b9 C N (fnO jd.res K0) K (jd.fr b a c d e i l o) h nx =
 zN 2 e h fun v1=>zQ 2 d v1 h nx fun v2 h3 n4=>zN 2 d h3 fun v5=>K0 v5 h3 n4:=by kernel_rfl
theorem jd.k8 {E0:Ks Prop}:IR.run jd.b8 C N ((fnO jd.res K0).blk 0 E0) K (jd.fr b a c d e i l o) h nx =
 zf .shr .int a (.int .u64 1) fun v1=>K (jd.fr b v1 c d e i l o) h nx:=by kernel_rfl
theorem jd.k7 {E0 E1:Ks Prop}:IR.run jd.b7 C N (((fnO jd.res K0).blk 0 E0).blk 1 E1) K (jd.fr b a c d e i l o) h nx =
 zf .gtr .int a (I 1) fun v1=>zX v1 (zN 2 c h fun v2=>zN 2 c h fun v3=>C.fn 151 (.of 151) [v2,v3] h nx fun v4 h5 n6=>zQ 2 c v4 h5 n6 fun v7 h8 n9=>K (jd.fr b a c d e i l v1) h8 n9) (K (jd.fr b a c d e i l v1) h nx):=by kernel_rfl
theorem sK.tab:T.get none (.of 186) tbl=some sK:=by kernel_rfl
theorem sK.go:zO tbl N C (.of 186) [a0,a1] h nx K0 =
 vw a0 h nx fun v1 h2 n3=>vw a1 h2 n3 fun v4 h5 n6=>zJ 1 v1 fun v7=>zB v7 h5 fun v8=>zf .eql (.nil .sl) v8 .zh fun v9=>sG v9 true (fun k=>zJ 1 v4 k) fun vA=>sG v9 true (fun k=>zB vA h5 k) fun vS=>sG v9 true (fun k=>zf .eql (.nil .sl) vS .zh k) fun vZ=>jC v9 vZ (.bool false) fun vG=>zX vG (zJ 0 v1 fun vT=>zB vT h5 fun vU=>zJ 0 v4 fun vL=>zB vL h5 fun vV=>zf .lss .int vU vV fun vW=>zX vW (K0 (I (-1)) h5 n6) (zJ 0 v1 fun vM=>zB vM h5 fun vX=>zJ 0 v4 fun vY=>zB vY h5 fun vN=>zf .gtr .int vX vN fun v23=>zX v23 (K0 (I 1) h5 n6) (K0 (I 0) h5 n6))) (zN 2 v1 h5 fun v24=>zN 2 v4 h5 fun vO=>C.fn 208 (.of 208) [v24,vO] h5 n6 fun vP hK nL=>C.fn 152 (.of 152) [vP] hK nL fun vK h30 n31=>K0 vK h30 n31):=by
 rw [zF sK.tab];kernel_rfl
theorem fF.tab:T.get none (.of 151) tbl=some fF:=by kernel_rfl
theorem fF.go:zO tbl N C (.of 151) [a0,a1] h nx K0 =
 vw a0 h nx fun v1 h2 n3=>vw a1 h2 n3 fun v4 h5 n6=>yJ [(I 0),.zh] h5 n6 fun v7 h8 n9=>zJ 1 v1 fun vA=>zB vA h8 fun vS=>zf .eql (.nil .sl) vS .zh fun vZ=>sG vZ true (fun k=>zJ 1 v4 k) fun vG=>sG vZ true (fun k=>zB vG h8 k) fun vT=>sG vZ true (fun k=>zf .eql (.nil .sl) vT .zh k) fun vU=>jC vZ vU (.bool false) fun vL=>zX vL (zJ 0 v1 fun vV=>zB vV h8 fun vW=>zJ 0 v4 fun vM=>zB vM h8 fun vX=>C.fn 201 (.of 201) [vW] h8 n9 fun vY h22 n23=>(zB vM h22 fun v51=>zH v51 vX ((zJ 0 v4 fun v50=>zH v50 vM (C.fn 201 (.of 201) [vX] h22 n23 fun v24 hN nO=>C.fn 205 (.of 205) [vY,v24] hN nO fun vQ hO nP=>fC 0 vQ fun vJ=>fC 1 vQ fun vI=>zf .eql .int vJ (.int .u64 0) fun vH=>sG vH true (fun k=>k vI) fun vE=>sG vH true (fun k=>zf .leq .int vE (.int .u64 9223372036854775807) k) fun vD=>jC vH vD (.bool false) fun vC=>zX vC (zJ 0 v1 fun vB=>zB vB hO fun v37=>zf .lss .int v37 (I 0) fun v38=>zJ 0 v4 fun v39=>zB v39 hO fun v40=>zf .lss .int v40 (I 0) fun v41=>zf .neq .bool v38 v41 fun v42=>zX v42 (kL .i64 vI fun v43=>sNeg v43 fun v44=>y9 [(I 0),.zh] [(0,1,v44)] fun v45=>zQ 2 v7 v45 hO nP fun v46 h47 n48=>zN 2 v7 h47 fun v49=>K0 v49 h47 n48) ((IR.run fF.b1 C N (fnO fF.res K0) (IR.run fF.b2 C N (fnO fF.res K0) (ji fF.res K0))) (fF.fr a0 a1 v1 v4 v7 vJ vI .undef .undef .undef .undef vL vC v42) hO nP)) ((IR.run fF.b2 C N (fnO fF.res K0) (ji fF.res K0)) (fF.fr a0 a1 v1 v4 v7 vJ vI .undef .undef .undef .undef vL vC .undef) hO nP)))))) ((IR.run fF.b2 C N (fnO fF.res K0) (ji fF.res K0)) (fF.fr a0 a1 v1 v4 v7 .undef .undef .undef .undef .undef .undef vL .undef .undef) h8 n9):=by
 rw [zF fF.tab];kernel_rfl
theorem fF.k1:IR.run fF.b1 C N (fnO fF.res K0) K (fF.fr b a c d e i l o q s f p u v) h nx =
 kL .i64 l fun v1=>y9 [(I 0),.zh] [(0,1,v1)] fun v2=>zQ 2 e v2 h nx fun v3 h4 n5=>zN 2 e h4 fun v6=>K0 v6 h4 n5:=by kernel_rfl
theorem F205.tab:T.get none (.of 205) tbl=some F205:=by kernel_rfl
theorem F205.go:zO tbl N C (.of 205) [a0,a1] h nx K0 =
 zf .and .int a0 (.int .u64 4294967295) fun v1=>zf .shr .int a0 (.int .u64 32) fun v2=>zf .and .int a1 (.int .u64 4294967295) fun v3=>zf .shr .int a1 (.int .u64 32) fun v4=>zf .mul .int v1 v3 fun v5=>zf .mul .int v2 v3 fun v6=>zf .shr .int v5 (.int .u64 32) fun v7=>zf .add .int v6 v7 fun v8=>zf .and .int v8 (.int .u64 4294967295) fun v9=>zf .shr .int v8 (.int .u64 32) fun vA=>zf .mul .int v1 v4 fun vS=>zf .add .int v9 vS fun vZ=>zf .mul .int v2 v4 fun vG=>zf .add .int vG vA fun vT=>zf .shr .int vZ (.int .u64 32) fun vU=>zf .add .int vT vU fun vL=>zf .mul .int a0 a1 fun vV=>K0 (.tup [vL,vV]) h nx:=by
 rw [zF F205.tab];kernel_rfl
theorem aG.tab:T.get none (.of 201) tbl=some aG:=by kernel_rfl
theorem aG.go:zO tbl N C (.of 201) [a0] h nx K0 =
 zf .lss .int a0 (I 0) fun v1=>zX v1 (sNeg a0 fun v2=>kL .u64 v2 fun v3=>K0 v3 h nx) (kL .u64 a0 fun v4=>K0 v4 h nx):=by
 rw [zF aG.tab];kernel_rfl
theorem uo.wu (X2:IR) (O:yu Prop) (t:T AV):IR.run (uo.g1 X2) C N O K t h nx=IR.run X2 C N (O.blk 0 K) K t h nx:=by kernel_rfl
theorem uo.tab:T.get none (.of 164) tbl=some uo:=by kernel_rfl
theorem uo.go:zO tbl N C (.of 164) [a0,a1] h nx K0 =
 vw a0 h nx fun v1 h2 n3=>zJ 1 v1 fun v4=>zB v4 h2 fun v5=>sLen v5 fun v6=>IR.run uo.b1 C N (fnO uo.res K0) (IR.run uo.b8 C N (fnO uo.res K0) (ji uo.res K0)) (uo.fr a0 a1 v1 .zh .zh .undef v5 v6 (I 0) .undef) h2 n3:=by
 rw [zF uo.tab];kernel_rfl
theorem uo.L1 (Inv:Nat->AV->AV->T Blk->Pa->Prop) {m:Nat} (hm:m<N) (hi:Inv m e q h nx)
  (step:∀ (m:Nat) (z4 z5 z8 z9:AV) (h:T Blk) (nx:Pa) (R:Ks Prop),Inv m z4 z8 h nx->(∀ (m':Nat) (w4 w5 w8 w9:AV) (h':T Blk) (nx':Pa),m'<m->Inv m' w4 w8 h' nx'->R (uo.fr b a c d w4 w5 l o w8 w9) h' nx'=.ok True) ->
   (zf .lss .int z8 o fun v1=>zX v1 (zS 1 l z8 fun v2=>zB v2 h fun v3=>C.fn 219 (.of 219) [v3,a] h nx fun v4 h5 n6=>yS 1 1 [(I 0)] [(0,1,v4)] h5 n6 fun v7 h8 n9=>tC 1 8 z4 v7 h8 n9 fun vA hA nA=>zf .add .int z8 (I 1) fun vG=>R (uo.fr b a c d vA v3 l o vG v1) hA nA) (K (uo.fr b a c d z4 z5 l o z8 v1) h nx))=.ok True) :
  IR.run uo.b1 C N (fnO uo.res K0) K (uo.fr b a c d e i l o q s) h nx=.ok True:=by
 rw [uo.b1,uo.wu,uo.b2];refine yG (fun m tm h nx=>∃ z4 z5 z8 z9,tm=(uo.fr b a c d z4 z5 l o z8 z9)/\Inv m z4 z8 h nx) ?_ hm ⟨_,_,_,_,rfl,hi⟩;rintro m tm h nx R ⟨z4,z5,z8,z9,rfl,hi⟩ hR;refine Eq.trans ?_ (step m z4 z5 z8 z9 h nx R hi fun m' w4 w5 w8 w9 h' nx' hlt hi'=>hR m' _ h' nx' hlt ⟨_,_,_,_,rfl,hi'⟩)
 kernel_rfl
theorem uo.k8:IR.run uo.b8 C N (fnO uo.res K0) K (uo.fr b a c d e i l o q s) h nx =
 K0 e h nx:=by kernel_rfl
theorem F98.tab:T.get none (.of 98) tbl=some F98:=by kernel_rfl
theorem F98.go:zO tbl N C (.of 98) [a0,a1] h nx K0 =
 vw a0 h nx fun v1 h2 n3=>zN 2 v1 h2 fun v4=>C.fn 164 (.of 164) [v4,a1] h2 n3 fun v5 h6 n7=>yJ [.zh] h6 n7 fun v8 h9 nF=>zQ 1 v8 v5 h9 nF fun vS hF nG=>zB v8 hF fun vT=>C.fn 127 (.of 127) [vT,(.fn 165 (.of 165) [v8])] hF nG fun vU h16 n17=>K0 vU h16 n17:=by
 rw [zF F98.tab];kernel_rfl
theorem F165.tab:T.get none (.of 165) tbl=some F165:=by kernel_rfl
theorem F165.go:zO tbl N C (.of 165) [a0,a1] h nx K0 =
 zB a1 h fun v1=>zS 1 v1 (I 0) fun v2=>zB v2 h fun v3=>zf .neq .int a0 v3 fun v4=>K0 v4 h nx:=by
 rw [zF F165.tab];kernel_rfl
theorem uq.wu (X2:IR) (O:yu Prop) (t:T AV):IR.run (uq.g1 X2) C N O K t h nx=IR.run X2 C N (O.blk 0 K) K t h nx:=by kernel_rfl
theorem uq.tab:T.get none (.of 219) tbl=some uq:=by kernel_rfl
theorem uq.go:zO tbl N C (.of 219) [a0,a1] h nx K0 =
 sLen a0 fun v1=>IR.run uq.b1 C N (fnO uq.res K0) (IR.run uq.b8 C N (fnO uq.res K0) (ji uq.res K0)) (uq.fr a0 a1 (I 0) (I 0) .undef a0 v1 (I 0) .undef) h nx:=by
 rw [zF uq.tab];kernel_rfl
theorem uq.L1 (Inv:Nat->AV->AV->T Blk->Pa->Prop) {m:Nat} (hm:m<N) (hi:Inv m d o h nx)
  (step:∀ (m:Nat) (z3 z4 z7 z8:AV) (h:T Blk) (nx:Pa) (R:Ks Prop),Inv m z3 z7 h nx->(∀ (m':Nat) (w3 w4 w7 w8:AV) (h':T Blk) (nx':Pa),m'<m->Inv m' w3 w7 h' nx'->R (uq.fr b a c w3 w4 i l w7 w8) h' nx'=.ok True) ->
   (zf .lss .int z7 l fun v1=>zX v1 (zS 1 i z7 fun v2=>zB v2 h fun v3=>zS 1 a v3 fun v4=>zB v4 h fun v5=>zf .add .int z3 v5 fun v6=>zf .add .int z7 (I 1) fun v7=>R (uq.fr b a c v6 v3 i l v7 v1) h nx) (K (uq.fr b a c z3 z4 i l z7 v1) h nx))=.ok True) :
  IR.run uq.b1 C N (fnO uq.res K0) K (uq.fr b a c d e i l o q) h nx=.ok True:=by
 rw [uq.b1,uq.wu,uq.b2];refine yG (fun m tm h nx=>∃ z3 z4 z7 z8,tm=(uq.fr b a c z3 z4 i l z7 z8)/\Inv m z3 z7 h nx) ?_ hm ⟨_,_,_,_,rfl,hi⟩;rintro m tm h nx R ⟨z3,z4,z7,z8,rfl,hi⟩ hR;refine Eq.trans ?_ (step m z3 z4 z7 z8 h nx R hi fun m' w3 w4 w7 w8 h' nx' hlt hi'=>hR m' _ h' nx' hlt ⟨_,_,_,_,rfl,hi'⟩)
 kernel_rfl
theorem uq.k8:IR.run uq.b8 C N (fnO uq.res K0) K (uq.fr b a c d e i l o q) h nx =
 K0 d h nx:=by kernel_rfl
theorem F62.tab:T.get none (.of 62) tbl=some F62:=by kernel_rfl
theorem F62.go:zO tbl N C (.of 62) [] h nx K0 =
 y9 [(.str []),.xw] [(0,1,(.str [110,111,114,109,97,108])),(1,1,(.fn 115 (.of 115) []))] fun v1=>y9 [(.str []),.xw] [(0,1,(.str [115,101,109,105,109,97,103,105,99])),(1,1,(.fn 116 (.of 116) []))] fun v2=>y9 [(.str []),.xw] [(0,1,(.str [109,97,103,105,99])),(1,1,(.fn 118 (.of 118) []))] fun v3=>y9 [(.str []),.xw] [(0,1,(.str [112,97,110,100,105,97,103,111,110,97,108])),(1,1,(.fn 119 (.of 119) []))] fun v4=>y9 [(.str []),.xw] [(0,1,(.str [97,115,115,111,99,105,97,116,105,118,101])),(1,1,(.fn 120 (.of 120) []))] fun v5=>y9 [(.str []),.xw] [(0,1,(.str [109,111,115,116,45,112,101,114,102,101,99,116])),(1,1,(.fn 121 (.of 121) []))] fun v6=>y9 [(.str []),.xw] [(0,1,(.str [98,111,114,100,101,114,101,100])),(1,1,(.fn 122 (.of 122) []))] fun v7=>y9 [(.str []),.xw] [(0,1,(.str [98,105,109,97,103,105,99])),(1,1,(.fn 123 (.of 123) []))] fun v8=>yS 2 8 [(.str []),.xw] [(0,2,v1),(2,2,v2),(4,2,v3),(6,2,v4),(8,2,v5),(10,2,v6),(12,2,v7),(14,2,v8)] h nx fun v9 hV nV=>K0 v9 hV nV:=by
 rw [zF F62.tab];kernel_rfl
theorem F117.tab:T.get none (.of 117) tbl=some F117:=by kernel_rfl
theorem F117.go:zO tbl N C (.of 117) [a0,a1] h nx K0 =
 vw a0 h nx fun v1 h2 n3=>zJ 0 v1 fun v4=>zB v4 h2 fun v5=>zJ 1 v1 fun v6=>zB v6 h2 fun v7=>C.fn 71 (.of 71) [a1,v5] h2 n3 fun v8 h9 nF=>(zB v6 h9 fun vL=>zH vL v7 ((zJ 1 v1 fun vU=>zH vU v6 (C.fn 98 (.of 98) [v8,v7] h9 nF fun vS hF nG=>zf .lss .int vS (I 0) fun vT=>K0 vT hF nG)))):=by
 rw [zF F117.tab];kernel_rfl
theorem uw.wu (X2:IR) (O:yu Prop) (t:T AV):IR.run (uw.g1 X2) C N O K t h nx=IR.run X2 C N (O.blk 0 K) K t h nx:=by kernel_rfl
theorem uw.tab:T.get none (.of 179) tbl=some uw:=by kernel_rfl
theorem uw.go:zO tbl N C (.of 179) [a0,a1] h nx K0 =
 IR.run uw.b1 C N (fnO uw.res K0) (IR.run uw.b8 C N (fnO uw.res K0) (ji uw.res K0)) (uw.fr a0 a1 (.bool false) .undef a0 (I 0) .undef .undef) h nx:=by
 rw [zF uw.tab];kernel_rfl
theorem uw.L1 (Inv:Nat->AV->T Blk->Pa->Prop) {m:Nat} (hm:m<N) (hi:Inv m i h nx)
  (step:∀ (m:Nat) (z2 z3 z5 z6 z7:AV) (h:T Blk) (nx:Pa) (R:Ks Prop),Inv m z5 h nx->(∀ (m':Nat) (w2 w3 w5 w6 w7:AV) (h':T Blk) (nx':Pa),m'<m->Inv m' w5 h' nx'->R (uw.fr b a w2 w3 e w5 w6 w7) h' nx'=.ok True) ->
   (zf .lss .int z5 e fun v1=>zX v1 (u6 C a [z5] h nx fun v2 h3 n4=>u6 C a [(I 0)] h3 n4 fun v5 h6 n7=>zf .neq .int v2 v5 fun v8=>zX v8 (K0 (.bool false) h6 n7) (zf .add .int z5 (I 1) fun v9=>R (uw.fr b a z2 z5 e v9 v1 v8) h6 n7)) (K (uw.fr b a z2 z3 e z5 v1 z7) h nx))=.ok True) :
  IR.run uw.b1 C N (fnO uw.res K0) K (uw.fr b a c d e i l o) h nx=.ok True:=by
 rw [uw.b1,uw.wu,uw.b2];refine yG (fun m tm h nx=>∃ z2 z3 z5 z6 z7,tm=(uw.fr b a z2 z3 e z5 z6 z7)/\Inv m z5 h nx) ?_ hm ⟨_,_,_,_,_,rfl,hi⟩;rintro m tm h nx R ⟨z2,z3,z5,z6,z7,rfl,hi⟩ hR;refine Eq.trans ?_ (step m z2 z3 z5 z6 z7 h nx R hi fun m' w2 w3 w5 w6 w7 h' nx' hlt hi'=>hR m' _ h' nx' hlt ⟨_,_,_,_,_,rfl,hi'⟩)
 kernel_rfl
theorem uw.k8:IR.run uw.b8 C N (fnO uw.res K0) K (uw.fr b a c d e i l o) h nx =
 K0 (.bool true) h nx:=by kernel_rfl
theorem F115.tab:T.get none (.of 115) tbl=some F115:=by kernel_rfl
theorem F115.go:zO tbl N C (.of 115) [a0] h nx K0 =
 vw a0 h nx fun v1 h2 n3=>zJ 1 v1 fun v4=>zB v4 h2 fun v5=>C.fn 50 (.of 50) [v5] h2 n3 fun v6 h7 n8=>K0 v6 h7 n8:=by
 rw [zF F115.tab];kernel_rfl
theorem F116.tab:T.get none (.of 116) tbl=some F116:=by kernel_rfl
theorem F116.go:zO tbl N C (.of 116) [a0] h nx K0 =
 vw a0 h nx fun v1 h2 n3=>zN 2 v1 h2 fun v4=>C.fn 117 (.of 117) [v4,(.str [115,101,109,105,109,97,103,105,99])] h2 n3 fun v5 h6 n7=>K0 v5 h6 n7:=by
 rw [zF F116.tab];kernel_rfl
theorem F118.tab:T.get none (.of 118) tbl=some F118:=by kernel_rfl
theorem F118.go:zO tbl N C (.of 118) [a0] h nx K0 =
 vw a0 h nx fun v1 h2 n3=>zN 2 v1 h2 fun v4=>C.fn 117 (.of 117) [v4,(.str [109,97,103,105,99])] h2 n3 fun v5 h6 n7=>K0 v5 h6 n7:=by
 rw [zF F118.tab];kernel_rfl
theorem F119.tab:T.get none (.of 119) tbl=some F119:=by kernel_rfl
theorem F119.go:zO tbl N C (.of 119) [a0] h nx K0 =
 vw a0 h nx fun v1 h2 n3=>zN 2 v1 h2 fun v4=>C.fn 117 (.of 117) [v4,(.str [112,97,110,100,105,97,103,111,110,97,108])] h2 n3 fun v5 h6 n7=>K0 v5 h6 n7:=by
 rw [zF F119.tab];kernel_rfl
theorem F123.tab:T.get none (.of 123) tbl=some F123:=by kernel_rfl
theorem F123.go:zO tbl N C (.of 123) [a0] h nx K0 =
 vw a0 h nx fun v1 h2 n3=>zN 2 v1 h2 fun v4=>C.fn 117 (.of 117) [v4,(.str [109,97,103,105,99])] h2 n3 fun v5 h6 n7=>sG v5 true (fun k=>zN 2 v1 h6 k) fun v8=>sGW v5 true (fun k=>C.fn 124 (.of 124) [v8,(I 2)] h6 n7 k) h6 n7 fun v9 hV nV=>jC v5 v9 (.bool false) fun vZ=>K0 vZ hV nV:=by
 rw [zF F123.tab];kernel_rfl
theorem F120.tab:T.get none (.of 120) tbl=some F120:=by kernel_rfl
theorem F120.go:zO tbl N C (.of 120) [a0] h nx K0 =
 vw a0 h nx fun v1 h2 n3=>zN 2 v1 h2 fun v4=>C.fn 117 (.of 117) [v4,(.str [109,97,103,105,99])] h2 n3 fun v5 h6 n7=>sG v5 true (fun k=>zJ 1 v1 k) fun v8=>sG v5 true (fun k=>zB v8 h6 k) fun v9=>sG v5 true (fun k=>sLen v9 k) fun vA=>sG v5 true (fun k=>k (.fn 180 (.of 180) [v1])) fun vS=>sGW v5 true (fun k=>C.fn 179 (.of 179) [vA,vS] h6 n7 k) h6 n7 fun vZ h13 n14=>jC v5 vZ (.bool false) fun vU=>K0 vU h13 n14:=by
 rw [zF F120.tab];kernel_rfl
theorem F180.tab:T.get none (.of 180) tbl=some F180:=by kernel_rfl
theorem F180.go:zO tbl N C (.of 180) [a0,a1] h nx K0 =
 zJ 1 a1 fun v1=>zB v1 h fun v2=>zS 1 v2 a0 fun v3=>zB v3 h fun v4=>zJ 1 a1 fun v5=>zB v5 h fun v6=>zJ 1 a1 fun v7=>zB v7 h fun v8=>sLen v8 fun v9=>zf .sub .int v9 (I 1) fun vA=>zf .sub .int vA a0 fun vS=>zS 1 v6 vS fun vZ=>zB vZ h fun vG=>zf .add .int v4 vG fun vT=>K0 vT h nx:=by
 rw [zF F180.tab];kernel_rfl
theorem aH.tab:T.get none (.of 121) tbl=some aH:=by kernel_rfl
theorem aH.go:zO tbl N C (.of 121) [a0] h nx K0 =
 vw a0 h nx fun v1 h2 n3=>zJ 0 v1 fun v4=>zB v4 h2 fun v5=>zf .rem .int v5 (I 2) fun v6=>zf .eql .int v6 (I 1) fun v7=>sG v7 false (fun k=>zN 2 v1 h2 k) fun v8=>sGW v7 false (fun k=>C.fn 117 (.of 117) [v8,(.str [112,97,110,100,105,97,103,111,110,97,108])] h2 n3 k) h2 n3 fun v9 hV nV=>sG v7 false (fun k=>sNot v9 k) fun vZ=>jC v7 (.bool true) vZ fun vG=>zX vG (K0 (.bool false) hV nV) (yJ [.xw] hV nV fun vT hL nM=>zQ 1 vT (.fn 181 (.of 181) [v1]) hL nM fun vV h18 n19=>zJ 1 v1 fun vX=>zB vX h18 fun vY=>sLen vY fun vN=>C.fn 179 (.of 179) [vN,(.fn 182 (.of 182) [v1,vT])] h18 n19 fun v23 hJ nK=>sG v23 true (fun k=>zJ 1 v1 k) fun vP=>sG v23 true (fun k=>zB vP hJ k) fun vQ=>sG v23 true (fun k=>sLen vQ k) fun vR=>sG v23 true (fun k=>k (.fn 183 (.of 183) [v1,vT])) fun vK=>sGW v23 true (fun k=>C.fn 179 (.of 179) [vR,vK] hJ nK k) hJ nK fun vJ hP nQ=>jC v23 vJ (.bool false) fun vE=>K0 vE hP nQ):=by
 rw [zF aH.tab];kernel_rfl
theorem F181.tab:T.get none (.of 181) tbl=some F181:=by kernel_rfl
theorem F181.go:zO tbl N C (.of 181) [a0,a1,a2] h nx K0 =
 zJ 1 a2 fun v1=>zB v1 h fun v2=>zJ 0 a2 fun v3=>zB v3 h fun v4=>zf .rem .int a0 v4 fun v5=>zJ 0 a2 fun v6=>zB v6 h fun v7=>zf .mul .int v5 v7 fun v8=>zJ 0 a2 fun v9=>zB v9 h fun vA=>zf .rem .int a1 vA fun vS=>zf .add .int v8 vS fun vZ=>zS 1 v2 vZ fun vG=>zB vG h fun vT=>K0 vT h nx:=by
 rw [zF F181.tab];kernel_rfl
theorem F182.tab:T.get none (.of 182) tbl=some F182:=by kernel_rfl
theorem F182.go:zO tbl N C (.of 182) [a0,a1,a2] h nx K0 =
 zJ 0 a1 fun v1=>zB v1 h fun v2=>zf .quo .int a0 v2 fun v3=>zJ 0 a1 fun v4=>zB v4 h fun v5=>zf .rem .int a0 v5 fun v6=>zB a2 h fun v7=>zB a2 h fun v8=>zf .add .int v6 (I 1) fun v9=>zB a2 h fun vA=>zf .add .int v3 (I 1) fun vS=>zB a2 h fun vZ=>zf .add .int v3 (I 1) fun vG=>zf .add .int v6 (I 1) fun vT=>u6 C v7 [v3,v6] h nx fun vU h16 n17=>(zf .add .int v6 (I 1) fun v47=>zH v47 vT (zH v6 v6 ((zf .add .int v3 (I 1) fun v46=>zH v46 vG (zH v3 v3 ((zB a2 h16 fun v45=>zH v45 vZ (zH v6 v6 ((zf .add .int v3 (I 1) fun v44=>zH v44 vS (zH v3 v3 ((zB a2 h16 fun v43=>zH v43 vA ((zf .add .int v6 (I 1) fun v42=>zH v42 v9 (zH v6 v6 (zH v3 v3 ((zB a2 h16 fun v41=>zH v41 v8 (u6 C v8 [v3,v9] h16 n17 fun vW hM nN=>(zf .add .int v6 (I 1) fun v40=>zH v40 vT (zH v6 v6 ((zf .add .int v3 (I 1) fun v39=>zH v39 vG (zH v3 v3 ((zB a2 hM fun v38=>zH v38 vZ (zH v6 v6 ((zf .add .int v3 (I 1) fun v37=>zH v37 vS (zH v3 v3 ((zB a2 hM fun vB=>zH vB vA (zf .add .int vU vW fun vY=>u6 C vA [vS,v6] hM nN fun vN hE nE=>(zf .add .int vU vW fun vC=>zH vC vY ((zf .add .int v6 (I 1) fun vD=>zH vD vT (zH v6 v6 ((zf .add .int v3 (I 1) fun vE=>zH vE vG (zH v3 v3 ((zB a2 hE fun vH=>zH vH vZ (zf .add .int vY vN fun vO=>u6 C vZ [vG,vT] hE nE fun vP hK nL=>(zf .add .int vY vN fun vI=>zH vI vO ((zf .add .int vU vW fun vJ=>zH vJ vY (zf .add .int vO vP fun vK=>K0 vK hK nL)))))))))))))))))))))))))))))))))))))))))))))))):=by
 rw [zF F182.tab];kernel_rfl
theorem F183.tab:T.get none (.of 183) tbl=some F183:=by kernel_rfl
theorem F183.go:zO tbl N C (.of 183) [a0,a1,a2] h nx K0 =
 zJ 0 a1 fun v1=>zB v1 h fun v2=>zf .quo .int a0 v2 fun v3=>zJ 0 a1 fun v4=>zB v4 h fun v5=>zf .rem .int a0 v5 fun v6=>zB a2 h fun v7=>zB a2 h fun v8=>zJ 0 a1 fun v9=>zB v9 h fun vA=>zf .quo .int vA (I 2) fun vS=>zf .add .int v3 vS fun vZ=>zJ 0 a1 fun vG=>zB vG h fun vT=>zf .quo .int vT (I 2) fun vU=>zf .add .int v6 vU fun vL=>u6 C v7 [v3,v6] h nx fun vV h18 n19=>(zf .add .int v6 vU fun vH=>zH vH vL ((zf .quo .int vT (I 2) fun vI=>zH vI vU ((zB vG h18 fun vJ=>zH vJ vT ((zJ 0 a1 fun vK=>zH vK vG (zH v6 v6 ((zf .add .int v3 vS fun vR=>zH vR vZ ((zf .quo .int vA (I 2) fun vQ=>zH vQ vS ((zB v9 h18 fun vP=>zH vP vA ((zJ 0 a1 fun vO=>zH vO v9 (zH v3 v3 ((zB a2 h18 fun v24=>zH v24 v8 (u6 C v8 [vZ,vL] h18 n19 fun vX hI nJ=>zf .add .int vV vX fun v23=>K0 v23 hI nJ)))))))))))))))))))):=by
 rw [zF F183.tab];kernel_rfl
theorem jy.eG (X3:IR) (O:yu Prop) (t:T AV):IR.run (jy.g2 X3) C N O K t h nx=IR.run X3 C N (O.blk 0 K) K t h nx:=by kernel_rfl
theorem jy.tab:T.get none (.of 122) tbl=some jy:=by kernel_rfl
theorem jy.go:zO tbl N C (.of 122) [a0] h nx K0 =
 vw a0 h nx fun v1 h2 n3=>zJ 0 v1 fun v4=>zB v4 h2 fun v5=>zf .lss .int v5 (I 5) fun v6=>zX v6 (K0 (.bool false) h2 n3) (IR.run jy.b2 C N (fnO jy.res K0) (IR.run jy.b9 C N (fnO jy.res K0) (ji jy.res K0)) (jy.fr a0 v1 (.bool false) v6 .undef .undef) h2 n3):=by
 rw [zF jy.tab];kernel_rfl
theorem jy.L2 (Inv:Nat->T Blk->Pa->Prop) {m:Nat} (hm:m<N) (hi:Inv m  h nx)
  (step:∀ (m:Nat) (z2 z4 z5:AV) (h:T Blk) (nx:Pa) (R:Ks Prop),Inv m  h nx->(∀ (m':Nat) (w2 w4 w5:AV) (h':T Blk) (nx':Pa),m'<m->Inv m'  h' nx'->R (jy.fr b a w2 d w4 w5) h' nx'=.ok True) ->
   (zJ 0 a fun v1=>zB v1 h fun v2=>zf .geq .int v2 (I 3) fun v3=>zX v3 (zN 2 a h fun v4=>C.fn 117 (.of 117) [v4,(.str [109,97,103,105,99])] h nx fun v5 h6 n7=>sNot v5 fun v8=>zX v8 (K0 (.bool false) h6 n7) (zN 2 a h6 fun v9=>C.fn 184 (.of 184) [v9] h6 n7 fun vA hA nA=>zQ 2 a vA hA nA fun vG hB nB=>R (jy.fr b a z2 d v3 v8) hB nB)) (K (jy.fr b a z2 d v3 z5) h nx))=.ok True) :
  IR.run jy.b2 C N (fnO jy.res K0) K (jy.fr b a c d e i) h nx=.ok True:=by
 rw [jy.b2,jy.eG,jy.b3];refine yG (fun m tm h nx=>∃ z2 z4 z5,tm=(jy.fr b a z2 d z4 z5)/\Inv m  h nx) ?_ hm ⟨_,_,_,rfl,hi⟩;rintro m tm h nx R ⟨z2,z4,z5,rfl,hi⟩ hR;refine Eq.trans ?_ (step m z2 z4 z5 h nx R hi fun m' w2 w4 w5 h' nx' hlt hi'=>hR m' _ h' nx' hlt ⟨_,_,_,rfl,hi'⟩)
 kernel_rfl
theorem jy.k9:IR.run jy.b9 C N (fnO jy.res K0) K (jy.fr b a c d e i) h nx =
 K0 (.bool true) h nx:=by kernel_rfl
theorem uy.wu (X2:IR) (O:yu Prop) (t:T AV):IR.run (uy.g1 X2) C N O K t h nx=IR.run X2 C N (O.blk 0 K) K t h nx:=by kernel_rfl
theorem uy.tab:T.get none (.of 184) tbl=some uy:=by kernel_rfl
theorem uy.go:zO tbl N C (.of 184) [a0] h nx K0 =
 vw a0 h nx fun v1 h2 n3=>yJ [(I 0),.zh] h2 n3 fun v4 h5 n6=>zJ 0 v1 fun v7=>zB v7 h5 fun v8=>zf .sub .int v8 (I 2) fun v9=>y9 [(I 0),.zh] [(0,1,v9)] fun vA=>yJ [(I 0),.zh] h5 n6 fun vS hF nG=>zQ 2 vS vA hF nG fun vT hL nM=>IR.run uy.b1 C N (fnO uy.res K0) (IR.run uy.b8 C N (fnO uy.res K0) (ji uy.res K0)) (uy.fr a0 v1 v4 vS (I 1) .undef) hL nM:=by
 rw [zF uy.tab];kernel_rfl
theorem uy.L1 (Inv:Nat->AV->T Blk->Pa->Prop) {m:Nat} (hm:m<N) (hi:Inv m e h nx)
  (step:∀ (m:Nat) (z4 z5:AV) (h:T Blk) (nx:Pa) (R:Ks Prop),Inv m z4 h nx->(∀ (m':Nat) (w4 w5:AV) (h':T Blk) (nx':Pa),m'<m->Inv m' w4 h' nx'->R (uy.fr b a c d w4 w5) h' nx'=.ok True) ->
   (zf .add .int z4 (I 1) fun v1=>zJ 0 a fun v2=>zB v2 h fun v3=>zf .lss .int v1 v3 fun v4=>zX v4 (zJ 1 d fun v5=>zB v5 h fun v6=>zJ 1 a fun v7=>zB v7 h fun v8=>zJ 0 a fun v9=>zB v9 h fun vA=>zf .mul .int z4 vA fun vS=>zf .add .int vS (I 1) fun vZ=>zJ 0 a fun vG=>zB vG h fun vT=>zf .mul .int z4 vT fun vU=>zJ 0 a fun vL=>zB vL h fun vV=>zf .add .int vU vV fun vW=>zf .sub .int vW (I 1) fun vM=>zJ 0 a fun vX=>zB vX h fun vY=>zf .mul .int z4 vY fun vN=>zJ 0 a fun v23=>zB v23 h fun v24=>zf .add .int vN v24 fun vO=>zf .sub .int vO (I 1) fun vP=>vF 1 v8 (some vZ) (some vM) (some vP) fun vQ=>tC 1 8 v6 vQ h nx fun vR hH nI=>zJ 1 d fun vI=>zQ 1 vI vR hH nI fun vH hW nW=>zf .add .int z4 (I 1) fun vC=>R (uy.fr b a c d vC v4) hW nW) (K (uy.fr b a c d z4 v4) h nx))=.ok True) :
  IR.run uy.b1 C N (fnO uy.res K0) K (uy.fr b a c d e i) h nx=.ok True:=by
 rw [uy.b1,uy.wu,uy.b2];refine yG (fun m tm h nx=>∃ z4 z5,tm=(uy.fr b a c d z4 z5)/\Inv m z4 h nx) ?_ hm ⟨_,_,rfl,hi⟩;rintro m tm h nx R ⟨z4,z5,rfl,hi⟩ hR;refine Eq.trans ?_ (step m z4 z5 h nx R hi fun m' w4 w5 h' nx' hlt hi'=>hR m' _ h' nx' hlt ⟨_,_,rfl,hi'⟩)
 kernel_rfl
theorem uy.k8:IR.run uy.b8 C N (fnO uy.res K0) K (uy.fr b a c d e i) h nx =
 zN 2 d h fun v1=>zQ 2 c v1 h nx fun v2 h3 n4=>zN 2 c h3 fun v5=>K0 v5 h3 n4:=by kernel_rfl
theorem F20.eG (X3:IR) (O:yu Prop) (t:T AV):IR.run (F20.g2 X3) C N O K t h nx=IR.run X3 C N (O.blk 0 K) K t h nx:=by kernel_rfl
theorem F20.tab:T.get none (.of 20) tbl=some F20:=by kernel_rfl
theorem F20.go:zO tbl N C (.of 20) [a0] h nx K0 =
 vw a0 h nx fun v1 h2 n3=>zN 3 v1 h2 fun v4=>C.fn 61 (.of 61) [v4] h2 n3 fun v5 h6 n7=>zf .neq .int v5 (I 0) fun v8=>zX v8 (K0 (.tup [.zh,v5]) h6 n7) (C.fn 62 (.of 62) [] h6 n7 fun v9 hV nV=>sLen v9 fun vZ=>IR.run F20.b2 C N (fnO F20.res K0) (IR.run F20.b9 C N (fnO F20.res K0) (ji F20.res K0)) (F20.fr a0 v1 .zh (I 0) v5 .zh .undef v8 v9 vZ (I 0) .undef .undef) hV nV):=by
 rw [zF F20.tab];kernel_rfl
theorem F20.L2 (Inv:Nat->AV->AV->T Blk->Pa->Prop) {m:Nat} (hm:m<N) (hi:Inv m i f h nx)
  (step:∀ (m:Nat) (z5 z6 zC zD zE:AV) (h:T Blk) (nx:Pa) (R:Ks Prop),Inv m z5 zC h nx->(∀ (m':Nat) (w5 w6 wA wB wC:AV) (h':T Blk) (nx':Pa),m'<m->Inv m' w5 wA h' nx'->R (F20.fr b a c d e w5 w6 o q s wA wB wC) h' nx'=.ok True) ->
   (zf .lss .int zC s fun v1=>zX v1 (zS 2 q zC fun v2=>zN 2 v2 h fun v3=>yJ [(.str []),.xw] h nx fun v4 h5 n6=>zQ 2 v4 v3 h5 n6 fun v7 h8 n9=>zJ 1 v4 fun vA=>zB vA h8 fun vS=>zJ 0 a fun vZ=>zB vZ h8 fun vG=>zJ 2 a fun vT=>zB vT h8 fun vU=>C.fn 48 (.of 48) [vU] h8 n9 fun vL hC nC=>(zB vZ hC fun vB=>zH vB vG ((zJ 0 a fun vC=>zH vC vZ ((zB vA hC fun vD=>zH vD vS ((zJ 1 v4 fun vE=>zH vE vA (y9 [(I 0),.zh] [(0,1,vG),(1,1,vL)] fun vM=>u6 C vS [vM] hC nC fun vX hI nJ=>zX vX (zJ 0 v4 fun v23=>zB v23 hI fun v24=>yS 1 1 [(.str [])] [(0,1,v24)] hI nJ fun vO hG nH=>tC 1 16 z5 vO hG nH fun vR hH nI=>zf .add .int zC (I 1) fun vI=>R (F20.fr b a c d e vR v4 o q s vI v1 vX) hH nI) (zf .add .int zC (I 1) fun vH=>R (F20.fr b a c d e z5 v4 o q s vH v1 vX) hI nJ)))))))))) (K (F20.fr b a c d e z5 z6 o q s zC v1 zE) h nx))=.ok True) :
  IR.run F20.b2 C N (fnO F20.res K0) K (F20.fr b a c d e i l o q s f p u) h nx=.ok True:=by
 rw [F20.b2,F20.eG,F20.b3];refine yG (fun m tm h nx=>∃ z5 z6 zC zD zE,tm=(F20.fr b a c d e z5 z6 o q s zC zD zE)/\Inv m z5 zC h nx) ?_ hm ⟨_,_,_,_,_,rfl,hi⟩;rintro m tm h nx R ⟨z5,z6,zC,zD,zE,rfl,hi⟩ hR;refine Eq.trans ?_ (step m z5 z6 zC zD zE h nx R hi fun m' w5 w6 wA wB wC h' nx' hlt hi'=>hR m' _ h' nx' hlt ⟨_,_,_,_,_,rfl,hi'⟩)
 kernel_rfl
theorem F20.k9:IR.run F20.b9 C N (fnO F20.res K0) K (F20.fr b a c d e i l o q s f p u) h nx =
 K0 (.tup [i,(I 0)]) h nx:=by kernel_rfl
end Go.Ev
namespace Go.Ev
open Go Go.Proofs
set_option maxRecDepth 100000
section
variable {N:Nat} {C:Calls Prop} {K0:Kw Prop} {K:Ks Prop} {h:T Blk} {nx:Pa} {b a c d e a0:AV}
def F16.t0:IR:=.reg [.w (.loc (.of 1)) none (.box (.t (.of 0))),.q (.of 2) (.mv (.c (I 0)))]
def F16.aU:List RO:=.p .push (some ((.s 13),false)) (.pick (.s 9) (.s 0) (.c (.bool false)))::.s (.pick (.s 14) (.c (.bool true)) (.s 0))::.s (.mv (.s 0))::.p .push (some ((.s 0),false)) (.zi 0 (.t (.of 1)))::.p .push (some ((.s 1),false)) (.load (.s 0))::.p .push (some ((.s 2),false)) (.bin .gtr .int (.s 0) (.c (I 1000)))::.q (.of 3) (.pick (.s 3) (.c (.bool true)) (.s 0))::[]
def F16.aV:List RO:=.p .push (some ((.s 1),true)) (.load (.s 0))::.p .push (some ((.s 2),true)) (.len (.s 0))::.p .push (some ((.s 3),true)) (.zi 0 (.t (.of 1)))::.p .push (some ((.s 4),true)) (.load (.s 0))::.p .push (some ((.s 5),true)) (.zi 0 (.t (.of 1)))::.p .push (some ((.s 6),true)) (.load (.s 0))::.p .push (some ((.s 7),true)) (.bin .mul .int (.s 2) (.s 0))::.p .push (some ((.s 8),true)) (.bin .neq .int (.s 5) (.s 0))::F16.aU
def F16.oK:List RO:=.p .push (some ((.s 2),false)) (.bin .lss .int (.s 0) (.c (I 0)))::.s (.pick (.s 3) (.c (.bool true)) (.s 0))::.s (.mv (.s 0))::.p .push (some ((.s 0),false)) (.zi 0 (.t (.of 1)))::.p .push (some ((.s 1),false)) (.load (.s 0))::.p .push (some ((.s 2),false)) (.bin .leq .int (.s 0) (.c (I 1000)))::.p .push (some ((.s 3),false)) (.mv (.s 0))::.p .push (some ((.s 0),true)) (.zi 2 (.t (.of 1)))::F16.aV
def F16.r1_0:List RO:=.s (.zi 0 (.t (.of 1)))::.s (.load (.s 0))::.s (.zi 1 (.t (.of 1)))::.s (.load (.s 0))::.s (.bin .neq .int (.s 2) (.s 0))::.s (.mv (.s 0))::.p .push (some ((.s 0),false)) (.zi 0 (.t (.of 1)))::.p .push (some ((.s 1),false)) (.load (.s 0))::F16.oK
def F16.t1:IR:=.reg F16.r1_0
def F16.t2:IR:=.reg [.q (.of 2) (.mv (.c (I 2)))]
def F16.t3:IR:=.seq F16.t2 .ret
def F16.t4:IR:=.cond (.t (.of 3)) F16.t3 .skip
def F16.t5:IR:=.seq F16.t1 F16.t4
def F16.t6:IR:=.reg [.s (.zi 0 (.t (.of 1))),.s (.load (.s 0)),.s (.bin .lss .int (.s 0) (.c (I 1))),.s (.mv (.s 0)),.p .push (some ((.s 0),false)) (.zi 0 (.t (.of 1))),.p .push (some ((.s 1),false)) (.load (.s 0)),.p .push (some ((.s 2),false)) (.bin .gtr .int (.s 0) (.c (I 16))),.q (.of 4) (.pick (.s 3) (.c (.bool true)) (.s 0))]
def F16.t7:IR:=.reg [.q (.of 2) (.mv (.c (I 3)))]
def F16.t8:IR:=.seq F16.t7 .ret
def F16.t9:IR:=.cond (.t (.of 4)) F16.t8 .skip
def F16.t10:IR:=.seq F16.t6 F16.t9
def F16.t11:IR:=.reg [.s (.zi 2 (.t (.of 1))),.s (.load (.s 0)),.w .push none (.call (.c (.fn 53 (.of 53) [])) [(.s 0)]),.q (.of 2) (.mv (.s 0))]
def F16.t12:IR:=.seq F16.t11 .ret
def F16.t13:IR:=.seq F16.t10 F16.t12
def F16.t14:IR:=.seq F16.t5 F16.t13
def F16.t15:IR:=.seq F16.t0 F16.t14
theorem F16.fG {O:yu Prop}:IR.run F16.t0 C N O K (F16.fr b a c d e) h nx =
 vw b h nx fun v1 h2 n3=>K (F16.fr b v1 (I 0) d e) h2 n3:=by kernel_rfl
theorem F16.fK {O:yu Prop} {tm:T AV}:IR.run F16.t1 C N O K tm h nx=yO F16.r1_0 C ⟨tm,[]⟩ h nx (fun tm h nx=>K tm.v h nx):=kZ ..
theorem F16.zar {r:List RO} {Kt:KTm}:yO (.s (.zi 0 (.t (.of 1)))::.s (.load (.s 0))::.s (.zi 1 (.t (.of 1)))::.s (.load (.s 0))::.s (.bin .neq .int (.s 2) (.s 0))::.s (.mv (.s 0))::.p .push (some ((.s 0),false)) (.zi 0 (.t (.of 1)))::.p .push (some ((.s 1),false)) (.load (.s 0))::r) C ⟨(F16.fr b a c d e),[]⟩ h nx Kt =
 zJ 0 a fun v1=>zB v1 h fun v2=>zJ 1 a fun v3=>zB v3 h fun v4=>zf .neq .int v2 v4 fun v5=>sG v5 false (fun k=>zJ 0 a k) fun v6=>sG v5 false (fun k=>zB v6 h k) fun v7=>yO r C ⟨(F16.fr b a c d e),v7::v6::v5::v5::v4::v3::v2::v1::[]⟩ h nx Kt:=by kernel_rfl
theorem F16.sN {s0 s1 s2 s3 s4 s5 s6 s7:AV} {r:List RO} {Kt:KTm}:yO (.p .push (some ((.s 2),false)) (.bin .lss .int (.s 0) (.c (I 0)))::.s (.pick (.s 3) (.c (.bool true)) (.s 0))::.s (.mv (.s 0))::.p .push (some ((.s 0),false)) (.zi 0 (.t (.of 1)))::.p .push (some ((.s 1),false)) (.load (.s 0))::.p .push (some ((.s 2),false)) (.bin .leq .int (.s 0) (.c (I 1000)))::.p .push (some ((.s 3),false)) (.mv (.s 0))::.p .push (some ((.s 0),true)) (.zi 2 (.t (.of 1)))::r) C ⟨(F16.fr b a c d e),s0::s1::s2::s3::s4::s5::s6::s7::[]⟩ h nx Kt =
 sG s2 false (fun k=>zf .lss .int s0 (I 0) k) fun v1=>jC s2 (.bool true) v1 fun v2=>sG v2 false (fun k=>zJ 0 a k) fun v3=>sG v2 false (fun k=>zB v3 h k) fun v4=>sG v2 false (fun k=>zf .leq .int v4 (I 1000) k) fun v5=>sG v2 false (fun k=>k v5) fun v6=>sG v6 true (fun k=>zJ 2 a k) fun v7=>yO r C ⟨(F16.fr b a c d e),v7::v6::v5::v4::v3::v2::v2::v1::s0::s1::s2::s3::s4::s5::s6::s7::[]⟩ h nx Kt:=by kernel_rfl
theorem F16.rY {s0 s1 s2 s3 s4 s5 s6 s7 s8 s9 s10 s11 s12 s13 s14 s15:AV} {r:List RO} {Kt:KTm}:yO (.p .push (some ((.s 1),true)) (.load (.s 0))::.p .push (some ((.s 2),true)) (.len (.s 0))::.p .push (some ((.s 3),true)) (.zi 0 (.t (.of 1)))::.p .push (some ((.s 4),true)) (.load (.s 0))::.p .push (some ((.s 5),true)) (.zi 0 (.t (.of 1)))::.p .push (some ((.s 6),true)) (.load (.s 0))::.p .push (some ((.s 7),true)) (.bin .mul .int (.s 2) (.s 0))::.p .push (some ((.s 8),true)) (.bin .neq .int (.s 5) (.s 0))::r) C ⟨(F16.fr b a c d e),s0::s1::s2::s3::s4::s5::s6::s7::s8::s9::s10::s11::s12::s13::s14::s15::[]⟩ h nx Kt =
 sG s1 true (fun k=>zB s0 h k) fun v1=>sG s1 true (fun k=>sLen v1 k) fun v2=>sG s1 true (fun k=>zJ 0 a k) fun v3=>sG s1 true (fun k=>zB v3 h k) fun v4=>sG s1 true (fun k=>zJ 0 a k) fun v5=>sG s1 true (fun k=>zB v5 h k) fun v6=>sG s1 true (fun k=>zf .mul .int v4 v6 k) fun v7=>sG s1 true (fun k=>zf .neq .int v2 v7 k) fun v8=>yO r C ⟨(F16.fr b a c d e),v8::v7::v6::v5::v4::v3::v2::v1::s0::s1::s2::s3::s4::s5::s6::s7::s8::s9::s10::s11::s12::s13::s14::s15::[]⟩ h nx Kt:=by kernel_rfl
theorem F16.rZ {s0 s1 s2 s3 s4 s5 s6 s7 s8 s9 s10 s11 s12 s13 s14 s15 s16 s17 s18 s19 s20 s21 s22 s23:AV} {Kt:KTm}:yO (.p .push (some ((.s 13),false)) (.pick (.s 9) (.s 0) (.c (.bool false)))::.s (.pick (.s 14) (.c (.bool true)) (.s 0))::.s (.mv (.s 0))::.p .push (some ((.s 0),false)) (.zi 0 (.t (.of 1)))::.p .push (some ((.s 1),false)) (.load (.s 0))::.p .push (some ((.s 2),false)) (.bin .gtr .int (.s 0) (.c (I 1000)))::.q (.of 3) (.pick (.s 3) (.c (.bool true)) (.s 0))::[]) C ⟨(F16.fr b a c d e),s0::s1::s2::s3::s4::s5::s6::s7::s8::s9::s10::s11::s12::s13::s14::s15::s16::s17::s18::s19::s20::s21::s22::s23::[]⟩ h nx Kt =
 sG s13 false (fun k=>jC s9 s0 (.bool false) k) fun v1=>jC s13 (.bool true) v1 fun v2=>sG v2 false (fun k=>zJ 0 a k) fun v3=>sG v2 false (fun k=>zB v3 h k) fun v4=>sG v2 false (fun k=>zf .gtr .int v4 (I 1000) k) fun v5=>jC v2 (.bool true) v5 fun v6=>Kt ⟨(F16.fr b a c v6 e),v5::v4::v3::v2::v2::v1::s0::s1::s2::s3::s4::s5::s6::s7::s8::s9::s10::s11::s12::s13::s14::s15::s16::s17::s18::s19::s20::s21::s22::s23::[]⟩ h nx:=by kernel_rfl
theorem F16.rE {O:yu Prop}:IR.run F16.t2 C N O K (F16.fr b a c d e) h nx =
 K (F16.fr b a (I 2) d e) h nx:=by kernel_rfl
theorem F16.aI {O:yu Prop} {tm:T AV}:IR.run F16.t3 C N O K tm h nx=IR.run F16.t2 C N O (IR.run .ret C N O K) tm h nx:=zA ..
theorem F16.t4_s {O:yu Prop}:IR.run F16.t4 C N O K (F16.fr b a c d e) h nx=zX d (IR.run F16.t3 C N O K (F16.fr b a c d e) h nx) (IR.run .skip C N O K (F16.fr b a c d e) h nx):=by
 have g:∀ A B:IR,IR.run (.cond (.t (.of 3)) A B) C N O K (F16.fr b a c d e) h nx=zX d (IR.run A C N O K (F16.fr b a c d e) h nx) (IR.run B C N O K (F16.fr b a c d e) h nx):=fun A B=>by kernel_rfl
 exact g _ _
theorem F16.eH {O:yu Prop} {tm:T AV}:IR.run F16.t5 C N O K tm h nx=IR.run F16.t1 C N O (IR.run F16.t4 C N O K) tm h nx:=zA ..
theorem F16.tY {O:yu Prop}:IR.run F16.t6 C N O K (F16.fr b a c d e) h nx =
 zJ 0 a fun v1=>zB v1 h fun v2=>zf .lss .int v2 (I 1) fun v3=>sG v3 false (fun k=>zJ 0 a k) fun v4=>sG v3 false (fun k=>zB v4 h k) fun v5=>sG v3 false (fun k=>zf .gtr .int v5 (I 16) k) fun v6=>jC v3 (.bool true) v6 fun v7=>K (F16.fr b a c d v7) h nx:=by kernel_rfl
theorem F16.t7_s {O:yu Prop}:IR.run F16.t7 C N O K (F16.fr b a c d e) h nx =
 K (F16.fr b a (I 3) d e) h nx:=by kernel_rfl
theorem F16.oL {O:yu Prop} {tm:T AV}:IR.run F16.t8 C N O K tm h nx=IR.run F16.t7 C N O (IR.run .ret C N O K) tm h nx:=zA ..
theorem F16.ak {O:yu Prop}:IR.run F16.t9 C N O K (F16.fr b a c d e) h nx=zX e (IR.run F16.t8 C N O K (F16.fr b a c d e) h nx) (IR.run .skip C N O K (F16.fr b a c d e) h nx):=by
 have g:∀ A B:IR,IR.run (.cond (.t (.of 4)) A B) C N O K (F16.fr b a c d e) h nx=zX e (IR.run A C N O K (F16.fr b a c d e) h nx) (IR.run B C N O K (F16.fr b a c d e) h nx):=fun A B=>by kernel_rfl
 exact g _ _
theorem F16.tq {O:yu Prop} {tm:T AV}:IR.run F16.t10 C N O K tm h nx=IR.run F16.t6 C N O (IR.run F16.t9 C N O K) tm h nx:=zA ..
theorem F16.ze0 {O:yu Prop}:IR.run F16.t11 C N O K (F16.fr b a c d e) h nx =
 zJ 2 a fun v1=>zB v1 h fun v2=>C.fn 53 (.of 53) [v2] h nx fun v3 h4 n5=>K (F16.fr b a v3 d e) h4 n5:=by kernel_rfl
theorem F16.eP {O:yu Prop} {tm:T AV}:IR.run F16.t12 C N O K tm h nx=IR.run F16.t11 C N O (IR.run .ret C N O K) tm h nx:=zA ..
theorem F16.zad {O:yu Prop} {tm:T AV}:IR.run F16.t13 C N O K tm h nx=IR.run F16.t10 C N O (IR.run F16.t12 C N O K) tm h nx:=zA ..
theorem F16.aS {O:yu Prop} {tm:T AV}:IR.run F16.t14 C N O K tm h nx=IR.run F16.t5 C N O (IR.run F16.t13 C N O K) tm h nx:=zA ..
theorem F16.zas {O:yu Prop} {tm:T AV}:IR.run F16.t15 C N O K tm h nx=IR.run F16.t0 C N O (IR.run F16.t14 C N O K) tm h nx:=zA ..
theorem F16.tab:T.get none (.of 16) tbl=some F16:=by kernel_rfl
theorem F16.bind (k:T AV->OP):yK F16.params [a0] F16.init k=k (F16.fr a0 .undef .undef .undef .undef):=by kernel_rfl
theorem F16.je:F16.body=F16.t15:=by kernel_rfl
theorem F16.go:zO tbl N C (.of 16) [a0] h nx K0=IR.run F16.t15 C N (fnO F16.res K0) (ji F16.res K0) (F16.fr a0 .undef .undef .undef .undef) h nx:=by
 rw [zF F16.tab,F16.bind,F16.je];kernel_rfl
theorem F16.ret:ji F16.res K0 (F16.fr b a c d e) h nx=K0 c h nx:=by kernel_rfl
end
end Go.Ev
namespace Go.Ev
open Go Go.Proofs
set_option maxRecDepth 100000
section
variable {N:Nat} {C:Calls Prop} {K0:Kw Prop} {K:Ks Prop} {h:T Blk} {nx:Pa} {b a c d a0:AV}
def F61.t0:IR:=.reg [.w (.loc (.of 1)) none (.box (.t (.of 0))),.q (.of 2) (.mv (.c (I 0)))]
def F61.aU:List RO:=.p .push (some ((.s 8),false)) (.bin .neq .int (.s 5) (.s 0))::.q (.of 3) (.pick (.s 9) (.c (.bool true)) (.s 0))::[]
def F61.aV:List RO:=.p .push (some ((.s 0),false)) (.zi 2 (.t (.of 1)))::.p .push (some ((.s 1),false)) (.load (.s 0))::.p .push (some ((.s 2),false)) (.len (.s 0))::.p .push (some ((.s 3),false)) (.zi 0 (.t (.of 1)))::.p .push (some ((.s 4),false)) (.load (.s 0))::.p .push (some ((.s 5),false)) (.zi 1 (.t (.of 1)))::.p .push (some ((.s 6),false)) (.load (.s 0))::.p .push (some ((.s 7),false)) (.bin .mul .int (.s 2) (.s 0))::F61.aU
def F61.oK:List RO:=.p .push (some ((.s 2),false)) (.bin .lss .int (.s 0) (.c (I 0)))::.s (.pick (.s 3) (.c (.bool true)) (.s 0))::.s (.mv (.s 0))::.p .push (some ((.s 0),false)) (.zi 0 (.t (.of 1)))::.p .push (some ((.s 1),false)) (.load (.s 0))::.p .push (some ((.s 2),false)) (.bin .gtr .int (.s 0) (.c (I 1048576)))::.s (.pick (.s 3) (.c (.bool true)) (.s 0))::.s (.mv (.s 0))::F61.aV
def F61.r1_0:List RO:=.s (.zi 0 (.t (.of 1)))::.s (.load (.s 0))::.s (.zi 1 (.t (.of 1)))::.s (.load (.s 0))::.s (.bin .neq .int (.s 2) (.s 0))::.s (.mv (.s 0))::.p .push (some ((.s 0),false)) (.zi 0 (.t (.of 1)))::.p .push (some ((.s 1),false)) (.load (.s 0))::F61.oK
def F61.t1:IR:=.reg F61.r1_0
def F61.t2:IR:=.reg [.q (.of 2) (.mv (.c (I 2)))]
def F61.t3:IR:=.seq F61.t2 .ret
def F61.t4:IR:=.cond (.t (.of 3)) F61.t3 .skip
def F61.t5:IR:=.seq F61.t1 F61.t4
def F61.t6:IR:=.yh [] [(.s (.zi 0 (.t (.of 1))),0,[]),(.s (.load (.s 0)),0,[]),(.s (.zi 2 (.t (.of 1))),2,[]),(.s (.load (.s 0)),2,[]),(.w .push none (.yc 1 1 [(I 0)] [(0,1,(.s 2))]),0,[]),(.w .push none (.call (.c (.fn 70 (.of 70) [])) [(.c (I 1)),(.c (I 16)),(.s 0)]),0,[]),(.w .push none (.call (.c (.fn 109 (.of 109) [])) [(.s 2)]),0,[]),(.w .push none (.yc 1 2 [(I 0)] [(0,1,(.s 1)),(1,1,(.s 0))]),0,[]),(.w .push none (.call (.c (.fn 42 (.of 42) [])) [(.s 0)]),0,[]),(.q (.of 2) (.mv (.s 0)),0,[])]
def F61.t7:IR:=.seq F61.t6 .ret
def F61.t8:IR:=.seq F61.t5 F61.t7
def F61.t9:IR:=.seq F61.t0 F61.t8
theorem F61.fG {O:yu Prop}:IR.run F61.t0 C N O K (F61.fr b a c d) h nx =
 vw b h nx fun v1 h2 n3=>K (F61.fr b v1 (I 0) d) h2 n3:=by kernel_rfl
theorem F61.fK {O:yu Prop} {tm:T AV}:IR.run F61.t1 C N O K tm h nx=yO F61.r1_0 C ⟨tm,[]⟩ h nx (fun tm h nx=>K tm.v h nx):=kZ ..
theorem F61.zar {r:List RO} {Kt:KTm}:yO (.s (.zi 0 (.t (.of 1)))::.s (.load (.s 0))::.s (.zi 1 (.t (.of 1)))::.s (.load (.s 0))::.s (.bin .neq .int (.s 2) (.s 0))::.s (.mv (.s 0))::.p .push (some ((.s 0),false)) (.zi 0 (.t (.of 1)))::.p .push (some ((.s 1),false)) (.load (.s 0))::r) C ⟨(F61.fr b a c d),[]⟩ h nx Kt =
 zJ 0 a fun v1=>zB v1 h fun v2=>zJ 1 a fun v3=>zB v3 h fun v4=>zf .neq .int v2 v4 fun v5=>sG v5 false (fun k=>zJ 0 a k) fun v6=>sG v5 false (fun k=>zB v6 h k) fun v7=>yO r C ⟨(F61.fr b a c d),v7::v6::v5::v5::v4::v3::v2::v1::[]⟩ h nx Kt:=by kernel_rfl
theorem F61.sN {s0 s1 s2 s3 s4 s5 s6 s7:AV} {r:List RO} {Kt:KTm}:yO (.p .push (some ((.s 2),false)) (.bin .lss .int (.s 0) (.c (I 0)))::.s (.pick (.s 3) (.c (.bool true)) (.s 0))::.s (.mv (.s 0))::.p .push (some ((.s 0),false)) (.zi 0 (.t (.of 1)))::.p .push (some ((.s 1),false)) (.load (.s 0))::.p .push (some ((.s 2),false)) (.bin .gtr .int (.s 0) (.c (I 1048576)))::.s (.pick (.s 3) (.c (.bool true)) (.s 0))::.s (.mv (.s 0))::r) C ⟨(F61.fr b a c d),s0::s1::s2::s3::s4::s5::s6::s7::[]⟩ h nx Kt =
 sG s2 false (fun k=>zf .lss .int s0 (I 0) k) fun v1=>jC s2 (.bool true) v1 fun v2=>sG v2 false (fun k=>zJ 0 a k) fun v3=>sG v2 false (fun k=>zB v3 h k) fun v4=>sG v2 false (fun k=>zf .gtr .int v4 (I 1048576) k) fun v5=>jC v2 (.bool true) v5 fun v6=>yO r C ⟨(F61.fr b a c d),v6::v6::v5::v4::v3::v2::v2::v1::s0::s1::s2::s3::s4::s5::s6::s7::[]⟩ h nx Kt:=by kernel_rfl
theorem F61.rY {s0 s1 s2 s3 s4 s5 s6 s7 s8 s9 s10 s11 s12 s13 s14 s15:AV} {r:List RO} {Kt:KTm}:yO (.p .push (some ((.s 0),false)) (.zi 2 (.t (.of 1)))::.p .push (some ((.s 1),false)) (.load (.s 0))::.p .push (some ((.s 2),false)) (.len (.s 0))::.p .push (some ((.s 3),false)) (.zi 0 (.t (.of 1)))::.p .push (some ((.s 4),false)) (.load (.s 0))::.p .push (some ((.s 5),false)) (.zi 1 (.t (.of 1)))::.p .push (some ((.s 6),false)) (.load (.s 0))::.p .push (some ((.s 7),false)) (.bin .mul .int (.s 2) (.s 0))::r) C ⟨(F61.fr b a c d),s0::s1::s2::s3::s4::s5::s6::s7::s8::s9::s10::s11::s12::s13::s14::s15::[]⟩ h nx Kt =
 sG s0 false (fun k=>zJ 2 a k) fun v1=>sG s0 false (fun k=>zB v1 h k) fun v2=>sG s0 false (fun k=>sLen v2 k) fun v3=>sG s0 false (fun k=>zJ 0 a k) fun v4=>sG s0 false (fun k=>zB v4 h k) fun v5=>sG s0 false (fun k=>zJ 1 a k) fun v6=>sG s0 false (fun k=>zB v6 h k) fun v7=>sG s0 false (fun k=>zf .mul .int v5 v7 k) fun v8=>yO r C ⟨(F61.fr b a c d),v8::v7::v6::v5::v4::v3::v2::v1::s0::s1::s2::s3::s4::s5::s6::s7::s8::s9::s10::s11::s12::s13::s14::s15::[]⟩ h nx Kt:=by kernel_rfl
theorem F61.rZ {s0 s1 s2 s3 s4 s5 s6 s7 s8 s9 s10 s11 s12 s13 s14 s15 s16 s17 s18 s19 s20 s21 s22 s23:AV} {Kt:KTm}:yO (.p .push (some ((.s 8),false)) (.bin .neq .int (.s 5) (.s 0))::.q (.of 3) (.pick (.s 9) (.c (.bool true)) (.s 0))::[]) C ⟨(F61.fr b a c d),s0::s1::s2::s3::s4::s5::s6::s7::s8::s9::s10::s11::s12::s13::s14::s15::s16::s17::s18::s19::s20::s21::s22::s23::[]⟩ h nx Kt =
 sG s8 false (fun k=>zf .neq .int s5 s0 k) fun v1=>jC s8 (.bool true) v1 fun v2=>Kt ⟨(F61.fr b a c v2),v1::s0::s1::s2::s3::s4::s5::s6::s7::s8::s9::s10::s11::s12::s13::s14::s15::s16::s17::s18::s19::s20::s21::s22::s23::[]⟩ h nx:=by kernel_rfl
theorem F61.rE {O:yu Prop}:IR.run F61.t2 C N O K (F61.fr b a c d) h nx =
 K (F61.fr b a (I 2) d) h nx:=by kernel_rfl
theorem F61.aI {O:yu Prop} {tm:T AV}:IR.run F61.t3 C N O K tm h nx=IR.run F61.t2 C N O (IR.run .ret C N O K) tm h nx:=zA ..
theorem F61.t4_s {O:yu Prop}:IR.run F61.t4 C N O K (F61.fr b a c d) h nx=zX d (IR.run F61.t3 C N O K (F61.fr b a c d) h nx) (IR.run .skip C N O K (F61.fr b a c d) h nx):=by
 have g:∀ A B:IR,IR.run (.cond (.t (.of 3)) A B) C N O K (F61.fr b a c d) h nx=zX d (IR.run A C N O K (F61.fr b a c d) h nx) (IR.run B C N O K (F61.fr b a c d) h nx):=fun A B=>by kernel_rfl
 exact g _ _
theorem F61.eH {O:yu Prop} {tm:T AV}:IR.run F61.t5 C N O K tm h nx=IR.run F61.t1 C N O (IR.run F61.t4 C N O K) tm h nx:=zA ..
theorem F61.tY {O:yu Prop}:IR.run F61.t6 C N O K (F61.fr b a c d) h nx =
 zJ 0 a fun v1=>zB v1 h fun v2=>zJ 2 a fun v3=>zB v3 h fun v4=>yS 1 1 [(I 0)] [(0,1,v2)] h nx fun v5 h6 n7=>(zB v3 h6 fun v23=>zH v23 v4 ((zJ 2 a fun vN=>zH vN v3 (C.fn 70 (.of 70) [(I 1),(I 16),v5] h6 n7 fun v8 h9 nF=>(zB v3 h9 fun vY=>zH vY v4 ((zJ 2 a fun vX=>zH vX v3 (C.fn 109 (.of 109) [v4] h9 nF fun vS hF nG=>yS 1 2 [(I 0)] [(0,1,v8),(1,1,vS)] hF nG fun vT hL nM=>C.fn 42 (.of 42) [vT] hL nM fun vV h18 n19=>K (F61.fr b a vV d) h18 n19)))))))):=by kernel_rfl
theorem F61.t7_s {O:yu Prop} {tm:T AV}:IR.run F61.t7 C N O K tm h nx=IR.run F61.t6 C N O (IR.run .ret C N O K) tm h nx:=zA ..
theorem F61.oL {O:yu Prop} {tm:T AV}:IR.run F61.t8 C N O K tm h nx=IR.run F61.t5 C N O (IR.run F61.t7 C N O K) tm h nx:=zA ..
theorem F61.ak {O:yu Prop} {tm:T AV}:IR.run F61.t9 C N O K tm h nx=IR.run F61.t0 C N O (IR.run F61.t8 C N O K) tm h nx:=zA ..
theorem F61.tab:T.get none (.of 61) tbl=some F61:=by kernel_rfl
theorem F61.bind (k:T AV->OP):yK F61.params [a0] F61.init k=k (F61.fr a0 .undef .undef .undef):=by kernel_rfl
theorem F61.je:F61.body=F61.t9:=by kernel_rfl
theorem F61.go:zO tbl N C (.of 61) [a0] h nx K0=IR.run F61.t9 C N (fnO F61.res K0) (ji F61.res K0) (F61.fr a0 .undef .undef .undef) h nx:=by
 rw [zF F61.tab,F61.bind,F61.je];kernel_rfl
theorem F61.ret:ji F61.res K0 (F61.fr b a c d) h nx=K0 c h nx:=by kernel_rfl
end
end Go.Ev
namespace Go.Ev
open Go Go.Proofs
set_option maxRecDepth 100000
section
variable {N:Nat} {C:Calls Prop} {K0:Kw Prop} {K:Ks Prop} {h:T Blk} {nx:Pa} {b a c d e i l o q s f p a0 a1:AV} {O:yu Prop} {tm:T AV} {Kt:KTm} {r:List RO} {s0 s1 s2 s3 s4 s5 s6 s7 s8 s9 s10 s11 s12 s13 s14 s15 s16 s17 s18 s19 s20 s21 s22 s23 s24 s25 s26 s27 s28 s29 s30 s31 s32 s33 s34 s35 s36 s37 s38 s39 s40 s41 s42 s43 s44 s45 s46 s47 s48 s49 s50 s51 s52 s53 s54 s55 s56 s57 s58 s59:AV}
def F65.t0:IR:=.reg [.w (.loc (.of 2)) none (.box (.t (.of 0))),.q (.of 3) (.mv (.c .zh))]
def F65.t1:IR:=.reg [.s (.mv (.t (.of 1))),.s (.len (.s 0)),.w .push none (.vk 1 8 [(I 0)] (.s 0) (.s 0)),.q (.of 4) (.mv (.s 0))]
def F65.t2:IR:=.reg [.q (.of 7) (.mv (.t (.of 1))),.q (.of 8) (.len (.t (.of 7))),.q (.of 9) (.mv (.c (I 0)))]
def F65.t3:IR:=.reg [.q (.of 10) (.bin .lss .int (.t (.of 9)) (.t (.of 8)))]
def F65.t4:IR:=.cond (.t (.of 10)) .skip (.exit 0)
def F65.t5:IR:=.reg [.s (.mv (.t (.of 9))),.s (.zn 1 (.t (.of 7)) (.t (.of 9))),.s (.load (.s 0)),.q (.of 5) (.mv (.s 2)),.q (.of 6) (.mv (.s 0))]
def F65.t6:IR:=.reg [.s (.zi 1 (.t (.of 2))),.q (.of 11) (.load (.s 0))]
def F65.t7:IR:=.reg [.s (.mv (.t (.of 1))),.s (.len (.s 0)),.s (.bin .add .int (.s 0) (.c (I 1))),.s (.mv (.t (.of 6))),.s (.bin .sub .int (.s 1) (.s 0)),.q (.of 6) (.mv (.s 0))]
def F65.t8:IR:=.cond (.t (.of 11)) F65.t7 .skip
def F65.t9:IR:=.seq F65.t6 F65.t8
def F65.t10:IR:=.reg [.s (.mv (.t (.of 4))),.s (.zi 0 (.t (.of 2))),.s (.load (.s 0)),.s (.mv (.t (.of 5))),.s (.zn 1 (.s 1) (.s 0)),.s (.load (.s 0)),.s (.mv (.t (.of 6))),.s (.zn 1 (.s 6) (.s 1)),.w .none none (.store 1 (.s 0) (.s 1))]
def F65.t11:IR:=.seq F65.t9 F65.t10
def F65.t12:IR:=.seq F65.t5 F65.t11
def F65.t13:IR:=.block 1 F65.t12
def F65.t14:IR:=.reg [.s (.bin .add .int (.t (.of 9)) (.c (I 1))),.q (.of 9) (.mv (.s 0))]
def F65.t15:IR:=.seq F65.t13 F65.t14
def F65.t16:IR:=.seq F65.t4 F65.t15
def F65.t17:IR:=.seq F65.t3 F65.t16
def F65.t18:IR:=.loop F65.t17
def F65.t19:IR:=.block 0 F65.t18
def F65.t20:IR:=.seq F65.t2 F65.t19
def F65.t21:IR:=.reg [.s (.mv (.t (.of 4))),.q (.of 3) (.mv (.s 0))]
def F65.t22:IR:=.seq F65.t21 .ret
def F65.t23:IR:=.seq F65.t20 F65.t22
def F65.t24:IR:=.seq F65.t1 F65.t23
def F65.t25:IR:=.seq F65.t0 F65.t24
theorem F65.fG:IR.run F65.t0 C N O K (F65.fr b a c d e i l o q s f p) h nx =
 vw b h nx fun v1 h2 n3=>K (F65.fr b a v1 .zh e i l o q s f p) h2 n3:=by kernel_rfl
theorem F65.fK:IR.run F65.t1 C N O K (F65.fr b a c d e i l o q s f p) h nx =
 sLen a fun v1=>uF 1 8 [(I 0)] v1 v1 h nx fun v2 h3 n4=>K (F65.fr b a c d v2 i l o q s f p) h3 n4:=by kernel_rfl
theorem F65.rE:IR.run F65.t2 C N O K (F65.fr b a c d e i l o q s f p) h nx =
 sLen a fun v1=>K (F65.fr b a c d e i l a v1 (I 0) f p) h nx:=by kernel_rfl
theorem F65.aI:IR.run F65.t3 C N O K (F65.fr b a c d e i l o q s f p) h nx =
 zf .lss .int s q fun v1=>K (F65.fr b a c d e i l o q s v1 p) h nx:=by kernel_rfl
theorem F65.v10:Arg.ev (.t (.of 10)) ⟨(F65.fr b a c d e i l o q s f p),[]⟩=f:=by kernel_rfl
theorem F65.eH:IR.run F65.t5 C N O K (F65.fr b a c d e i l o q s f p) h nx =
 zS 1 o s fun v1=>zB v1 h fun v2=>K (F65.fr b a c d e s v2 o q s f p) h nx:=by kernel_rfl
theorem F65.tY:IR.run F65.t6 C N O K (F65.fr b a c d e i l o q s f p) h nx =
 zJ 1 c fun v1=>zB v1 h fun v2=>K (F65.fr b a c d e i l o q s f v2) h nx:=by kernel_rfl
theorem F65.t7_s:IR.run F65.t7 C N O K (F65.fr b a c d e i l o q s f p) h nx =
 sLen a fun v1=>zf .add .int v1 (I 1) fun v2=>zf .sub .int v2 l fun v3=>K (F65.fr b a c d e i v3 o q s f p) h nx:=by kernel_rfl
theorem F65.v11:Arg.ev (.t (.of 11)) ⟨(F65.fr b a c d e i l o q s f p),[]⟩=p:=by kernel_rfl
theorem F65.tq:IR.run F65.t10 C N O K (F65.fr b a c d e i l o q s f p) h nx =
 zJ 0 c fun v1=>zB v1 h fun v2=>zS 1 v2 i fun v3=>zB v3 h fun v4=>zS 1 e v4 fun v5=>zQ 1 v5 l h nx fun v6 h7 n8=>K (F65.fr b a c d e i l o q s f p) h7 n8:=by kernel_rfl
theorem F65.aS:IR.run F65.t14 C N O K (F65.fr b a c d e i l o q s f p) h nx =
 zf .add .int s (I 1) fun v1=>K (F65.fr b a c d e i l o q v1 f p) h nx:=by kernel_rfl
theorem F65.zxf (Inv:Nat->AV->T Blk->Pa->Prop) {m:Nat} (hm:m<N) (hi:Inv m s h nx)
  (step:∀ (m:Nat) (z5 z6 z9 zC zD:AV) (h:T Blk) (nx:Pa) (R:Ks Prop),Inv m z9 h nx->(∀ (m':Nat) (w5 w6 w9 wA wB:AV) (h':T Blk) (nx':Pa),m'<m->Inv m' w9 h' nx'->R (F65.fr b a c d e w5 w6 o q w9 wA wB) h' nx'=.ok True)->IR.run F65.t17 C N O R (F65.fr b a c d e z5 z6 o q z9 zC zD) h nx=.ok True) :
  IR.run F65.t18 C N O K (F65.fr b a c d e i l o q s f p) h nx=.ok True:=by
 rw [F65.t18];refine yG (fun m tm h nx=>∃ z5 z6 z9 zC zD,tm=(F65.fr b a c d e z5 z6 o q z9 zC zD)/\Inv m z9 h nx) ?_ hm ⟨_,_,_,_,_,rfl,hi⟩;rintro m tm h nx R ⟨z5,z6,z9,zC,zD,rfl,hi⟩ hR;exact step m z5 z6 z9 zC zD h nx R hi fun m' w5 w6 w9 wA wB h' nx' hlt hi'=>hR m' _ h' nx' hlt ⟨_,_,_,_,_,rfl,hi'⟩
theorem F65.zmm:IR.run F65.t21 C N O K (F65.fr b a c d e i l o q s f p) h nx =
 K (F65.fr b a c e e i l o q s f p) h nx:=by kernel_rfl
theorem F65.tab:T.get none (.of 65) tbl=some F65:=by kernel_rfl
theorem F65.bind (k:T AV->OP):yK F65.params [a0,a1] F65.init k=k (F65.fr a0 a1 .undef .undef .undef .undef .undef .undef .undef .undef .undef .undef):=by kernel_rfl
theorem F65.je:F65.body=F65.t25:=by kernel_rfl
theorem F65.go:zO tbl N C (.of 65) [a0,a1] h nx K0=IR.run F65.t25 C N (fnO F65.res K0) (ji F65.res K0) (F65.fr a0 a1 .undef .undef .undef .undef .undef .undef .undef .undef .undef .undef) h nx:=by
 rw [zF F65.tab,F65.bind,F65.je];kernel_rfl
theorem F65.ret:ji F65.res K0 (F65.fr b a c d e i l o q s f p) h nx=K0 d h nx:=by kernel_rfl
end
end Go.Ev
namespace Go.Ev
open Go Go.Proofs
set_option maxRecDepth 100000
section
variable {N:Nat} {C:Calls Prop} {K0:Kw Prop} {K:Ks Prop} {h:T Blk} {nx:Pa} {b a a0:AV} {O:yu Prop} {tm:T AV} {Kt:KTm} {r:List RO} {s0 s1 s2 s3 s4 s5 s6 s7 s8 s9 s10 s11 s12 s13 s14 s15 s16 s17 s18 s19 s20 s21 s22 s23 s24 s25 s26 s27 s28 s29 s30 s31 s32 s33 s34 s35 s36 s37 s38 s39 s40 s41 s42 s43 s44 s45 s46 s47 s48 s49 s50 s51 s52 s53 s54 s55 s56 s57 s58 s59:AV}
def F63.t0:IR:=.reg [.q (.of 1) (.mv (.c (I 0)))]
def F63.t1:IR:=.reg [.s (.mv (.t (.of 0))),.s (.len (.s 0)),.s (.bin .gtr .int (.s 0) (.c (I 256))),.w .push none (.call (.c (.fn 76 (.of 76) [])) [(.s 0),(.c (I 5))]),.s (.mv (.t (.of 0))),.w .push none (.call (.c (.fn 66 (.of 66) [])) [(.s 0),(.c (.fn 67 (.of 67) []))]),.w .push none (.call (.c (.fn 76 (.of 76) [])) [(.s 0),(.c (I 3))]),.w .push none (.yc 1 2 [(I 0)] [(0,1,(.s 3)),(1,1,(.s 0))]),.w .push none (.call (.c (.fn 72 (.of 72) [])) [(.s 0)]),.q (.of 1) (.mv (.s 0))]
def F63.t2:IR:=.seq F63.t1 .ret
def F63.t3:IR:=.seq F63.t0 F63.t2
theorem F63.fG:IR.run F63.t0 C N O K (F63.fr b a) h nx =
 K (F63.fr b (I 0)) h nx:=by kernel_rfl
theorem F63.fK:IR.run F63.t1 C N O K (F63.fr b a) h nx =
 sLen b fun v1=>zf .gtr .int v1 (I 256) fun v2=>C.fn 76 (.of 76) [v2,(I 5)] h nx fun v3 h4 n5=>C.fn 66 (.of 66) [b,(.fn 67 (.of 67) [])] h4 n5 fun v6 h7 n8=>C.fn 76 (.of 76) [v6,(I 3)] h7 n8 fun v9 hV nV=>yS 1 2 [(I 0)] [(0,1,v3),(1,1,v9)] hV nV fun vZ h13 n14=>C.fn 72 (.of 72) [vZ] h13 n14 fun vU h16 n17=>K (F63.fr b vU) h16 n17:=by kernel_rfl
theorem F63.tab:T.get none (.of 63) tbl=some F63:=by kernel_rfl
theorem F63.bind (k:T AV->OP):yK F63.params [a0] F63.init k=k (F63.fr a0 .undef):=by kernel_rfl
theorem F63.je:F63.body=F63.t3:=by kernel_rfl
theorem F63.go:zO tbl N C (.of 63) [a0] h nx K0=IR.run F63.t3 C N (fnO F63.res K0) (ji F63.res K0) (F63.fr a0 .undef) h nx:=by
 rw [zF F63.tab,F63.bind,F63.je];kernel_rfl
theorem F63.ret:ji F63.res K0 (F63.fr b a) h nx=K0 a h nx:=by kernel_rfl
end
end Go.Ev
namespace Go.Ev
open Go Go.Proofs
set_option maxRecDepth 100000
section
variable {N:Nat} {C:Calls Prop} {K0:Kw Prop} {K:Ks Prop} {h:T Blk} {nx:Pa} {b a a0:AV} {O:yu Prop} {tm:T AV} {Kt:KTm} {r:List RO} {s0 s1 s2 s3 s4 s5 s6 s7 s8 s9 s10 s11 s12 s13 s14 s15 s16 s17 s18 s19 s20 s21 s22 s23 s24 s25 s26 s27 s28 s29 s30 s31 s32 s33 s34 s35 s36 s37 s38 s39 s40 s41 s42 s43 s44 s45 s46 s47 s48 s49 s50 s51 s52 s53 s54 s55 s56 s57 s58 s59:AV}
def F67.t0:IR:=.reg [.q (.of 1) (.mv (.c (.bool false)))]
def F67.t1:IR:=.reg [.s (.mv (.t (.of 0))),.s (.bin .lss .int (.s 0) (.c (I (-999999999)))),.s (.mv (.s 0)),.p .push (some ((.s 0),false)) (.mv (.t (.of 0))),.p .push (some ((.s 1),false)) (.bin .gtr .int (.s 0) (.c (I 999999999))),.s (.pick (.s 2) (.c (.bool true)) (.s 0)),.q (.of 1) (.mv (.s 0))]
def F67.t2:IR:=.seq F67.t1 .ret
def F67.t3:IR:=.seq F67.t0 F67.t2
theorem F67.fG:IR.run F67.t0 C N O K (F67.fr b a) h nx =
 K (F67.fr b (.bool false)) h nx:=by kernel_rfl
theorem F67.fK:IR.run F67.t1 C N O K (F67.fr b a) h nx =
 zf .lss .int b (I (-999999999)) fun v1=>sG v1 false (fun k=>k b) fun v2=>sG v1 false (fun k=>zf .gtr .int v2 (I 999999999) k) fun v3=>jC v1 (.bool true) v3 fun v4=>K (F67.fr b v4) h nx:=by kernel_rfl
theorem F67.tab:T.get none (.of 67) tbl=some F67:=by kernel_rfl
theorem F67.bind (k:T AV->OP):yK F67.params [a0] F67.init k=k (F67.fr a0 .undef):=by kernel_rfl
theorem F67.je:F67.body=F67.t3:=by kernel_rfl
theorem F67.go:zO tbl N C (.of 67) [a0] h nx K0=IR.run F67.t3 C N (fnO F67.res K0) (ji F67.res K0) (F67.fr a0 .undef) h nx:=by
 rw [zF F67.tab,F67.bind,F67.je];kernel_rfl
theorem F67.ret:ji F67.res K0 (F67.fr b a) h nx=K0 a h nx:=by kernel_rfl
end
end Go.Ev
namespace Go.Ev
open Go Go.Proofs
set_option maxRecDepth 100000
section
variable {N:Nat} {C:Calls Prop} {K0:Kw Prop} {K:Ks Prop} {h:T Blk} {nx:Pa} {b a c a0:AV} {O:yu Prop} {tm:T AV} {Kt:KTm} {r:List RO} {s0 s1 s2 s3 s4 s5 s6 s7 s8 s9 s10 s11 s12 s13 s14 s15 s16 s17 s18 s19 s20 s21 s22 s23 s24 s25 s26 s27 s28 s29 s30 s31 s32 s33 s34 s35 s36 s37 s38 s39 s40 s41 s42 s43 s44 s45 s46 s47 s48 s49 s50 s51 s52 s53 s54 s55 s56 s57 s58 s59:AV}
def F17.t0:IR:=.reg [.q (.of 1) (.mv (.c (I 0)))]
def F17.t1:IR:=.reg [.s (.mv (.t (.of 0))),.s (.len (.s 0)),.q (.of 2) (.bin .gtr .int (.s 0) (.c (I 256)))]
def F17.t2:IR:=.reg [.q (.of 1) (.mv (.c (I 5)))]
def F17.t3:IR:=.seq F17.t2 .ret
def F17.t4:IR:=.cond (.t (.of 2)) F17.t3 .skip
def F17.t5:IR:=.seq F17.t1 F17.t4
def F17.t6:IR:=.reg [.s (.mv (.t (.of 0))),.w .push none (.call (.c (.fn 54 (.of 54) [])) [(.s 0)]),.q (.of 1) (.mv (.s 0))]
def F17.t7:IR:=.seq F17.t6 .ret
def F17.t8:IR:=.seq F17.t5 F17.t7
def F17.t9:IR:=.seq F17.t0 F17.t8
theorem F17.fG:IR.run F17.t0 C N O K (F17.fr b a c) h nx =
 K (F17.fr b (I 0) c) h nx:=by kernel_rfl
theorem F17.fK:IR.run F17.t1 C N O K (F17.fr b a c) h nx =
 sLen b fun v1=>zf .gtr .int v1 (I 256) fun v2=>K (F17.fr b a v2) h nx:=by kernel_rfl
theorem F17.rE:IR.run F17.t2 C N O K (F17.fr b a c) h nx =
 K (F17.fr b (I 5) c) h nx:=by kernel_rfl
theorem F17.v2:Arg.ev (.t (.of 2)) ⟨(F17.fr b a c),[]⟩=c:=by kernel_rfl
theorem F17.tY:IR.run F17.t6 C N O K (F17.fr b a c) h nx =
 C.fn 54 (.of 54) [b] h nx fun v1 h2 n3=>K (F17.fr b v1 c) h2 n3:=by kernel_rfl
theorem F17.tab:T.get none (.of 17) tbl=some F17:=by kernel_rfl
theorem F17.bind (k:T AV->OP):yK F17.params [a0] F17.init k=k (F17.fr a0 .undef .undef):=by kernel_rfl
theorem F17.je:F17.body=F17.t9:=by kernel_rfl
theorem F17.go:zO tbl N C (.of 17) [a0] h nx K0=IR.run F17.t9 C N (fnO F17.res K0) (ji F17.res K0) (F17.fr a0 .undef .undef) h nx:=by
 rw [zF F17.tab,F17.bind,F17.je];kernel_rfl
theorem F17.ret:ji F17.res K0 (F17.fr b a c) h nx=K0 a h nx:=by kernel_rfl
end
end Go.Ev
namespace Go.Ev
open Go Go.Proofs
set_option maxRecDepth 100000
section
variable {N:Nat} {C:Calls Prop} {K0:Kw Prop} {K:Ks Prop} {h:T Blk} {nx:Pa} {b a c d e a0:AV} {O:yu Prop} {tm:T AV} {Kt:KTm} {r:List RO} {s0 s1 s2 s3 s4 s5 s6 s7 s8 s9 s10 s11 s12 s13 s14 s15 s16 s17 s18 s19 s20 s21 s22 s23 s24 s25 s26 s27 s28 s29 s30 s31 s32 s33 s34 s35 s36 s37 s38 s39 s40 s41 s42 s43 s44 s45 s46 s47 s48 s49 s50 s51 s52 s53 s54 s55 s56 s57 s58 s59:AV}
def F54.t0:IR:=.reg [.q (.of 1) (.mv (.c (I 0)))]
def F54.t1:IR:=.reg [.q (.of 2) (.mv (.c (I 0)))]
def F54.t2:IR:=.reg [.s (.mv (.t (.of 2))),.s (.mv (.t (.of 0))),.s (.len (.s 0)),.q (.of 3) (.bin .lss .int (.s 2) (.s 0))]
def F54.t3:IR:=.cond (.t (.of 3)) .skip (.exit 0)
def F54.t4:IR:=.seq F54.t2 F54.t3
def F54.r3_1:List RO:=.p .push (some ((.s 2),false)) (.zn 1 (.s 1) (.s 0))::.p .push (some ((.s 3),false)) (.load (.s 0))::.p .push (some ((.s 4),false)) (.bin .gtr .int (.s 0) (.c (I 999999999)))::.q (.of 4) (.pick (.s 5) (.c (.bool true)) (.s 0))::[]
def F54.r3_0:List RO:=.s (.mv (.t (.of 0)))::.s (.mv (.t (.of 2)))::.s (.zn 1 (.s 1) (.s 0))::.s (.load (.s 0))::.s (.bin .lss .int (.s 0) (.c (I (-999999999))))::.s (.mv (.s 0))::.p .push (some ((.s 0),false)) (.mv (.t (.of 0)))::.p .push (some ((.s 1),false)) (.mv (.t (.of 2)))::F54.r3_1
def F54.t5:IR:=.reg F54.r3_0
def F54.t6:IR:=.reg [.q (.of 1) (.mv (.c (I 3)))]
def F54.t7:IR:=.seq F54.t6 .ret
def F54.t8:IR:=.cond (.t (.of 4)) F54.t7 .skip
def F54.t9:IR:=.seq F54.t5 F54.t8
def F54.t10:IR:=.block 1 F54.t9
def F54.t11:IR:=.reg [.s (.mv (.t (.of 2))),.s (.bin .add .int (.s 0) (.c (I 1))),.q (.of 2) (.mv (.s 0))]
def F54.t12:IR:=.seq F54.t10 F54.t11
def F54.t13:IR:=.seq F54.t4 F54.t12
def F54.t14:IR:=.loop F54.t13
def F54.t15:IR:=.block 0 F54.t14
def F54.t16:IR:=.seq F54.t1 F54.t15
def F54.t17:IR:=.reg [.q (.of 1) (.mv (.c (I 0)))]
def F54.t18:IR:=.seq F54.t17 .ret
def F54.t19:IR:=.seq F54.t16 F54.t18
def F54.t20:IR:=.seq F54.t0 F54.t19
theorem F54.fG:IR.run F54.t0 C N O K (F54.fr b a c d e) h nx =
 K (F54.fr b (I 0) c d e) h nx:=by kernel_rfl
theorem F54.fK:IR.run F54.t1 C N O K (F54.fr b a c d e) h nx =
 K (F54.fr b a (I 0) d e) h nx:=by kernel_rfl
theorem F54.rE:IR.run F54.t2 C N O K (F54.fr b a c d e) h nx =
 sLen b fun v1=>zf .lss .int c v1 fun v2=>K (F54.fr b a c v2 e) h nx:=by kernel_rfl
theorem F54.v3:Arg.ev (.t (.of 3)) ⟨(F54.fr b a c d e),[]⟩=d:=by kernel_rfl
theorem F54.eH:IR.run F54.t5 C N O K tm h nx=yO F54.r3_0 C ⟨tm,[]⟩ h nx (fun tm h nx=>K tm.v h nx):=kZ ..
theorem F54.zu0:yO (.s (.mv (.t (.of 0)))::.s (.mv (.t (.of 2)))::.s (.zn 1 (.s 1) (.s 0))::.s (.load (.s 0))::.s (.bin .lss .int (.s 0) (.c (I (-999999999))))::.s (.mv (.s 0))::.p .push (some ((.s 0),false)) (.mv (.t (.of 0)))::.p .push (some ((.s 1),false)) (.mv (.t (.of 2)))::r) C ⟨(F54.fr b a c d e),[]⟩ h nx Kt =
 zS 1 b c fun v1=>zB v1 h fun v2=>zf .lss .int v2 (I (-999999999)) fun v3=>sG v3 false (fun k=>k b) fun v4=>sG v3 false (fun k=>k c) fun v5=>yO r C ⟨(F54.fr b a c d e),v5::v4::v3::v3::v2::v1::c::b::[]⟩ h nx Kt:=by kernel_rfl
theorem F54.zmn:yO (.p .push (some ((.s 2),false)) (.zn 1 (.s 1) (.s 0))::.p .push (some ((.s 3),false)) (.load (.s 0))::.p .push (some ((.s 4),false)) (.bin .gtr .int (.s 0) (.c (I 999999999)))::.q (.of 4) (.pick (.s 5) (.c (.bool true)) (.s 0))::[]) C ⟨(F54.fr b a c d e),s0::s1::s2::s3::s4::s5::s6::s7::[]⟩ h nx Kt =
 sG s2 false (fun k=>zS 1 s1 s0 k) fun v1=>sG s2 false (fun k=>zB v1 h k) fun v2=>sG s2 false (fun k=>zf .gtr .int v2 (I 999999999) k) fun v3=>jC s2 (.bool true) v3 fun v4=>Kt ⟨(F54.fr b a c d v4),v3::v2::v1::s0::s1::s2::s3::s4::s5::s6::s7::[]⟩ h nx:=by kernel_rfl
theorem F54.tY:IR.run F54.t6 C N O K (F54.fr b a c d e) h nx =
 K (F54.fr b (I 3) c d e) h nx:=by kernel_rfl
theorem F54.v4:Arg.ev (.t (.of 4)) ⟨(F54.fr b a c d e),[]⟩=e:=by kernel_rfl
theorem F54.ze0:IR.run F54.t11 C N O K (F54.fr b a c d e) h nx =
 zf .add .int c (I 1) fun v1=>K (F54.fr b a v1 d e) h nx:=by kernel_rfl
theorem F54.zmo (Inv:Nat->AV->T Blk->Pa->Prop) {m:Nat} (hm:m<N) (hi:Inv m c h nx)
  (step:∀ (m:Nat) (z1 z2 z3 z4:AV) (h:T Blk) (nx:Pa) (R:Ks Prop),Inv m z2 h nx->(∀ (m':Nat) (w1 w2 w3 w4:AV) (h':T Blk) (nx':Pa),m'<m->Inv m' w2 h' nx'->R (F54.fr b w1 w2 w3 w4) h' nx'=.ok True)->IR.run F54.t13 C N O R (F54.fr b z1 z2 z3 z4) h nx=.ok True) :
  IR.run F54.t14 C N O K (F54.fr b a c d e) h nx=.ok True:=by
 rw [F54.t14];refine yG (fun m tm h nx=>∃ z1 z2 z3 z4,tm=(F54.fr b z1 z2 z3 z4)/\Inv m z2 h nx) ?_ hm ⟨_,_,_,_,rfl,hi⟩;rintro m tm h nx R ⟨z1,z2,z3,z4,rfl,hi⟩ hR;exact step m z1 z2 z3 z4 h nx R hi fun m' w1 w2 w3 w4 h' nx' hlt hi'=>hR m' _ h' nx' hlt ⟨_,_,_,_,rfl,hi'⟩
theorem F54.eU:IR.run F54.t17 C N O K (F54.fr b a c d e) h nx =
 K (F54.fr b (I 0) c d e) h nx:=by kernel_rfl
theorem F54.tab:T.get none (.of 54) tbl=some F54:=by kernel_rfl
theorem F54.bind (k:T AV->OP):yK F54.params [a0] F54.init k=k (F54.fr a0 .undef .undef .undef .undef):=by kernel_rfl
theorem F54.je:F54.body=F54.t20:=by kernel_rfl
theorem F54.go:zO tbl N C (.of 54) [a0] h nx K0=IR.run F54.t20 C N (fnO F54.res K0) (ji F54.res K0) (F54.fr a0 .undef .undef .undef .undef) h nx:=by
 rw [zF F54.tab,F54.bind,F54.je];kernel_rfl
theorem F54.ret:ji F54.res K0 (F54.fr b a c d e) h nx=K0 a h nx:=by kernel_rfl
end
end Go.Ev
namespace Go.Ev
open Go Go.Proofs
set_option maxRecDepth 100000
section
variable {N:Nat} {C:Calls Prop} {K0:Kw Prop} {K:Ks Prop} {h:T Blk} {nx:Pa} {b a c d e i a0 a1:AV} {O:yu Prop} {tm:T AV} {Kt:KTm} {r:List RO} {s0 s1 s2 s3 s4 s5 s6 s7 s8 s9 s10 s11 s12 s13 s14 s15 s16 s17 s18 s19 s20 s21 s22 s23 s24 s25 s26 s27 s28 s29 s30 s31 s32 s33 s34 s35 s36 s37 s38 s39 s40 s41 s42 s43 s44 s45 s46 s47 s48 s49 s50 s51 s52 s53 s54 s55 s56 s57 s58 s59:AV}
end
end Go.Ev
namespace Go.Ev
open Go Go.Proofs
set_option maxRecDepth 100000
section
variable {N:Nat} {C:Calls Prop} {K0:Kw Prop} {K:Ks Prop} {h:T Blk} {nx:Pa} {b a c d e i l a0 a1:AV} {O:yu Prop} {tm:T AV} {Kt:KTm} {r:List RO} {s0 s1 s2 s3 s4 s5 s6 s7 s8 s9 s10 s11 s12 s13 s14 s15 s16 s17 s18 s19 s20 s21 s22 s23 s24 s25 s26 s27 s28 s29 s30 s31 s32 s33 s34 s35 s36 s37 s38 s39 s40 s41 s42 s43 s44 s45 s46 s47 s48 s49 s50 s51 s52 s53 s54 s55 s56 s57 s58 s59:AV}
end
end Go.Ev
namespace Go.Ev
open Go Go.Proofs
set_option maxRecDepth 100000
section
variable {N:Nat} {C:Calls Prop} {K0:Kw Prop} {K:Ks Prop} {h:T Blk} {nx:Pa} {b a c d e i l o q s f p a0 a1:AV} {O:yu Prop} {tm:T AV} {Kt:KTm} {r:List RO} {s0 s1 s2 s3 s4 s5 s6 s7 s8 s9 s10 s11 s12 s13 s14 s15 s16 s17 s18 s19 s20 s21 s22 s23 s24 s25 s26 s27 s28 s29 s30 s31 s32 s33 s34 s35 s36 s37 s38 s39 s40 s41 s42 s43 s44 s45 s46 s47 s48 s49 s50 s51 s52 s53 s54 s55 s56 s57 s58 s59:AV}
end
end Go.Ev
namespace Go.Ev
open Go Go.Proofs
set_option maxRecDepth 100000
section
variable {N:Nat} {C:Calls Prop} {K0:Kw Prop} {K:Ks Prop} {h:T Blk} {nx:Pa} {b a c d e a0 a1:AV} {O:yu Prop} {tm:T AV} {Kt:KTm} {r:List RO} {s0 s1 s2 s3 s4 s5 s6 s7 s8 s9 s10 s11 s12 s13 s14 s15 s16 s17 s18 s19 s20 s21 s22 s23 s24 s25 s26 s27 s28 s29 s30 s31 s32 s33 s34 s35 s36 s37 s38 s39 s40 s41 s42 s43 s44 s45 s46 s47 s48 s49 s50 s51 s52 s53 s54 s55 s56 s57 s58 s59:AV}
end
end Go.Ev
namespace Go.Ev
open Go Go.Proofs
set_option maxRecDepth 100000
section
variable {N:Nat} {C:Calls Prop} {K0:Kw Prop} {K:Ks Prop} {h:T Blk} {nx:Pa} {b a c d e i l o q s f a0 a1:AV} {O:yu Prop} {tm:T AV} {Kt:KTm} {r:List RO} {s0 s1 s2 s3 s4 s5 s6 s7 s8 s9 s10 s11 s12 s13 s14 s15 s16 s17 s18 s19 s20 s21 s22 s23 s24 s25 s26 s27 s28 s29 s30 s31 s32 s33 s34 s35 s36 s37 s38 s39 s40 s41 s42 s43 s44 s45 s46 s47 s48 s49 s50 s51 s52 s53 s54 s55 s56 s57 s58 s59:AV}
end
end Go.Ev
namespace Go.Ev
open Go Go.Proofs
set_option maxRecDepth 100000
section
variable {N:Nat} {C:Calls Prop} {K0:Kw Prop} {K:Ks Prop} {h:T Blk} {nx:Pa} {b a c d e i l o q a0:AV} {O:yu Prop} {tm:T AV} {Kt:KTm} {r:List RO} {s0 s1 s2 s3 s4 s5 s6 s7 s8 s9 s10 s11 s12 s13 s14 s15 s16 s17 s18 s19 s20 s21 s22 s23 s24 s25 s26 s27 s28 s29 s30 s31 s32 s33 s34 s35 s36 s37 s38 s39 s40 s41 s42 s43 s44 s45 s46 s47 s48 s49 s50 s51 s52 s53 s54 s55 s56 s57 s58 s59:AV}
def F74.t0:IR:=.reg [.w (.loc (.of 1)) none (.box (.t (.of 0))),.q (.of 2) (.mv (.c .xw))]
def F74.t1:IR:=.reg [.w .push none .rF,.w (.loc (.of 3)) none (.alloc [.qj]),.w .none none (.store 1 (.t (.of 3)) (.s 0))]
def F74.t2:IR:=.reg [.s (.zi 1 (.t (.of 1))),.q (.of 5) (.load (.s 0)),.q (.of 6) (.len (.t (.of 5))),.q (.of 7) (.mv (.c (I 0)))]
def F74.t3:IR:=.reg [.q (.of 8) (.bin .lss .int (.t (.of 7)) (.t (.of 6)))]
def F74.t4:IR:=.cond (.t (.of 8)) .skip (.exit 0)
def F74.t5:IR:=.reg [.s (.zn 1 (.t (.of 5)) (.t (.of 7))),.s (.load (.s 0)),.q (.of 4) (.mv (.s 0))]
def F74.t6:IR:=.yh [] [(.s (.load (.t (.of 3))),1,[]),(.s (.mv (.t (.of 4))),0,[]),(.s (.build [.zh,(.bool false)] [(0,1,(.s 0))]),0,[]),(.w .push none (.call (.c (.fn 112 (.of 112) [])) [(.s 0)]),0,[]),(.w .none none (.oO .str (.s 3) (.s 0) (.c (.bool true))),0,[])]
def F74.t7:IR:=.seq F74.t5 F74.t6
def F74.t8:IR:=.block 1 F74.t7
def F74.t9:IR:=.reg [.s (.bin .add .int (.t (.of 7)) (.c (I 1))),.q (.of 7) (.mv (.s 0))]
def F74.t10:IR:=.seq F74.t8 F74.t9
def F74.t11:IR:=.seq F74.t4 F74.t10
def F74.t12:IR:=.seq F74.t3 F74.t11
def F74.t13:IR:=.loop F74.t12
def F74.t14:IR:=.block 0 F74.t13
def F74.t15:IR:=.seq F74.t2 F74.t14
def F74.t16:IR:=.reg [.s (.fn 137 (.of 137) [(.t (.of 3))]),.q (.of 2) (.mv (.s 0))]
def F74.t17:IR:=.seq F74.t16 .ret
def F74.t18:IR:=.seq F74.t15 F74.t17
def F74.t19:IR:=.seq F74.t1 F74.t18
def F74.t20:IR:=.seq F74.t0 F74.t19
theorem F74.fG:IR.run F74.t0 C N O K (F74.fr b a c d e i l o q) h nx =
 vw b h nx fun v1 h2 n3=>K (F74.fr b v1 .xw d e i l o q) h2 n3:=by kernel_rfl
theorem F74.fK:IR.run F74.t1 C N O K (F74.fr b a c d e i l o q) h nx =
 d6 h nx fun v1 h2 n3=>yJ [.qj] h2 n3 fun v4 h5 n6=>zQ 1 v4 v1 h5 n6 fun v7 h8 n9=>K (F74.fr b a c v4 e i l o q) h8 n9:=by kernel_rfl
theorem F74.rE:IR.run F74.t2 C N O K (F74.fr b a c d e i l o q) h nx =
 zJ 1 a fun v1=>zB v1 h fun v2=>sLen v2 fun v3=>K (F74.fr b a c d e v2 v3 (I 0) q) h nx:=by kernel_rfl
theorem F74.aI:IR.run F74.t3 C N O K (F74.fr b a c d e i l o q) h nx =
 zf .lss .int o l fun v1=>K (F74.fr b a c d e i l o v1) h nx:=by kernel_rfl
theorem F74.v8:Arg.ev (.t (.of 8)) ⟨(F74.fr b a c d e i l o q),[]⟩=q:=by kernel_rfl
theorem F74.eH:IR.run F74.t5 C N O K (F74.fr b a c d e i l o q) h nx =
 zS 1 i o fun v1=>zB v1 h fun v2=>K (F74.fr b a c d v2 i l o q) h nx:=by kernel_rfl
theorem F74.tY:IR.run F74.t6 C N O K (F74.fr b a c d e i l o q) h nx =
 zB d h fun v1=>y9 [.zh,(.bool false)] [(0,1,e)] fun v2=>C.fn 112 (.of 112) [v2] h nx fun v3 h4 n5=>(zB d h4 fun v9=>zH v9 v1 (xP .str v1 v3 (.bool true) h4 n5 fun v6 h7 n8=>K (F74.fr b a c d e i l o q) h7 n8)):=by kernel_rfl
theorem F74.ak:IR.run F74.t9 C N O K (F74.fr b a c d e i l o q) h nx =
 zf .add .int o (I 1) fun v1=>K (F74.fr b a c d e i l v1 q) h nx:=by kernel_rfl
theorem F74.zmp (Inv:Nat->AV->T Blk->Pa->Prop) {m:Nat} (hm:m<N) (hi:Inv m o h nx)
  (step:∀ (m:Nat) (z4 z7 z8:AV) (h:T Blk) (nx:Pa) (R:Ks Prop),Inv m z7 h nx->(∀ (m':Nat) (w4 w7 w8:AV) (h':T Blk) (nx':Pa),m'<m->Inv m' w7 h' nx'->R (F74.fr b a c d w4 i l w7 w8) h' nx'=.ok True)->IR.run F74.t12 C N O R (F74.fr b a c d z4 i l z7 z8) h nx=.ok True) :
  IR.run F74.t13 C N O K (F74.fr b a c d e i l o q) h nx=.ok True:=by
 rw [F74.t13];refine yG (fun m tm h nx=>∃ z4 z7 z8,tm=(F74.fr b a c d z4 i l z7 z8)/\Inv m z7 h nx) ?_ hm ⟨_,_,_,rfl,hi⟩;rintro m tm h nx R ⟨z4,z7,z8,rfl,hi⟩ hR;exact step m z4 z7 z8 h nx R hi fun m' w4 w7 w8 h' nx' hlt hi'=>hR m' _ h' nx' hlt ⟨_,_,_,rfl,hi'⟩
theorem F74.zae:IR.run F74.t16 C N O K (F74.fr b a c d e i l o q) h nx =
 K (F74.fr b a (.fn 137 (.of 137) [d]) d e i l o q) h nx:=by kernel_rfl
theorem F74.tab:T.get none (.of 74) tbl=some F74:=by kernel_rfl
theorem F74.bind (k:T AV->OP):yK F74.params [a0] F74.init k=k (F74.fr a0 .undef .undef .undef .undef .undef .undef .undef .undef):=by kernel_rfl
theorem F74.je:F74.body=F74.t20:=by kernel_rfl
theorem F74.go:zO tbl N C (.of 74) [a0] h nx K0=IR.run F74.t20 C N (fnO F74.res K0) (ji F74.res K0) (F74.fr a0 .undef .undef .undef .undef .undef .undef .undef .undef) h nx:=by
 rw [zF F74.tab,F74.bind,F74.je];kernel_rfl
theorem F74.ret:ji F74.res K0 (F74.fr b a c d e i l o q) h nx=K0 c h nx:=by kernel_rfl
end
end Go.Ev
namespace Go.Ev
open Go Go.Proofs
set_option maxRecDepth 100000
section
variable {N:Nat} {C:Calls Prop} {K0:Kw Prop} {K:Ks Prop} {h:T Blk} {nx:Pa} {b a c d e i l o q s a0 a1 a2:AV} {O:yu Prop} {tm:T AV} {Kt:KTm} {r:List RO} {s0 s1 s2 s3 s4 s5 s6 s7 s8 s9 s10 s11 s12 s13 s14 s15 s16 s17 s18 s19 s20 s21 s22 s23 s24 s25 s26 s27 s28 s29 s30 s31 s32 s33 s34 s35 s36 s37 s38 s39 s40 s41 s42 s43 s44 s45 s46 s47 s48 s49 s50 s51 s52 s53 s54 s55 s56 s57 s58 s59:AV}
def zx.t0:IR:=.reg [.q (.of 3) (.mv (.c (.bool false)))]
def zx.t1:IR:=.reg [.q (.of 4) (.mv (.c .zh))]
def zx.t2:IR:=.reg [.q (.of 6) (.mv (.t (.of 1))),.q (.of 7) (.len (.t (.of 6))),.q (.of 8) (.mv (.c (I 0)))]
def zx.t3:IR:=.reg [.q (.of 9) (.bin .lss .int (.t (.of 8)) (.t (.of 7)))]
def zx.t4:IR:=.cond (.t (.of 9)) .skip (.exit 0)
def zx.t5:IR:=.reg [.s (.zn 1 (.t (.of 6)) (.t (.of 8))),.s (.load (.s 0)),.q (.of 5) (.mv (.s 0))]
def zx.t6:IR:=.reg [.s (.mv (.t (.of 4))),.s (.mv (.t (.of 0))),.s (.mv (.t (.of 5))),.s (.zn 1 (.s 1) (.s 0)),.s (.load (.s 0)),.w .push none (.yc 1 1 [(I 0)] [(0,1,(.s 0))]),.w .push none (.app 1 8 (.s 5) (.s 0)),.q (.of 4) (.mv (.s 0))]
def zx.t7:IR:=.seq zx.t5 zx.t6
def zx.t8:IR:=.block 1 zx.t7
def zx.t9:IR:=.reg [.s (.bin .add .int (.t (.of 8)) (.c (I 1))),.q (.of 8) (.mv (.s 0))]
def zx.t10:IR:=.seq zx.t8 zx.t9
def zx.t11:IR:=.seq zx.t4 zx.t10
def zx.t12:IR:=.seq zx.t3 zx.t11
def zx.t13:IR:=.loop zx.t12
def zx.t14:IR:=.block 0 zx.t13
def zx.t15:IR:=.seq zx.t2 zx.t14
def zx.t16:IR:=.reg [.s (.mv (.t (.of 4))),.w .push none (.call (.c (.fn 138 (.of 138) [])) [(.s 0)])]
def zx.t17:IR:=.yh [] [(.s (.load (.t (.of 2))),1,[]),(.s (.mv (.t (.of 4))),0,[]),(.s (.build [.zh,(.bool false)] [(0,1,(.s 0))]),0,[]),(.w .push none (.call (.c (.fn 112 (.of 112) [])) [(.s 0)]),0,[]),(.s (.look .str (.bool false) false (.s 3) (.s 0)),0,[]),(.q (.of 3) (.mv (.s 0)),0,[])]
def zx.t18:IR:=.seq zx.t17 .ret
def zx.t19:IR:=.seq zx.t16 zx.t18
def zx.t20:IR:=.seq zx.t15 zx.t19
def zx.t21:IR:=.seq zx.t1 zx.t20
def zx.t22:IR:=.seq zx.t0 zx.t21
theorem zx.fG:IR.run zx.t0 C N O K (zx.fr b a c d e i l o q s) h nx =
 K (zx.fr b a c (.bool false) e i l o q s) h nx:=by kernel_rfl
theorem zx.fK:IR.run zx.t1 C N O K (zx.fr b a c d e i l o q s) h nx =
 K (zx.fr b a c d .zh i l o q s) h nx:=by kernel_rfl
theorem zx.rE:IR.run zx.t2 C N O K (zx.fr b a c d e i l o q s) h nx =
 sLen a fun v1=>K (zx.fr b a c d e i a v1 (I 0) s) h nx:=by kernel_rfl
theorem zx.aI:IR.run zx.t3 C N O K (zx.fr b a c d e i l o q s) h nx =
 zf .lss .int q o fun v1=>K (zx.fr b a c d e i l o q v1) h nx:=by kernel_rfl
theorem zx.v9:Arg.ev (.t (.of 9)) ⟨(zx.fr b a c d e i l o q s),[]⟩=s:=by kernel_rfl
theorem zx.eH:IR.run zx.t5 C N O K (zx.fr b a c d e i l o q s) h nx =
 zS 1 l q fun v1=>zB v1 h fun v2=>K (zx.fr b a c d e v2 l o q s) h nx:=by kernel_rfl
theorem zx.tY:IR.run zx.t6 C N O K (zx.fr b a c d e i l o q s) h nx =
 zS 1 b i fun v1=>zB v1 h fun v2=>yS 1 1 [(I 0)] [(0,1,v2)] h nx fun v3 h4 n5=>tC 1 8 e v3 h4 n5 fun v6 h7 n8=>K (zx.fr b a c d v6 i l o q s) h7 n8:=by kernel_rfl
theorem zx.ak:IR.run zx.t9 C N O K (zx.fr b a c d e i l o q s) h nx =
 zf .add .int q (I 1) fun v1=>K (zx.fr b a c d e i l o v1 s) h nx:=by kernel_rfl
theorem zx.zmp (Inv:Nat->AV->AV->T Blk->Pa->Prop) {m:Nat} (hm:m<N) (hi:Inv m e q h nx)
  (step:∀ (m:Nat) (z4 z5 z8 z9:AV) (h:T Blk) (nx:Pa) (R:Ks Prop),Inv m z4 z8 h nx->(∀ (m':Nat) (w4 w5 w8 w9:AV) (h':T Blk) (nx':Pa),m'<m->Inv m' w4 w8 h' nx'->R (zx.fr b a c d w4 w5 l o w8 w9) h' nx'=.ok True)->IR.run zx.t12 C N O R (zx.fr b a c d z4 z5 l o z8 z9) h nx=.ok True) :
  IR.run zx.t13 C N O K (zx.fr b a c d e i l o q s) h nx=.ok True:=by
 rw [zx.t13];refine yG (fun m tm h nx=>∃ z4 z5 z8 z9,tm=(zx.fr b a c d z4 z5 l o z8 z9)/\Inv m z4 z8 h nx) ?_ hm ⟨_,_,_,_,rfl,hi⟩;rintro m tm h nx R ⟨z4,z5,z8,z9,rfl,hi⟩ hR;exact step m z4 z5 z8 z9 h nx R hi fun m' w4 w5 w8 w9 h' nx' hlt hi'=>hR m' _ h' nx' hlt ⟨_,_,_,_,rfl,hi'⟩
theorem zx.zae:IR.run zx.t16 C N O K (zx.fr b a c d e i l o q s) h nx =
 C.fn 138 (.of 138) [e] h nx fun v1 h2 n3=>K (zx.fr b a c d e i l o q s) h2 n3:=by kernel_rfl
theorem zx.eU:IR.run zx.t17 C N O K (zx.fr b a c d e i l o q s) h nx =
 zB c h fun v1=>y9 [.zh,(.bool false)] [(0,1,e)] fun v2=>C.fn 112 (.of 112) [v2] h nx fun v3 h4 n5=>(zB c h4 fun v7=>zH v7 v1 (zex .str (.bool false) false v1 v3 h4 fun v6=>K (zx.fr b a c v6 e i l o q s) h4 n5)):=by kernel_rfl
theorem zx.tab:T.get none (.of 137) tbl=some zx:=by kernel_rfl
theorem zx.bind (k:T AV->OP):yK zx.params [a0,a1,a2] zx.init k=k (zx.fr a0 a1 a2 .undef .undef .undef .undef .undef .undef .undef):=by kernel_rfl
theorem zx.je:zx.body=zx.t22:=by kernel_rfl
theorem zx.go:zO tbl N C (.of 137) [a0,a1,a2] h nx K0=IR.run zx.t22 C N (fnO zx.res K0) (ji zx.res K0) (zx.fr a0 a1 a2 .undef .undef .undef .undef .undef .undef .undef) h nx:=by
 rw [zF zx.tab,zx.bind,zx.je];kernel_rfl
theorem zx.ret:ji zx.res K0 (zx.fr b a c d e i l o q s) h nx=K0 d h nx:=by kernel_rfl
end
end Go.Ev
namespace Go.Ev
open Go Go.Proofs
set_option maxRecDepth 100000
section
variable {N:Nat} {C:Calls Prop} {K0:Kw Prop} {K:Ks Prop} {h:T Blk} {nx:Pa} {b a c d e i l o q s f p u v w a0 a1:AV} {O:yu Prop} {tm:T AV} {Kt:KTm} {r:List RO} {s0 s1 s2 s3 s4 s5 s6 s7 s8 s9 s10 s11 s12 s13 s14 s15 s16 s17 s18 s19 s20 s21 s22 s23 s24 s25 s26 s27 s28 s29 s30 s31 s32 s33 s34 s35 s36 s37 s38 s39 s40 s41 s42 s43 s44 s45 s46 s47 s48 s49 s50 s51 s52 s53 s54 s55 s56 s57 s58 s59:AV}
def F27.t0:IR:=.reg [.w (.loc (.of 2)) none (.box (.t (.of 0))),.w (.loc (.of 3)) none (.box (.t (.of 1))),.q (.of 4) (.mv (.c (.bool false))),.q (.of 5) (.mv (.c (I 0)))]
def F27.t1:IR:=.yh [] [(.s (.zk 2 (.t (.of 2))),0,[]),(.s (.zk 2 (.t (.of 3))),1,[]),(.s (.zi 0 (.t (.of 2))),1,[]),(.s (.load (.s 0)),1,[]),(.w .push none (.call (.c (.fn 73 (.of 73) [])) [(.s 3)]),0,[]),(.w .push none (.call (.c (.fn 64 (.of 64) [])) [(.s 3),(.s 1)]),0,[]),(.w .push none (.yc 1 2 [(I 0)] [(0,1,(.s 1)),(1,1,(.s 0))]),0,[]),(.w .push none (.call (.c (.fn 72 (.of 72) [])) [(.s 0)]),0,[]),(.q (.of 6) (.mv (.s 0)),0,[])]
def F27.t2:IR:=.reg [.s (.mv (.t (.of 6))),.q (.of 9) (.bin .neq .int (.s 0) (.c (I 0)))]
def F27.t3:IR:=.reg [.s (.mv (.t (.of 6))),.q (.of 4) (.mv (.c (.bool false))),.q (.of 5) (.mv (.s 0))]
def F27.t4:IR:=.seq F27.t3 .ret
def F27.t5:IR:=.cond (.t (.of 9)) F27.t4 .skip
def F27.t6:IR:=.seq F27.t2 F27.t5
def F27.t7:IR:=.seq F27.t1 F27.t6
def F27.t8:IR:=.reg [.s (.zk 2 (.t (.of 2))),.w .push none (.call (.c (.fn 74 (.of 74) [])) [(.s 0)]),.q (.of 7) (.mv (.s 0))]
def F27.t9:IR:=.reg [.s (.zi 1 (.t (.of 2))),.q (.of 10) (.load (.s 0)),.q (.of 11) (.len (.t (.of 10))),.q (.of 12) (.mv (.c (I 0)))]
def F27.t10:IR:=.reg [.q (.of 13) (.bin .lss .int (.t (.of 12)) (.t (.of 11)))]
def F27.t11:IR:=.cond (.t (.of 13)) .skip (.exit 0)
def F27.t12:IR:=.reg [.s (.zn 1 (.t (.of 10)) (.t (.of 12))),.s (.load (.s 0)),.q (.of 8) (.mv (.s 0))]
def F27.t13:IR:=.reg [.s (.mv (.t (.of 7))),.s (.zi 0 (.t (.of 3))),.s (.load (.s 0)),.s (.mv (.t (.of 8))),.w .push none (.call (.s 3) [(.s 1),(.s 0)]),.q (.of 14) (.not (.s 0))]
def F27.t14:IR:=.reg [.q (.of 4) (.mv (.c (.bool false))),.q (.of 5) (.mv (.c (I 0)))]
def F27.t15:IR:=.seq F27.t14 .ret
def F27.t16:IR:=.cond (.t (.of 14)) F27.t15 .skip
def F27.t17:IR:=.seq F27.t13 F27.t16
def F27.t18:IR:=.seq F27.t12 F27.t17
def F27.t19:IR:=.block 1 F27.t18
def F27.t20:IR:=.reg [.s (.bin .add .int (.t (.of 12)) (.c (I 1))),.q (.of 12) (.mv (.s 0))]
def F27.t21:IR:=.seq F27.t19 F27.t20
def F27.t22:IR:=.seq F27.t11 F27.t21
def F27.t23:IR:=.seq F27.t10 F27.t22
def F27.t24:IR:=.loop F27.t23
def F27.t25:IR:=.block 0 F27.t24
def F27.t26:IR:=.seq F27.t9 F27.t25
def F27.t27:IR:=.reg [.q (.of 4) (.mv (.c (.bool true))),.q (.of 5) (.mv (.c (I 0)))]
def F27.t28:IR:=.seq F27.t27 .ret
def F27.t29:IR:=.seq F27.t26 F27.t28
def F27.t30:IR:=.seq F27.t8 F27.t29
def F27.t31:IR:=.seq F27.t7 F27.t30
def F27.t32:IR:=.seq F27.t0 F27.t31
theorem F27.fG:IR.run F27.t0 C N O K (F27.fr b a c d e i l o q s f p u v w) h nx =
 vw b h nx fun v1 h2 n3=>vw a h2 n3 fun v4 h5 n6=>K (F27.fr b a v1 v4 (.bool false) (I 0) l o q s f p u v w) h5 n6:=by kernel_rfl
theorem F27.fK:IR.run F27.t1 C N O K (F27.fr b a c d e i l o q s f p u v w) h nx =
 zN 2 c h fun v1=>zN 2 d h fun v2=>zJ 0 c fun v3=>zB v3 h fun v4=>C.fn 73 (.of 73) [v1] h nx fun v5 h6 n7=>(zB v3 h6 fun vM=>zH vM v4 ((zJ 0 c fun vW=>zH vW v3 ((zN 2 d h6 fun vV=>zH vV v2 (C.fn 64 (.of 64) [v2,v4] h6 n7 fun v8 h9 nF=>yS 1 2 [(I 0)] [(0,1,v5),(1,1,v8)] h9 nF fun vS hF nG=>C.fn 72 (.of 72) [vS] hF nG fun vT hL nM=>K (F27.fr b a c d e i vT o q s f p u v w) hL nM)))))):=by kernel_rfl
theorem F27.rE:IR.run F27.t2 C N O K (F27.fr b a c d e i l o q s f p u v w) h nx =
 zf .neq .int l (I 0) fun v1=>K (F27.fr b a c d e i l o q v1 f p u v w) h nx:=by kernel_rfl
theorem F27.aI:IR.run F27.t3 C N O K (F27.fr b a c d e i l o q s f p u v w) h nx =
 K (F27.fr b a c d (.bool false) l l o q s f p u v w) h nx:=by kernel_rfl
theorem F27.v9:Arg.ev (.t (.of 9)) ⟨(F27.fr b a c d e i l o q s f p u v w),[]⟩=s:=by kernel_rfl
theorem F27.oL:IR.run F27.t8 C N O K (F27.fr b a c d e i l o q s f p u v w) h nx =
 zN 2 c h fun v1=>C.fn 74 (.of 74) [v1] h nx fun v2 h3 n4=>K (F27.fr b a c d e i l v2 q s f p u v w) h3 n4:=by kernel_rfl
theorem F27.ak:IR.run F27.t9 C N O K (F27.fr b a c d e i l o q s f p u v w) h nx =
 zJ 1 c fun v1=>zB v1 h fun v2=>sLen v2 fun v3=>K (F27.fr b a c d e i l o q s v2 v3 (I 0) v w) h nx:=by kernel_rfl
theorem F27.tq:IR.run F27.t10 C N O K (F27.fr b a c d e i l o q s f p u v w) h nx =
 zf .lss .int u p fun v1=>K (F27.fr b a c d e i l o q s f p u v1 w) h nx:=by kernel_rfl
theorem F27.v13:Arg.ev (.t (.of 13)) ⟨(F27.fr b a c d e i l o q s f p u v w),[]⟩=v:=by kernel_rfl
theorem F27.eP:IR.run F27.t12 C N O K (F27.fr b a c d e i l o q s f p u v w) h nx =
 zS 1 f u fun v1=>zB v1 h fun v2=>K (F27.fr b a c d e i l o v2 s f p u v w) h nx:=by kernel_rfl
theorem F27.zad:IR.run F27.t13 C N O K (F27.fr b a c d e i l o q s f p u v w) h nx =
 zJ 0 d fun v1=>zB v1 h fun v2=>u6 C o [v2,q] h nx fun v3 h4 n5=>sNot v3 fun v6=>K (F27.fr b a c d e i l o q s f p u v v6) h4 n5:=by kernel_rfl
theorem F27.aS:IR.run F27.t14 C N O K (F27.fr b a c d e i l o q s f p u v w) h nx =
 K (F27.fr b a c d (.bool false) (I 0) l o q s f p u v w) h nx:=by kernel_rfl
theorem F27.v14:Arg.ev (.t (.of 14)) ⟨(F27.fr b a c d e i l o q s f p u v w),[]⟩=w:=by kernel_rfl
theorem F27.ze1:IR.run F27.t20 C N O K (F27.fr b a c d e i l o q s f p u v w) h nx =
 zf .add .int u (I 1) fun v1=>K (F27.fr b a c d e i l o q s f p v1 v w) h nx:=by kernel_rfl
theorem F27.zmq (Inv:Nat->AV->T Blk->Pa->Prop) {m:Nat} (hm:m<N) (hi:Inv m u h nx)
  (step:∀ (m:Nat) (z4 z5 z8 zE zG zU:AV) (h:T Blk) (nx:Pa) (R:Ks Prop),Inv m zE h nx->(∀ (m':Nat) (w4 w5 w8 wC wD wL:AV) (h':T Blk) (nx':Pa),m'<m->Inv m' wC h' nx'->R (F27.fr b a c d w4 w5 l o w8 s f p wC wD wL) h' nx'=.ok True)->IR.run F27.t23 C N O R (F27.fr b a c d z4 z5 l o z8 s f p zE zG zU) h nx=.ok True) :
  IR.run F27.t24 C N O K (F27.fr b a c d e i l o q s f p u v w) h nx=.ok True:=by
 rw [F27.t24];refine yG (fun m tm h nx=>∃ z4 z5 z8 zE zG zU,tm=(F27.fr b a c d z4 z5 l o z8 s f p zE zG zU)/\Inv m zE h nx) ?_ hm ⟨_,_,_,_,_,_,rfl,hi⟩;rintro m tm h nx R ⟨z4,z5,z8,zE,zG,zU,rfl,hi⟩ hR;exact step m z4 z5 z8 zE zG zU h nx R hi fun m' w4 w5 w8 wC wD wL h' nx' hlt hi'=>hR m' _ h' nx' hlt ⟨_,_,_,_,_,_,rfl,hi'⟩
theorem F27.zxg:IR.run F27.t27 C N O K (F27.fr b a c d e i l o q s f p u v w) h nx =
 K (F27.fr b a c d (.bool true) (I 0) l o q s f p u v w) h nx:=by kernel_rfl
theorem F27.tab:T.get none (.of 27) tbl=some F27:=by kernel_rfl
theorem F27.bind (k:T AV->OP):yK F27.params [a0,a1] F27.init k=k (F27.fr a0 a1 .undef .undef .undef .undef .undef .undef .undef .undef .undef .undef .undef .undef .undef):=by kernel_rfl
theorem F27.je:F27.body=F27.t32:=by kernel_rfl
theorem F27.go:zO tbl N C (.of 27) [a0,a1] h nx K0=IR.run F27.t32 C N (fnO F27.res K0) (ji F27.res K0) (F27.fr a0 a1 .undef .undef .undef .undef .undef .undef .undef .undef .undef .undef .undef .undef .undef) h nx:=by
 rw [zF F27.tab,F27.bind,F27.je];kernel_rfl
theorem F27.ret:ji F27.res K0 (F27.fr b a c d e i l o q s f p u v w) h nx=K0 (.tup [e,i]) h nx:=by kernel_rfl
end
end Go.Ev
namespace Go.Ev
open Go Go.Proofs
set_option maxRecDepth 100000
section
variable {N:Nat} {C:Calls Prop} {K0:Kw Prop} {K:Ks Prop} {h:T Blk} {nx:Pa} {b a c d e i l o q s f p u a0:AV} {O:yu Prop} {tm:T AV} {Kt:KTm} {r:List RO} {s0 s1 s2 s3 s4 s5 s6 s7 s8 s9 s10 s11 s12 s13 s14 s15 s16 s17 s18 s19 s20 s21 s22 s23 s24 s25 s26 s27 s28 s29 s30 s31 s32 s33 s34 s35 s36 s37 s38 s39 s40 s41 s42 s43 s44 s45 s46 s47 s48 s49 s50 s51 s52 s53 s54 s55 s56 s57 s58 s59:AV}
end
end Go.Ev
namespace Go.Ev
open Go Go.Proofs
set_option maxRecDepth 100000
section
variable {N:Nat} {C:Calls Prop} {K0:Kw Prop} {K:Ks Prop} {h:T Blk} {nx:Pa} {b a c d a0 a1 a2:AV} {O:yu Prop} {tm:T AV} {Kt:KTm} {r:List RO} {s0 s1 s2 s3 s4 s5 s6 s7 s8 s9 s10 s11 s12 s13 s14 s15 s16 s17 s18 s19 s20 s21 s22 s23 s24 s25 s26 s27 s28 s29 s30 s31 s32 s33 s34 s35 s36 s37 s38 s39 s40 s41 s42 s43 s44 s45 s46 s47 s48 s49 s50 s51 s52 s53 s54 s55 s56 s57 s58 s59:AV}
end
end Go.Ev
namespace Go.Ev
open Go Go.Proofs
set_option maxRecDepth 100000
section
variable {N:Nat} {C:Calls Prop} {K0:Kw Prop} {K:Ks Prop} {h:T Blk} {nx:Pa} {b a c d e i l o q s f a0 a1:AV} {O:yu Prop} {tm:T AV} {Kt:KTm} {r:List RO} {s0 s1 s2 s3 s4 s5 s6 s7 s8 s9 s10 s11 s12 s13 s14 s15 s16 s17 s18 s19 s20 s21 s22 s23 s24 s25 s26 s27 s28 s29 s30 s31 s32 s33 s34 s35 s36 s37 s38 s39 s40 s41 s42 s43 s44 s45 s46 s47 s48 s49 s50 s51 s52 s53 s54 s55 s56 s57 s58 s59:AV}
def F22.t0:IR:=.reg [.w (.loc (.of 2)) none (.box (.t (.of 0))),.q (.of 3) (.mv (.c .zh)),.q (.of 4) (.mv (.c (I 0)))]
def F22.t1:IR:=.reg [.s (.mv (.t (.of 1))),.w .push none (.call (.c (.fn 63 (.of 63) [])) [(.s 0)]),.q (.of 5) (.mv (.s 0))]
def F22.t2:IR:=.reg [.s (.mv (.t (.of 5))),.q (.of 8) (.bin .neq .int (.s 0) (.c (I 0)))]
def F22.t3:IR:=.reg [.s (.mv (.t (.of 5))),.q (.of 3) (.mv (.c .zh)),.q (.of 4) (.mv (.s 0))]
def F22.t4:IR:=.seq F22.t3 .ret
def F22.t5:IR:=.cond (.t (.of 8)) F22.t4 .skip
def F22.t6:IR:=.seq F22.t2 F22.t5
def F22.t7:IR:=.seq F22.t1 F22.t6
def F22.t8:IR:=.reg [.s (.zk 2 (.t (.of 2))),.s (.mv (.t (.of 1))),.s (.len (.s 0)),.w .push none (.call (.c (.fn 64 (.of 64) [])) [(.s 2),(.s 0)]),.q (.of 6) (.mv (.s 0))]
def F22.t9:IR:=.reg [.s (.mv (.t (.of 6))),.q (.of 9) (.bin .neq .int (.s 0) (.c (I 0)))]
def F22.t10:IR:=.reg [.s (.mv (.t (.of 6))),.q (.of 3) (.mv (.c .zh)),.q (.of 4) (.mv (.s 0))]
def F22.t11:IR:=.seq F22.t10 .ret
def F22.t12:IR:=.cond (.t (.of 9)) F22.t11 .skip
def F22.t13:IR:=.seq F22.t9 F22.t12
def F22.t14:IR:=.seq F22.t8 F22.t13
def F22.t15:IR:=.reg [.s (.zk 2 (.t (.of 2))),.s (.mv (.t (.of 1))),.w .push none (.call (.c (.fn 65 (.of 65) [])) [(.s 1),(.s 0)]),.q (.of 7) (.mv (.s 0))]
def F22.t16:IR:=.reg [.s (.mv (.t (.of 7))),.w (.loc (.of 10)) none (.call (.c (.fn 66 (.of 66) [])) [(.s 0),(.c (.fn 67 (.of 67) []))])]
def F22.t17:IR:=.reg [.q (.of 3) (.mv (.c .zh)),.q (.of 4) (.mv (.c (I 3)))]
def F22.t18:IR:=.seq F22.t17 .ret
def F22.t19:IR:=.cond (.t (.of 10)) F22.t18 .skip
def F22.t20:IR:=.seq F22.t16 F22.t19
def F22.t21:IR:=.reg [.s (.mv (.t (.of 7))),.q (.of 3) (.mv (.s 0)),.q (.of 4) (.mv (.c (I 0)))]
def F22.t22:IR:=.seq F22.t21 .ret
def F22.t23:IR:=.seq F22.t20 F22.t22
def F22.t24:IR:=.seq F22.t15 F22.t23
def F22.t25:IR:=.seq F22.t14 F22.t24
def F22.t26:IR:=.seq F22.t7 F22.t25
def F22.t27:IR:=.seq F22.t0 F22.t26
theorem F22.fG:IR.run F22.t0 C N O K (F22.fr b a c d e i l o q s f) h nx =
 vw b h nx fun v1 h2 n3=>K (F22.fr b a v1 .zh (I 0) i l o q s f) h2 n3:=by kernel_rfl
theorem F22.fK:IR.run F22.t1 C N O K (F22.fr b a c d e i l o q s f) h nx =
 C.fn 63 (.of 63) [a] h nx fun v1 h2 n3=>K (F22.fr b a c d e v1 l o q s f) h2 n3:=by kernel_rfl
theorem F22.rE:IR.run F22.t2 C N O K (F22.fr b a c d e i l o q s f) h nx =
 zf .neq .int i (I 0) fun v1=>K (F22.fr b a c d e i l o v1 s f) h nx:=by kernel_rfl
theorem F22.aI:IR.run F22.t3 C N O K (F22.fr b a c d e i l o q s f) h nx =
 K (F22.fr b a c .zh i i l o q s f) h nx:=by kernel_rfl
theorem F22.v8:Arg.ev (.t (.of 8)) ⟨(F22.fr b a c d e i l o q s f),[]⟩=q:=by kernel_rfl
theorem F22.oL:IR.run F22.t8 C N O K (F22.fr b a c d e i l o q s f) h nx =
 zN 2 c h fun v1=>sLen a fun v2=>C.fn 64 (.of 64) [v1,v2] h nx fun v3 h4 n5=>K (F22.fr b a c d e i v3 o q s f) h4 n5:=by kernel_rfl
theorem F22.ak:IR.run F22.t9 C N O K (F22.fr b a c d e i l o q s f) h nx =
 zf .neq .int l (I 0) fun v1=>K (F22.fr b a c d e i l o q v1 f) h nx:=by kernel_rfl
theorem F22.tq:IR.run F22.t10 C N O K (F22.fr b a c d e i l o q s f) h nx =
 K (F22.fr b a c .zh l i l o q s f) h nx:=by kernel_rfl
theorem F22.v9:Arg.ev (.t (.of 9)) ⟨(F22.fr b a c d e i l o q s f),[]⟩=s:=by kernel_rfl
theorem F22.zas:IR.run F22.t15 C N O K (F22.fr b a c d e i l o q s f) h nx =
 zN 2 c h fun v1=>C.fn 65 (.of 65) [v1,a] h nx fun v2 h3 n4=>K (F22.fr b a c d e i l v2 q s f) h3 n4:=by kernel_rfl
theorem F22.zae:IR.run F22.t16 C N O K (F22.fr b a c d e i l o q s f) h nx =
 C.fn 66 (.of 66) [o,(.fn 67 (.of 67) [])] h nx fun v1 h2 n3=>K (F22.fr b a c d e i l o q s v1) h2 n3:=by kernel_rfl
theorem F22.eU:IR.run F22.t17 C N O K (F22.fr b a c d e i l o q s f) h nx =
 K (F22.fr b a c .zh (I 3) i l o q s f) h nx:=by kernel_rfl
theorem F22.v10:Arg.ev (.t (.of 10)) ⟨(F22.fr b a c d e i l o q s f),[]⟩=f:=by kernel_rfl
theorem F22.zmm:IR.run F22.t21 C N O K (F22.fr b a c d e i l o q s f) h nx =
 K (F22.fr b a c o (I 0) i l o q s f) h nx:=by kernel_rfl
theorem F22.tab:T.get none (.of 22) tbl=some F22:=by kernel_rfl
theorem F22.bind (k:T AV->OP):yK F22.params [a0,a1] F22.init k=k (F22.fr a0 a1 .undef .undef .undef .undef .undef .undef .undef .undef .undef):=by kernel_rfl
theorem F22.je:F22.body=F22.t27:=by kernel_rfl
theorem F22.go:zO tbl N C (.of 22) [a0,a1] h nx K0=IR.run F22.t27 C N (fnO F22.res K0) (ji F22.res K0) (F22.fr a0 a1 .undef .undef .undef .undef .undef .undef .undef .undef .undef) h nx:=by
 rw [zF F22.tab,F22.bind,F22.je];kernel_rfl
theorem F22.ret:ji F22.res K0 (F22.fr b a c d e i l o q s f) h nx=K0 (.tup [d,e]) h nx:=by kernel_rfl
end
end Go.Ev
namespace Go.Ev
open Go Go.Proofs
set_option maxRecDepth 100000
section
variable {N:Nat} {C:Calls Prop} {K0:Kw Prop} {K:Ks Prop} {h:T Blk} {nx:Pa} {b a c d e i l o q s a0:AV} {O:yu Prop} {tm:T AV} {Kt:KTm} {r:List RO} {s0 s1 s2 s3 s4 s5 s6 s7 s8 s9 s10 s11 s12 s13 s14 s15 s16 s17 s18 s19 s20 s21 s22 s23 s24 s25 s26 s27 s28 s29 s30 s31 s32 s33 s34 s35 s36 s37 s38 s39 s40 s41 s42 s43 s44 s45 s46 s47 s48 s49 s50 s51 s52 s53 s54 s55 s56 s57 s58 s59:AV}
end
end Go.Ev
namespace Go.Ev
open Go Go.Proofs
set_option maxRecDepth 100000
section
variable {N:Nat} {C:Calls Prop} {K0:Kw Prop} {K:Ks Prop} {h:T Blk} {nx:Pa} {b a c d e i l o q s f p u v w a0:AV} {O:yu Prop} {tm:T AV} {Kt:KTm} {r:List RO} {s0 s1 s2 s3 s4 s5 s6 s7 s8 s9 s10 s11 s12 s13 s14 s15 s16 s17 s18 s19 s20 s21 s22 s23 s24 s25 s26 s27 s28 s29 s30 s31 s32 s33 s34 s35 s36 s37 s38 s39 s40 s41 s42 s43 s44 s45 s46 s47 s48 s49 s50 s51 s52 s53 s54 s55 s56 s57 s58 s59:AV}
def F29.t0:IR:=.reg [.w (.loc (.of 1)) none (.box (.t (.of 0))),.q (.of 2) (.mv (.c .zh)),.q (.of 3) (.mv (.c (I 0)))]
def F29.t1:IR:=.reg [.s (.load (.t (.of 1))),.w .push none (.call (.c (.fn 57 (.of 57) [])) [(.s 0)]),.q (.of 4) (.mv (.s 0))]
def F29.t2:IR:=.reg [.s (.mv (.t (.of 4))),.q (.of 8) (.bin .neq .int (.s 0) (.c (I 0)))]
def F29.t3:IR:=.reg [.s (.mv (.t (.of 4))),.q (.of 2) (.mv (.c .zh)),.q (.of 3) (.mv (.s 0))]
def F29.t4:IR:=.seq F29.t3 .ret
def F29.t5:IR:=.cond (.t (.of 8)) F29.t4 .skip
def F29.t6:IR:=.seq F29.t2 F29.t5
def F29.t7:IR:=.seq F29.t1 F29.t6
def F29.t8:IR:=.reg [.w .push none .rF,.q (.of 5) (.mv (.s 0))]
def F29.t9:IR:=.reg [.q (.of 9) (.load (.t (.of 1))),.q (.of 10) (.mv (.c (I 0)))]
def F29.t10:IR:=.reg [.q (.of 11) (.bin .lss .int (.t (.of 10)) (.t (.of 9)))]
def F29.t11:IR:=.cond (.t (.of 11)) .skip (.exit 0)
def F29.t12:IR:=.reg [.s (.mv (.t (.of 10))),.w (.loc (.of 6)) none (.alloc [(I 0)]),.w .none none (.store 1 (.t (.of 6)) (.s 0))]
def F29.t13:IR:=.reg [.q (.of 12) (.load (.t (.of 1))),.q (.of 13) (.mv (.c (I 0)))]
def F29.t14:IR:=.reg [.q (.of 14) (.bin .lss .int (.t (.of 13)) (.t (.of 12)))]
def F29.t15:IR:=.cond (.t (.of 14)) .skip (.exit 2)
def F29.t16:IR:=.reg [.s (.mv (.t (.of 13))),.w (.loc (.of 7)) none (.alloc [(I 0)]),.w .none none (.store 1 (.t (.of 7)) (.s 0))]
def F29.t17:IR:=.reg [.s (.mv (.t (.of 5))),.s (.load (.t (.of 1))),.s (.fn 75 (.of 75) [(.t (.of 6)),(.t (.of 1)),(.t (.of 7))]),.w .push none (.call (.c (.fn 58 (.of 58) [])) [(.s 2),(.s 1),(.s 0)])]
def F29.t18:IR:=.seq F29.t16 F29.t17
def F29.t19:IR:=.block 3 F29.t18
def F29.t20:IR:=.reg [.s (.bin .add .int (.t (.of 13)) (.c (I 1))),.q (.of 13) (.mv (.s 0))]
def F29.t21:IR:=.seq F29.t19 F29.t20
def F29.t22:IR:=.seq F29.t15 F29.t21
def F29.t23:IR:=.seq F29.t14 F29.t22
def F29.t24:IR:=.loop F29.t23
def F29.t25:IR:=.block 2 F29.t24
def F29.t26:IR:=.seq F29.t13 F29.t25
def F29.t27:IR:=.seq F29.t12 F29.t26
def F29.t28:IR:=.block 1 F29.t27
def F29.t29:IR:=.reg [.s (.bin .add .int (.t (.of 10)) (.c (I 1))),.q (.of 10) (.mv (.s 0))]
def F29.t30:IR:=.seq F29.t28 F29.t29
def F29.t31:IR:=.seq F29.t11 F29.t30
def F29.t32:IR:=.seq F29.t10 F29.t31
def F29.t33:IR:=.loop F29.t32
def F29.t34:IR:=.block 0 F29.t33
def F29.t35:IR:=.seq F29.t9 F29.t34
def F29.t36:IR:=.reg [.s (.mv (.t (.of 5))),.w .push none (.call (.c (.fn 60 (.of 60) [])) [(.s 0)]),.q (.of 2) (.mv (.s 0)),.q (.of 3) (.mv (.c (I 0)))]
def F29.t37:IR:=.seq F29.t36 .ret
def F29.t38:IR:=.seq F29.t35 F29.t37
def F29.t39:IR:=.seq F29.t8 F29.t38
def F29.t40:IR:=.seq F29.t7 F29.t39
def F29.t41:IR:=.seq F29.t0 F29.t40
theorem F29.fG:IR.run F29.t0 C N O K (F29.fr b a c d e i l o q s f p u v w) h nx =
 vw b h nx fun v1 h2 n3=>K (F29.fr b v1 .zh (I 0) e i l o q s f p u v w) h2 n3:=by kernel_rfl
theorem F29.fK:IR.run F29.t1 C N O K (F29.fr b a c d e i l o q s f p u v w) h nx =
 zB a h fun v1=>C.fn 57 (.of 57) [v1] h nx fun v2 h3 n4=>K (F29.fr b a c d v2 i l o q s f p u v w) h3 n4:=by kernel_rfl
theorem F29.rE:IR.run F29.t2 C N O K (F29.fr b a c d e i l o q s f p u v w) h nx =
 zf .neq .int e (I 0) fun v1=>K (F29.fr b a c d e i l o v1 s f p u v w) h nx:=by kernel_rfl
theorem F29.v8:Arg.ev (.t (.of 8)) ⟨(F29.fr b a c d e i l o q s f p u v w),[]⟩=q:=by kernel_rfl
theorem F29.oL:IR.run F29.t8 C N O K (F29.fr b a c d e i l o q s f p u v w) h nx =
 d6 h nx fun v1 h2 n3=>K (F29.fr b a c d e v1 l o q s f p u v w) h2 n3:=by kernel_rfl
theorem F29.ak:IR.run F29.t9 C N O K (F29.fr b a c d e i l o q s f p u v w) h nx =
 zB a h fun v1=>K (F29.fr b a c d e i l o q v1 (I 0) p u v w) h nx:=by kernel_rfl
theorem F29.tq:IR.run F29.t10 C N O K (F29.fr b a c d e i l o q s f p u v w) h nx =
 zf .lss .int f s fun v1=>K (F29.fr b a c d e i l o q s f v1 u v w) h nx:=by kernel_rfl
theorem F29.v11:Arg.ev (.t (.of 11)) ⟨(F29.fr b a c d e i l o q s f p u v w),[]⟩=p:=by kernel_rfl
theorem F29.eP:IR.run F29.t12 C N O K (F29.fr b a c d e i l o q s f p u v w) h nx =
 yJ [(I 0)] h nx fun v1 h2 n3=>zQ 1 v1 f h2 n3 fun v4 h5 n6=>K (F29.fr b a c d e i v1 o q s f p u v w) h5 n6:=by kernel_rfl
theorem F29.zad:IR.run F29.t13 C N O K (F29.fr b a c d e i l o q s f p u v w) h nx =
 zB a h fun v1=>K (F29.fr b a c d e i l o q s f p v1 (I 0) w) h nx:=by kernel_rfl
theorem F29.aS:IR.run F29.t14 C N O K (F29.fr b a c d e i l o q s f p u v w) h nx =
 zf .lss .int v u fun v1=>K (F29.fr b a c d e i l o q s f p u v v1) h nx:=by kernel_rfl
theorem F29.v14:Arg.ev (.t (.of 14)) ⟨(F29.fr b a c d e i l o q s f p u v w),[]⟩=w:=by kernel_rfl
theorem F29.zae:IR.run F29.t16 C N O K (F29.fr b a c d e i l o q s f p u v w) h nx =
 yJ [(I 0)] h nx fun v1 h2 n3=>zQ 1 v1 v h2 n3 fun v4 h5 n6=>K (F29.fr b a c d e i l v1 q s f p u v w) h5 n6:=by kernel_rfl
theorem F29.eU:IR.run F29.t17 C N O K (F29.fr b a c d e i l o q s f p u v w) h nx =
 zB a h fun v1=>C.fn 58 (.of 58) [i,v1,(.fn 75 (.of 75) [l,a,o])] h nx fun v2 h3 n4=>K (F29.fr b a c d e i l o q s f p u v w) h3 n4:=by kernel_rfl
theorem F29.ze1:IR.run F29.t20 C N O K (F29.fr b a c d e i l o q s f p u v w) h nx =
 zf .add .int v (I 1) fun v1=>K (F29.fr b a c d e i l o q s f p u v1 w) h nx:=by kernel_rfl
theorem F29.zmq (Inv:Nat->AV->T Blk->Pa->Prop) {m:Nat} (hm:m<N) (hi:Inv m v h nx)
  (step:∀ (m:Nat) (z7 zG zU:AV) (h:T Blk) (nx:Pa) (R:Ks Prop),Inv m zG h nx->(∀ (m':Nat) (w7 wD wL:AV) (h':T Blk) (nx':Pa),m'<m->Inv m' wD h' nx'->R (F29.fr b a c d e i l w7 q s f p u wD wL) h' nx'=.ok True)->IR.run F29.t23 C N O R (F29.fr b a c d e i l z7 q s f p u zG zU) h nx=.ok True) :
  IR.run F29.t24 C N O K (F29.fr b a c d e i l o q s f p u v w) h nx=.ok True:=by
 rw [F29.t24];refine yG (fun m tm h nx=>∃ z7 zG zU,tm=(F29.fr b a c d e i l z7 q s f p u zG zU)/\Inv m zG h nx) ?_ hm ⟨_,_,_,rfl,hi⟩;rintro m tm h nx R ⟨z7,zG,zU,rfl,hi⟩ hR;exact step m z7 zG zU h nx R hi fun m' w7 wD wL h' nx' hlt hi'=>hR m' _ h' nx' hlt ⟨_,_,_,rfl,hi'⟩
theorem F29.zmr:IR.run F29.t29 C N O K (F29.fr b a c d e i l o q s f p u v w) h nx =
 zf .add .int f (I 1) fun v1=>K (F29.fr b a c d e i l o q s v1 p u v w) h nx:=by kernel_rfl
theorem F29.zxh (Inv:Nat->AV->T Blk->Pa->Prop) {m:Nat} (hm:m<N) (hi:Inv m f h nx)
  (step:∀ (m:Nat) (z6 z7 zC zD zE zG zU:AV) (h:T Blk) (nx:Pa) (R:Ks Prop),Inv m zC h nx->(∀ (m':Nat) (w6 w7 wA wB wC wD wL:AV) (h':T Blk) (nx':Pa),m'<m->Inv m' wA h' nx'->R (F29.fr b a c d e i w6 w7 q s wA wB wC wD wL) h' nx'=.ok True)->IR.run F29.t32 C N O R (F29.fr b a c d e i z6 z7 q s zC zD zE zG zU) h nx=.ok True) :
  IR.run F29.t33 C N O K (F29.fr b a c d e i l o q s f p u v w) h nx=.ok True:=by
 rw [F29.t33];refine yG (fun m tm h nx=>∃ z6 z7 zC zD zE zG zU,tm=(F29.fr b a c d e i z6 z7 q s zC zD zE zG zU)/\Inv m zC h nx) ?_ hm ⟨_,_,_,_,_,_,_,rfl,hi⟩;rintro m tm h nx R ⟨z6,z7,zC,zD,zE,zG,zU,rfl,hi⟩ hR;exact step m z6 z7 zC zD zE zG zU h nx R hi fun m' w6 w7 wA wB wC wD wL h' nx' hlt hi'=>hR m' _ h' nx' hlt ⟨_,_,_,_,_,_,_,rfl,hi'⟩
theorem F29.zxi:IR.run F29.t36 C N O K (F29.fr b a c d e i l o q s f p u v w) h nx =
 C.fn 60 (.of 60) [i] h nx fun v1 h2 n3=>K (F29.fr b a v1 (I 0) e i l o q s f p u v w) h2 n3:=by kernel_rfl
theorem F29.tab:T.get none (.of 29) tbl=some F29:=by kernel_rfl
theorem F29.bind (k:T AV->OP):yK F29.params [a0] F29.init k=k (F29.fr a0 .undef .undef .undef .undef .undef .undef .undef .undef .undef .undef .undef .undef .undef .undef):=by kernel_rfl
theorem F29.je:F29.body=F29.t41:=by kernel_rfl
theorem F29.go:zO tbl N C (.of 29) [a0] h nx K0=IR.run F29.t41 C N (fnO F29.res K0) (ji F29.res K0) (F29.fr a0 .undef .undef .undef .undef .undef .undef .undef .undef .undef .undef .undef .undef .undef .undef) h nx:=by
 rw [zF F29.tab,F29.bind,F29.je];kernel_rfl
theorem F29.ret:ji F29.res K0 (F29.fr b a c d e i l o q s f p u v w) h nx=K0 (.tup [c,d]) h nx:=by kernel_rfl
end
end Go.Ev
namespace Go.Ev
open Go Go.Proofs
set_option maxRecDepth 100000
section
variable {N:Nat} {C:Calls Prop} {K0:Kw Prop} {K:Ks Prop} {h:T Blk} {nx:Pa} {b a a0:AV} {O:yu Prop} {tm:T AV} {Kt:KTm} {r:List RO} {s0 s1 s2 s3 s4 s5 s6 s7 s8 s9 s10 s11 s12 s13 s14 s15 s16 s17 s18 s19 s20 s21 s22 s23 s24 s25 s26 s27 s28 s29 s30 s31 s32 s33 s34 s35 s36 s37 s38 s39 s40 s41 s42 s43 s44 s45 s46 s47 s48 s49 s50 s51 s52 s53 s54 s55 s56 s57 s58 s59:AV}
def F57.t0:IR:=.reg [.q (.of 1) (.mv (.c (I 0)))]
def F57.t1:IR:=.reg [.s (.mv (.t (.of 0))),.s (.bin .lss .int (.s 0) (.c (I 1))),.s (.mv (.s 0)),.p .push (some ((.s 0),false)) (.mv (.t (.of 0))),.p .push (some ((.s 1),false)) (.bin .gtr .int (.s 0) (.c (I 16))),.s (.pick (.s 2) (.c (.bool true)) (.s 0)),.w .push none (.call (.c (.fn 76 (.of 76) [])) [(.s 0),(.c (I 3))]),.q (.of 1) (.mv (.s 0))]
def F57.t2:IR:=.seq F57.t1 .ret
def F57.t3:IR:=.seq F57.t0 F57.t2
theorem F57.fG:IR.run F57.t0 C N O K (F57.fr b a) h nx =
 K (F57.fr b (I 0)) h nx:=by kernel_rfl
theorem F57.fK:IR.run F57.t1 C N O K (F57.fr b a) h nx =
 zf .lss .int b (I 1) fun v1=>sG v1 false (fun k=>k b) fun v2=>sG v1 false (fun k=>zf .gtr .int v2 (I 16) k) fun v3=>jC v1 (.bool true) v3 fun v4=>C.fn 76 (.of 76) [v4,(I 3)] h nx fun v5 h6 n7=>K (F57.fr b v5) h6 n7:=by kernel_rfl
theorem F57.tab:T.get none (.of 57) tbl=some F57:=by kernel_rfl
theorem F57.bind (k:T AV->OP):yK F57.params [a0] F57.init k=k (F57.fr a0 .undef):=by kernel_rfl
theorem F57.je:F57.body=F57.t3:=by kernel_rfl
theorem F57.go:zO tbl N C (.of 57) [a0] h nx K0=IR.run F57.t3 C N (fnO F57.res K0) (ji F57.res K0) (F57.fr a0 .undef) h nx:=by
 rw [zF F57.tab,F57.bind,F57.je];kernel_rfl
theorem F57.ret:ji F57.res K0 (F57.fr b a) h nx=K0 a h nx:=by kernel_rfl
end
end Go.Ev
namespace Go.Ev
open Go Go.Proofs
set_option maxRecDepth 100000
section
variable {N:Nat} {C:Calls Prop} {K0:Kw Prop} {K:Ks Prop} {h:T Blk} {nx:Pa} {b a c d e i l o q s a0 a1 a2:AV} {O:yu Prop} {tm:T AV} {Kt:KTm} {r:List RO} {s0 s1 s2 s3 s4 s5 s6 s7 s8 s9 s10 s11 s12 s13 s14 s15 s16 s17 s18 s19 s20 s21 s22 s23 s24 s25 s26 s27 s28 s29 s30 s31 s32 s33 s34 s35 s36 s37 s38 s39 s40 s41 s42 s43 s44 s45 s46 s47 s48 s49 s50 s51 s52 s53 s54 s55 s56 s57 s58 s59:AV}
def F58.t0:IR:=.reg [.s (.mv (.t (.of 1))),.s (.mv (.t (.of 1))),.s (.bin .mul .int (.s 1) (.s 0)),.w .push none (.vk 1 8 [(I 0)] (.s 0) (.s 0)),.s (.build [.zh,(.bool false)] [(0,1,(.s 0))]),.w (.loc (.of 3)) none (.alloc [.zh,(.bool false)]),.w .none none (.store 2 (.t (.of 3)) (.s 0))]
def F58.t1:IR:=.reg [.s (.zi 0 (.t (.of 3))),.s (.load (.s 0)),.q (.of 7) (.len (.s 0)),.q (.of 8) (.mv (.c (I 0)))]
def F58.t2:IR:=.reg [.q (.of 9) (.bin .lss .int (.t (.of 8)) (.t (.of 7)))]
def F58.t3:IR:=.cond (.t (.of 9)) .skip (.exit 0)
def F58.t4:IR:=.reg [.s (.mv (.t (.of 8))),.q (.of 4) (.mv (.s 0))]
def F58.t5:IR:=.yh [] [(.s (.mv (.t (.of 2))),0,[]),(.s (.mv (.t (.of 4))),0,[]),(.s (.mv (.t (.of 1))),0,[]),(.s (.bin .quo .int (.s 1) (.s 0)),0,[]),(.s (.mv (.t (.of 4))),0,[]),(.s (.mv (.t (.of 1))),0,[]),(.s (.bin .rem .int (.s 1) (.s 0)),0,[]),(.w .push none (.call (.s 6) [(.s 3),(.s 0)]),0,[]),(.s (.mv (.s 0)),0,[]),(.s (.ext 0 (.s 0)),0,[]),(.s (.ext 1 (.s 1)),0,[]),(.q (.of 5) (.mv (.s 1)),0,[]),(.q (.of 6) (.mv (.s 0)),0,[])]
def F58.t6:IR:=.reg [.s (.zi 0 (.t (.of 3))),.s (.load (.s 0)),.s (.mv (.t (.of 4))),.s (.mv (.t (.of 1))),.s (.mv (.t (.of 5))),.s (.bin .mul .int (.s 1) (.s 0)),.s (.mv (.t (.of 6))),.s (.bin .add .int (.s 1) (.s 0)),.s (.zn 1 (.s 6) (.s 5)),.w .none none (.store 1 (.s 0) (.s 1))]
def F58.t7:IR:=.seq F58.t5 F58.t6
def F58.t8:IR:=.seq F58.t4 F58.t7
def F58.t9:IR:=.block 1 F58.t8
def F58.t10:IR:=.reg [.s (.bin .add .int (.t (.of 8)) (.c (I 1))),.q (.of 8) (.mv (.s 0))]
def F58.t11:IR:=.seq F58.t9 F58.t10
def F58.t12:IR:=.seq F58.t3 F58.t11
def F58.t13:IR:=.seq F58.t2 F58.t12
def F58.t14:IR:=.loop F58.t13
def F58.t15:IR:=.block 0 F58.t14
def F58.t16:IR:=.seq F58.t1 F58.t15
def F58.t17:IR:=.yh [] [(.s (.mv (.t (.of 0))),1,[]),(.s (.zk 2 (.t (.of 3))),0,[]),(.s (.zk 2 (.t (.of 3))),1,[]),(.w .push none (.call (.c (.fn 112 (.of 112) [])) [(.s 1)]),0,[]),(.w .none none (.oO .str (.s 3) (.s 0) (.s 1)),0,[])]
def F58.t18:IR:=.seq F58.t16 F58.t17
def F58.t19:IR:=.seq F58.t0 F58.t18
theorem F58.fG:IR.run F58.t0 C N O K (F58.fr b a c d e i l o q s) h nx =
 zf .mul .int a a fun v1=>uF 1 8 [(I 0)] v1 v1 h nx fun v2 h3 n4=>y9 [.zh,(.bool false)] [(0,1,v2)] fun v5=>yJ [.zh,(.bool false)] h3 n4 fun v6 h7 n8=>zQ 2 v6 v5 h7 n8 fun v9 hV nV=>K (F58.fr b a c v6 e i l o q s) hV nV:=by kernel_rfl
theorem F58.fK:IR.run F58.t1 C N O K (F58.fr b a c d e i l o q s) h nx =
 zJ 0 d fun v1=>zB v1 h fun v2=>sLen v2 fun v3=>K (F58.fr b a c d e i l v3 (I 0) s) h nx:=by kernel_rfl
theorem F58.rE:IR.run F58.t2 C N O K (F58.fr b a c d e i l o q s) h nx =
 zf .lss .int q o fun v1=>K (F58.fr b a c d e i l o q v1) h nx:=by kernel_rfl
theorem F58.v9:Arg.ev (.t (.of 9)) ⟨(F58.fr b a c d e i l o q s),[]⟩=s:=by kernel_rfl
theorem F58.t4_s:IR.run F58.t4 C N O K (F58.fr b a c d e i l o q s) h nx =
 K (F58.fr b a c d q i l o q s) h nx:=by kernel_rfl
theorem F58.eH:IR.run F58.t5 C N O K (F58.fr b a c d e i l o q s) h nx =
 zf .quo .int e a fun v1=>zf .rem .int e a fun v2=>u6 C c [v1,v2] h nx fun v3 h4 n5=>fC 0 v3 fun v6=>fC 1 v3 fun v7=>K (F58.fr b a c d e v6 v7 o q s) h4 n5:=by kernel_rfl
theorem F58.tY:IR.run F58.t6 C N O K (F58.fr b a c d e i l o q s) h nx =
 zJ 0 d fun v1=>zB v1 h fun v2=>zf .mul .int a i fun v3=>zf .add .int v3 l fun v4=>zS 1 v2 e fun v5=>zQ 1 v5 v4 h nx fun v6 h7 n8=>K (F58.fr b a c d e i l o q s) h7 n8:=by kernel_rfl
theorem F58.tq:IR.run F58.t10 C N O K (F58.fr b a c d e i l o q s) h nx =
 zf .add .int q (I 1) fun v1=>K (F58.fr b a c d e i l o v1 s) h nx:=by kernel_rfl
theorem F58.zmo (Inv:Nat->AV->T Blk->Pa->Prop) {m:Nat} (hm:m<N) (hi:Inv m q h nx)
  (step:∀ (m:Nat) (z4 z5 z6 z8 z9:AV) (h:T Blk) (nx:Pa) (R:Ks Prop),Inv m z8 h nx->(∀ (m':Nat) (w4 w5 w6 w8 w9:AV) (h':T Blk) (nx':Pa),m'<m->Inv m' w8 h' nx'->R (F58.fr b a c d w4 w5 w6 o w8 w9) h' nx'=.ok True)->IR.run F58.t13 C N O R (F58.fr b a c d z4 z5 z6 o z8 z9) h nx=.ok True) :
  IR.run F58.t14 C N O K (F58.fr b a c d e i l o q s) h nx=.ok True:=by
 rw [F58.t14];refine yG (fun m tm h nx=>∃ z4 z5 z6 z8 z9,tm=(F58.fr b a c d z4 z5 z6 o z8 z9)/\Inv m z8 h nx) ?_ hm ⟨_,_,_,_,_,rfl,hi⟩;rintro m tm h nx R ⟨z4,z5,z6,z8,z9,rfl,hi⟩ hR;exact step m z4 z5 z6 z8 z9 h nx R hi fun m' w4 w5 w6 w8 w9 h' nx' hlt hi'=>hR m' _ h' nx' hlt ⟨_,_,_,_,_,rfl,hi'⟩
theorem F58.eU:IR.run F58.t17 C N O K (F58.fr b a c d e i l o q s) h nx =
 zN 2 d h fun v1=>zN 2 d h fun v2=>C.fn 112 (.of 112) [v1] h nx fun v3 h4 n5=>(zN 2 d h4 fun v9=>zH v9 v2 (zH b b (xP .str b v3 v2 h4 n5 fun v6 h7 n8=>K (F58.fr b a c d e i l o q s) h7 n8))):=by kernel_rfl
theorem F58.tab:T.get none (.of 58) tbl=some F58:=by kernel_rfl
theorem F58.bind (k:T AV->OP):yK F58.params [a0,a1,a2] F58.init k=k (F58.fr a0 a1 a2 .undef .undef .undef .undef .undef .undef .undef):=by kernel_rfl
theorem F58.je:F58.body=F58.t19:=by kernel_rfl
theorem F58.go:zO tbl N C (.of 58) [a0,a1,a2] h nx K0=IR.run F58.t19 C N (fnO F58.res K0) (ji F58.res K0) (F58.fr a0 a1 a2 .undef .undef .undef .undef .undef .undef .undef) h nx:=by
 rw [zF F58.tab,F58.bind,F58.je];kernel_rfl
theorem F58.ret:ji F58.res K0 (F58.fr b a c d e i l o q s) h nx=K0 (.tup []) h nx:=by kernel_rfl
end
end Go.Ev
namespace Go.Ev
open Go Go.Proofs
set_option maxRecDepth 100000
section
variable {N:Nat} {C:Calls Prop} {K0:Kw Prop} {K:Ks Prop} {h:T Blk} {nx:Pa} {b a c d e i l o q a0 a1 a2 a3:AV} {O:yu Prop} {tm:T AV} {Kt:KTm} {r:List RO} {s0 s1 s2 s3 s4 s5 s6 s7 s8 s9 s10 s11 s12 s13 s14 s15 s16 s17 s18 s19 s20 s21 s22 s23 s24 s25 s26 s27 s28 s29 s30 s31 s32 s33 s34 s35 s36 s37 s38 s39 s40 s41 s42 s43 s44 s45 s46 s47 s48 s49 s50 s51 s52 s53 s54 s55 s56 s57 s58 s59:AV}
end
end Go.Ev
namespace Go.Ev
open Go Go.Proofs
set_option maxRecDepth 100000
section
variable {N:Nat} {C:Calls Prop} {K0:Kw Prop} {K:Ks Prop} {h:T Blk} {nx:Pa} {b a c d e i l a0 a1 a2 a3 a4:AV} {O:yu Prop} {tm:T AV} {Kt:KTm} {r:List RO} {s0 s1 s2 s3 s4 s5 s6 s7 s8 s9 s10 s11 s12 s13 s14 s15 s16 s17 s18 s19 s20 s21 s22 s23 s24 s25 s26 s27 s28 s29 s30 s31 s32 s33 s34 s35 s36 s37 s38 s39 s40 s41 s42 s43 s44 s45 s46 s47 s48 s49 s50 s51 s52 s53 s54 s55 s56 s57 s58 s59:AV}
def F75.t0:IR:=.reg [.q (.of 5) (.mv (.c (I 0))),.q (.of 6) (.mv (.c (I 0)))]
def F75.t1:IR:=.yh [] [(.s (.mv (.t (.of 0))),0,[]),(.s (.load (.t (.of 2))),0,[]),(.s (.bin .add .int (.s 1) (.s 0)),0,[]),(.s (.load (.t (.of 3))),0,[]),(.s (.bin .rem .int (.s 1) (.s 0)),0,[]),(.s (.mv (.t (.of 1))),0,[]),(.s (.load (.t (.of 4))),0,[]),(.s (.bin .add .int (.s 1) (.s 0)),0,[]),(.s (.load (.t (.of 3))),0,[]),(.s (.bin .rem .int (.s 1) (.s 0)),0,[]),(.q (.of 5) (.mv (.s 5)),0,[]),(.q (.of 6) (.mv (.s 0)),0,[])]
def F75.t2:IR:=.seq F75.t1 .ret
def F75.t3:IR:=.seq F75.t0 F75.t2
theorem F75.fG:IR.run F75.t0 C N O K (F75.fr b a c d e i l) h nx =
 K (F75.fr b a c d e (I 0) (I 0)) h nx:=by kernel_rfl
theorem F75.fK:IR.run F75.t1 C N O K (F75.fr b a c d e i l) h nx =
 zB c h fun v1=>zf .add .int b v1 fun v2=>zB d h fun v3=>zf .rem .int v2 v3 fun v4=>zB e h fun v5=>zf .add .int a v5 fun v6=>zB d h fun v7=>zf .rem .int v6 v7 fun v8=>K (F75.fr b a c d e v4 v8) h nx:=by kernel_rfl
theorem F75.tab:T.get none (.of 75) tbl=some F75:=by kernel_rfl
theorem F75.bind (k:T AV->OP):yK F75.params [a0,a1,a2,a3,a4] F75.init k=k (F75.fr a0 a1 a2 a3 a4 .undef .undef):=by kernel_rfl
theorem F75.je:F75.body=F75.t3:=by kernel_rfl
theorem F75.go:zO tbl N C (.of 75) [a0,a1,a2,a3,a4] h nx K0=IR.run F75.t3 C N (fnO F75.res K0) (ji F75.res K0) (F75.fr a0 a1 a2 a3 a4 .undef .undef) h nx:=by
 rw [zF F75.tab,F75.bind,F75.je];kernel_rfl
theorem F75.ret:ji F75.res K0 (F75.fr b a c d e i l) h nx=K0 (.tup [i,l]) h nx:=by kernel_rfl
end
end Go.Ev
namespace Go.Ev
open Go Go.Proofs
set_option maxRecDepth 100000
section
variable {N:Nat} {C:Calls Prop} {K0:Kw Prop} {K:Ks Prop} {h:T Blk} {nx:Pa} {b a c d e i l o q s f p a0 a1 a2 a3 a4 a5:AV} {O:yu Prop} {tm:T AV} {Kt:KTm} {r:List RO} {s0 s1 s2 s3 s4 s5 s6 s7 s8 s9 s10 s11 s12 s13 s14 s15 s16 s17 s18 s19 s20 s21 s22 s23 s24 s25 s26 s27 s28 s29 s30 s31 s32 s33 s34 s35 s36 s37 s38 s39 s40 s41 s42 s43 s44 s45 s46 s47 s48 s49 s50 s51 s52 s53 s54 s55 s56 s57 s58 s59:AV}
def F77.t0:IR:=.reg [.s (.mv (.t (.of 0))),.s (.load (.t (.of 1))),.s (.bin .add .int (.s 0) (.c (I 1))),.s (.bin .quo .int (.s 0) (.c (I 2))),.q (.of 7) (.bin .eql .int (.s 3) (.s 0))]
def F77.t1:IR:=.reg [.s (.load (.t (.of 2))),.s (.load (.t (.of 1))),.s (.fn 78 (.of 78) [(.t (.of 3))]),.w .push none (.call (.c (.fn 58 (.of 58) [])) [(.s 2),(.s 1),(.s 0)])]
def F77.t2:IR:=.seq F77.t1 .ret
def F77.t3:IR:=.cond (.t (.of 7)) F77.t2 .skip
def F77.t4:IR:=.seq F77.t0 F77.t3
def F77.t5:IR:=.reg [.q (.of 8) (.load (.t (.of 1))),.q (.of 9) (.mv (.c (I 0)))]
def F77.t6:IR:=.reg [.q (.of 10) (.bin .lss .int (.t (.of 9)) (.t (.of 8)))]
def F77.t7:IR:=.cond (.t (.of 10)) .skip (.exit 0)
def F77.t8:IR:=.reg [.s (.mv (.t (.of 9))),.q (.of 6) (.mv (.s 0))]
def F77.r5_2:List RO:=.q (.of 11) (.pick (.s 11) (.c (.bool true)) (.s 0))::[]
def F77.r5_1:List RO:=.p .push (some ((.s 3),false)) (.bin .sub .int (.s 0) (.c (I 1)))::.p .push (some ((.s 4),false)) (.bin .eql .int (.s 2) (.s 0))::.p .push (some ((.s 5),false)) (.mv (.t (.of 6)))::.p .push (some ((.s 6),false)) (.bin .mul .int (.c (I 2)) (.s 0))::.p .push (some ((.s 7),false)) (.load (.t (.of 1)))::.p .push (some ((.s 8),false)) (.bin .sub .int (.s 0) (.c (I 1)))::.p .push (some ((.s 9),false)) (.bin .eql .int (.s 2) (.s 0))::.p .push (some ((.s 10),false)) (.bin .neq .bool (.s 5) (.s 0))::F77.r5_2
def F77.r5_0:List RO:=.s (.load (.t (.of 4)))::.s (.mv (.t (.of 6)))::.s (.zn 1 (.s 1) (.s 0))::.s (.load (.s 0))::.s (.mv (.s 0))::.p .push (some ((.s 0),false)) (.mv (.t (.of 0)))::.p .push (some ((.s 1),false)) (.bin .mul .int (.c (I 2)) (.s 0))::.p .push (some ((.s 2),false)) (.load (.t (.of 1)))::F77.r5_1
def F77.t9:IR:=.reg F77.r5_0
def F77.t10:IR:=.cond (.t (.of 11)) (.exit 1) .skip
def F77.t11:IR:=.seq F77.t9 F77.t10
def F77.t12:IR:=.yh [] [(.s (.load (.t (.of 3))),0,[]),(.s (.mv (.t (.of 0))),0,[]),(.s (.load (.t (.of 3))),1,[]),(.s (.load (.t (.of 1))),1,[]),(.s (.bin .sub .int (.s 0) (.c (I 1))),1,[]),(.s (.mv (.t (.of 0))),1,[]),(.s (.bin .sub .int (.s 1) (.s 0)),1,[]),(.s (.mv (.t (.of 6))),0,[]),(.s (.load (.t (.of 1))),1,[]),(.s (.bin .sub .int (.s 0) (.c (I 1))),1,[]),(.s (.mv (.t (.of 6))),1,[]),(.s (.bin .sub .int (.s 1) (.s 0)),1,[]),(.s (.zn 1 (.s 11) (.s 10)),0,[]),(.w .none none (.store 1 (.s 0) (.s 5)),0,[]),(.s (.zn 1 (.s 10) (.s 6)),0,[]),(.w .none none (.store 1 (.s 0) (.s 2)),0,[])]
def F77.t13:IR:=.yh [] [(.s (.load (.t (.of 4))),0,[]),(.s (.mv (.t (.of 6))),0,[]),(.s (.load (.t (.of 4))),1,[]),(.s (.load (.t (.of 1))),1,[]),(.s (.bin .sub .int (.s 0) (.c (I 1))),1,[]),(.s (.mv (.t (.of 6))),1,[]),(.s (.bin .sub .int (.s 1) (.s 0)),1,[]),(.s (.zn 1 (.s 6) (.s 5)),0,[]),(.w .none none (.store 1 (.s 0) (.c (.bool true))),0,[]),(.s (.zn 1 (.s 5) (.s 1)),0,[]),(.w .none none (.store 1 (.s 0) (.c (.bool true))),0,[])]
def F77.t14:IR:=.reg [.s (.load (.t (.of 5))),.s (.mv (.t (.of 0))),.s (.bin .add .int (.s 0) (.c (I 1))),.w .push none (.call (.s 2) [(.s 0)])]
def F77.t15:IR:=.yh [] [(.s (.load (.t (.of 4))),0,[]),(.s (.mv (.t (.of 6))),0,[]),(.s (.load (.t (.of 4))),1,[]),(.s (.load (.t (.of 1))),1,[]),(.s (.bin .sub .int (.s 0) (.c (I 1))),1,[]),(.s (.mv (.t (.of 6))),1,[]),(.s (.bin .sub .int (.s 1) (.s 0)),1,[]),(.s (.zn 1 (.s 6) (.s 5)),0,[]),(.w .none none (.store 1 (.s 0) (.c (.bool false))),0,[]),(.s (.zn 1 (.s 5) (.s 1)),0,[]),(.w .none none (.store 1 (.s 0) (.c (.bool false))),0,[])]
def F77.t16:IR:=.seq F77.t14 F77.t15
def F77.t17:IR:=.seq F77.t13 F77.t16
def F77.t18:IR:=.seq F77.t12 F77.t17
def F77.t19:IR:=.seq F77.t11 F77.t18
def F77.t20:IR:=.seq F77.t8 F77.t19
def F77.t21:IR:=.block 1 F77.t20
def F77.t22:IR:=.reg [.s (.bin .add .int (.t (.of 9)) (.c (I 1))),.q (.of 9) (.mv (.s 0))]
def F77.t23:IR:=.seq F77.t21 F77.t22
def F77.t24:IR:=.seq F77.t7 F77.t23
def F77.t25:IR:=.seq F77.t6 F77.t24
def F77.t26:IR:=.loop F77.t25
def F77.t27:IR:=.block 0 F77.t26
def F77.t28:IR:=.seq F77.t5 F77.t27
def F77.t29:IR:=.seq F77.t4 F77.t28
theorem F77.fG:IR.run F77.t0 C N O K (F77.fr b a c d e i l o q s f p) h nx =
 zB a h fun v1=>zf .add .int v1 (I 1) fun v2=>zf .quo .int v2 (I 2) fun v3=>zf .eql .int b v3 fun v4=>K (F77.fr b a c d e i l v4 q s f p) h nx:=by kernel_rfl
theorem F77.fK:IR.run F77.t1 C N O K (F77.fr b a c d e i l o q s f p) h nx =
 zB c h fun v1=>zB a h fun v2=>C.fn 58 (.of 58) [v1,v2,(.fn 78 (.of 78) [d])] h nx fun v3 h4 n5=>K (F77.fr b a c d e i l o q s f p) h4 n5:=by kernel_rfl
theorem F77.v7:Arg.ev (.t (.of 7)) ⟨(F77.fr b a c d e i l o q s f p),[]⟩=o:=by kernel_rfl
theorem F77.eH:IR.run F77.t5 C N O K (F77.fr b a c d e i l o q s f p) h nx =
 zB a h fun v1=>K (F77.fr b a c d e i l o v1 (I 0) f p) h nx:=by kernel_rfl
theorem F77.tY:IR.run F77.t6 C N O K (F77.fr b a c d e i l o q s f p) h nx =
 zf .lss .int s q fun v1=>K (F77.fr b a c d e i l o q s v1 p) h nx:=by kernel_rfl
theorem F77.v10:Arg.ev (.t (.of 10)) ⟨(F77.fr b a c d e i l o q s f p),[]⟩=f:=by kernel_rfl
theorem F77.oL:IR.run F77.t8 C N O K (F77.fr b a c d e i l o q s f p) h nx =
 K (F77.fr b a c d e i s o q s f p) h nx:=by kernel_rfl
theorem F77.ak:IR.run F77.t9 C N O K tm h nx=yO F77.r5_0 C ⟨tm,[]⟩ h nx (fun tm h nx=>K tm.v h nx):=kZ ..
theorem F77.zu1:yO (.s (.load (.t (.of 4)))::.s (.mv (.t (.of 6)))::.s (.zn 1 (.s 1) (.s 0))::.s (.load (.s 0))::.s (.mv (.s 0))::.p .push (some ((.s 0),false)) (.mv (.t (.of 0)))::.p .push (some ((.s 1),false)) (.bin .mul .int (.c (I 2)) (.s 0))::.p .push (some ((.s 2),false)) (.load (.t (.of 1)))::r) C ⟨(F77.fr b a c d e i l o q s f p),[]⟩ h nx Kt =
 zB e h fun v1=>zS 1 v1 l fun v2=>zB v2 h fun v3=>sG v3 false (fun k=>k b) fun v4=>sG v3 false (fun k=>zf .mul .int (I 2) v4 k) fun v5=>sG v3 false (fun k=>zB a h k) fun v6=>yO r C ⟨(F77.fr b a c d e i l o q s f p),v6::v5::v4::v3::v3::v2::l::v1::[]⟩ h nx Kt:=by kernel_rfl
theorem F77.zms:yO (.p .push (some ((.s 3),false)) (.bin .sub .int (.s 0) (.c (I 1)))::.p .push (some ((.s 4),false)) (.bin .eql .int (.s 2) (.s 0))::.p .push (some ((.s 5),false)) (.mv (.t (.of 6)))::.p .push (some ((.s 6),false)) (.bin .mul .int (.c (I 2)) (.s 0))::.p .push (some ((.s 7),false)) (.load (.t (.of 1)))::.p .push (some ((.s 8),false)) (.bin .sub .int (.s 0) (.c (I 1)))::.p .push (some ((.s 9),false)) (.bin .eql .int (.s 2) (.s 0))::.p .push (some ((.s 10),false)) (.bin .neq .bool (.s 5) (.s 0))::r) C ⟨(F77.fr b a c d e i l o q s f p),s0::s1::s2::s3::s4::s5::s6::s7::[]⟩ h nx Kt =
 sG s3 false (fun k=>zf .sub .int s0 (I 1) k) fun v1=>sG s3 false (fun k=>zf .eql .int s1 v1 k) fun v2=>sG s3 false (fun k=>k l) fun v3=>sG s3 false (fun k=>zf .mul .int (I 2) v3 k) fun v4=>sG s3 false (fun k=>zB a h k) fun v5=>sG s3 false (fun k=>zf .sub .int v5 (I 1) k) fun v6=>sG s3 false (fun k=>zf .eql .int v4 v6 k) fun v7=>sG s3 false (fun k=>zf .neq .bool v2 v7 k) fun v8=>yO r C ⟨(F77.fr b a c d e i l o q s f p),v8::v7::v6::v5::v4::v3::v2::v1::s0::s1::s2::s3::s4::s5::s6::s7::[]⟩ h nx Kt:=by kernel_rfl
theorem F77.zmt:yO (.q (.of 11) (.pick (.s 11) (.c (.bool true)) (.s 0))::[]) C ⟨(F77.fr b a c d e i l o q s f p),s0::s1::s2::s3::s4::s5::s6::s7::s8::s9::s10::s11::s12::s13::s14::s15::[]⟩ h nx Kt =
 jC s11 (.bool true) s0 fun v1=>Kt ⟨(F77.fr b a c d e i l o q s f v1),s0::s1::s2::s3::s4::s5::s6::s7::s8::s9::s10::s11::s12::s13::s14::s15::[]⟩ h nx:=by kernel_rfl
theorem F77.v11:Arg.ev (.t (.of 11)) ⟨(F77.fr b a c d e i l o q s f p),[]⟩=p:=by kernel_rfl
theorem F77.eP:IR.run F77.t12 C N O K (F77.fr b a c d e i l o q s f p) h nx =
 zB d h fun v1=>zB d h fun v2=>zB a h fun v3=>zf .sub .int v3 (I 1) fun v4=>zf .sub .int v4 b fun v5=>zB a h fun v6=>zf .sub .int v6 (I 1) fun v7=>zf .sub .int v7 l fun v8=>zS 1 v1 b fun v9=>zQ 1 v9 l h nx fun vA hA nA=>(zf .sub .int v7 l fun v23=>zH v23 v8 (zH l l ((zf .sub .int v6 (I 1) fun vN=>zH vN v7 ((zB a hA fun vY=>zH vY v6 ((zf .sub .int v4 b fun vX=>zH vX v5 (zH b b ((zf .sub .int v3 (I 1) fun vM=>zH vM v4 ((zB a hA fun vW=>zH vW v3 ((zB d hA fun vV=>zH vV v2 (zS 1 v2 v5 fun vG=>zQ 1 vG v8 hA nA fun vT hL nM=>K (F77.fr b a c d e i l o q s f p) hL nM)))))))))))))))):=by kernel_rfl
theorem F77.zad:IR.run F77.t13 C N O K (F77.fr b a c d e i l o q s f p) h nx =
 zB e h fun v1=>zB e h fun v2=>zB a h fun v3=>zf .sub .int v3 (I 1) fun v4=>zf .sub .int v4 l fun v5=>zS 1 v1 l fun v6=>zQ 1 v6 (.bool true) h nx fun v7 h8 n9=>(zf .sub .int v4 l fun vV=>zH vV v5 (zH l l ((zf .sub .int v3 (I 1) fun vL=>zH vL v4 ((zB a h8 fun vU=>zH vU v3 ((zB e h8 fun vT=>zH vT v2 (zS 1 v2 v5 fun vA=>zQ 1 vA (.bool true) h8 n9 fun vS hF nG=>K (F77.fr b a c d e i l o q s f p) hF nG))))))))):=by kernel_rfl
theorem F77.aS:IR.run F77.t14 C N O K (F77.fr b a c d e i l o q s f p) h nx =
 zB i h fun v1=>zf .add .int b (I 1) fun v2=>u6 C v1 [v2] h nx fun v3 h4 n5=>K (F77.fr b a c d e i l o q s f p) h4 n5:=by kernel_rfl
theorem F77.zas:IR.run F77.t15 C N O K (F77.fr b a c d e i l o q s f p) h nx =
 zB e h fun v1=>zB e h fun v2=>zB a h fun v3=>zf .sub .int v3 (I 1) fun v4=>zf .sub .int v4 l fun v5=>zS 1 v1 l fun v6=>zQ 1 v6 (.bool false) h nx fun v7 h8 n9=>(zf .sub .int v4 l fun vV=>zH vV v5 (zH l l ((zf .sub .int v3 (I 1) fun vL=>zH vL v4 ((zB a h8 fun vU=>zH vU v3 ((zB e h8 fun vT=>zH vT v2 (zS 1 v2 v5 fun vA=>zQ 1 vA (.bool false) h8 n9 fun vS hF nG=>K (F77.fr b a c d e i l o q s f p) hF nG))))))))):=by kernel_rfl
theorem F77.zmu:IR.run F77.t22 C N O K (F77.fr b a c d e i l o q s f p) h nx =
 zf .add .int s (I 1) fun v1=>K (F77.fr b a c d e i l o q v1 f p) h nx:=by kernel_rfl
theorem F77.zxj (Inv:Nat->AV->T Blk->Pa->Prop) {m:Nat} (hm:m<N) (hi:Inv m s h nx)
  (step:∀ (m:Nat) (z6 z9 zC zD:AV) (h:T Blk) (nx:Pa) (R:Ks Prop),Inv m z9 h nx->(∀ (m':Nat) (w6 w9 wA wB:AV) (h':T Blk) (nx':Pa),m'<m->Inv m' w9 h' nx'->R (F77.fr b a c d e i w6 o q w9 wA wB) h' nx'=.ok True)->IR.run F77.t25 C N O R (F77.fr b a c d e i z6 o q z9 zC zD) h nx=.ok True) :
  IR.run F77.t26 C N O K (F77.fr b a c d e i l o q s f p) h nx=.ok True:=by
 rw [F77.t26];refine yG (fun m tm h nx=>∃ z6 z9 zC zD,tm=(F77.fr b a c d e i z6 o q z9 zC zD)/\Inv m z9 h nx) ?_ hm ⟨_,_,_,_,rfl,hi⟩;rintro m tm h nx R ⟨z6,z9,zC,zD,rfl,hi⟩ hR;exact step m z6 z9 zC zD h nx R hi fun m' w6 w9 wA wB h' nx' hlt hi'=>hR m' _ h' nx' hlt ⟨_,_,_,_,rfl,hi'⟩
theorem F77.tab:T.get none (.of 77) tbl=some F77:=by kernel_rfl
theorem F77.bind (k:T AV->OP):yK F77.params [a0,a1,a2,a3,a4,a5] F77.init k=k (F77.fr a0 a1 a2 a3 a4 a5 .undef .undef .undef .undef .undef .undef):=by kernel_rfl
theorem F77.je:F77.body=F77.t29:=by kernel_rfl
theorem F77.go:zO tbl N C (.of 77) [a0,a1,a2,a3,a4,a5] h nx K0=IR.run F77.t29 C N (fnO F77.res K0) (ji F77.res K0) (F77.fr a0 a1 a2 a3 a4 a5 .undef .undef .undef .undef .undef .undef) h nx:=by
 rw [zF F77.tab,F77.bind,F77.je];kernel_rfl
theorem F77.ret:ji F77.res K0 (F77.fr b a c d e i l o q s f p) h nx=K0 (.tup []) h nx:=by kernel_rfl
end
end Go.Ev
namespace Go.Ev
open Go Go.Proofs
set_option maxRecDepth 100000
section
variable {N:Nat} {C:Calls Prop} {K0:Kw Prop} {K:Ks Prop} {h:T Blk} {nx:Pa} {b a c d e a0 a1 a2:AV} {O:yu Prop} {tm:T AV} {Kt:KTm} {r:List RO} {s0 s1 s2 s3 s4 s5 s6 s7 s8 s9 s10 s11 s12 s13 s14 s15 s16 s17 s18 s19 s20 s21 s22 s23 s24 s25 s26 s27 s28 s29 s30 s31 s32 s33 s34 s35 s36 s37 s38 s39 s40 s41 s42 s43 s44 s45 s46 s47 s48 s49 s50 s51 s52 s53 s54 s55 s56 s57 s58 s59:AV}
def F78.t0:IR:=.reg [.q (.of 3) (.mv (.c (I 0))),.q (.of 4) (.mv (.c (I 0)))]
def F78.t1:IR:=.yh [] [(.s (.load (.t (.of 2))),0,[]),(.s (.mv (.t (.of 0))),0,[]),(.s (.zn 1 (.s 1) (.s 0)),0,[]),(.s (.load (.s 0)),0,[]),(.s (.load (.t (.of 2))),0,[]),(.s (.mv (.t (.of 1))),0,[]),(.s (.zn 1 (.s 1) (.s 0)),0,[]),(.s (.load (.s 0)),0,[]),(.q (.of 3) (.mv (.s 4)),0,[]),(.q (.of 4) (.mv (.s 0)),0,[])]
def F78.t2:IR:=.seq F78.t1 .ret
def F78.t3:IR:=.seq F78.t0 F78.t2
theorem F78.fG:IR.run F78.t0 C N O K (F78.fr b a c d e) h nx =
 K (F78.fr b a c (I 0) (I 0)) h nx:=by kernel_rfl
theorem F78.fK:IR.run F78.t1 C N O K (F78.fr b a c d e) h nx =
 zB c h fun v1=>zS 1 v1 b fun v2=>zB v2 h fun v3=>zB c h fun v4=>zS 1 v4 a fun v5=>zB v5 h fun v6=>K (F78.fr b a c v3 v6) h nx:=by kernel_rfl
theorem F78.tab:T.get none (.of 78) tbl=some F78:=by kernel_rfl
theorem F78.bind (k:T AV->OP):yK F78.params [a0,a1,a2] F78.init k=k (F78.fr a0 a1 a2 .undef .undef):=by kernel_rfl
theorem F78.je:F78.body=F78.t3:=by kernel_rfl
theorem F78.go:zO tbl N C (.of 78) [a0,a1,a2] h nx K0=IR.run F78.t3 C N (fnO F78.res K0) (ji F78.res K0) (F78.fr a0 a1 a2 .undef .undef) h nx:=by
 rw [zF F78.tab,F78.bind,F78.je];kernel_rfl
theorem F78.ret:ji F78.res K0 (F78.fr b a c d e) h nx=K0 (.tup [d,e]) h nx:=by kernel_rfl
end
end Go.Ev
namespace Go.Ev
open Go Go.Proofs
set_option maxRecDepth 100000
section
variable {N:Nat} {C:Calls Prop} {K0:Kw Prop} {K:Ks Prop} {h:T Blk} {nx:Pa} {b a c d e i l o q s f p u v w y E z D a0:AV} {O:yu Prop} {tm:T AV} {Kt:KTm} {r:List RO} {s0 s1 s2 s3 s4 s5 s6 s7 s8 s9 s10 s11 s12 s13 s14 s15 s16 s17 s18 s19 s20 s21 s22 s23 s24 s25 s26 s27 s28 s29 s30 s31 s32 s33 s34 s35 s36 s37 s38 s39 s40 s41 s42 s43 s44 s45 s46 s47 s48 s49 s50 s51 s52 s53 s54 s55 s56 s57 s58 s59:AV}
end
end Go.Ev
namespace Go.Ev
open Go Go.Proofs
set_option maxRecDepth 100000
section
variable {N:Nat} {C:Calls Prop} {K0:Kw Prop} {K:Ks Prop} {h:T Blk} {nx:Pa} {b a c d e i l o q s f p u v w y E z D F G H L a0 a1 a2 a3 a4 a5 a6 a7:AV} {O:yu Prop} {tm:T AV} {Kt:KTm} {r:List RO} {s0 s1 s2 s3 s4 s5 s6 s7 s8 s9 s10 s11 s12 s13 s14 s15 s16 s17 s18 s19 s20 s21 s22 s23 s24 s25 s26 s27 s28 s29 s30 s31 s32 s33 s34 s35 s36 s37 s38 s39 s40 s41 s42 s43 s44 s45 s46 s47 s48 s49 s50 s51 s52 s53 s54 s55 s56 s57 s58 s59:AV}
end
end Go.Ev
