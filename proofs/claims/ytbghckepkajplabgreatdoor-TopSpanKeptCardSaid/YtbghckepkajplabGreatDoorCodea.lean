import Derived.Test.YtbghckepkajplabGreatDoorIrT
import Derived.KernelRfl
import Derived.Test.YtbghckepkajplabGreatDoorEvD
set_option linter.unusedSimpArgs false
set_option linter.unusedVariables false
namespace Go.Ev
open Go Go.Proofs
set_option maxRecDepth 100000
section
variable {N:Nat} {C:Calls Prop} {K0:Kw Prop} {K R:Ks Prop} {h:T Blk} {n:Pa} {a b c d e a0 a1 a2 f g j o s i l q p u v w y z A B D E G H s0 s1 s2 s3 s4 s5 s6 s7 s8 s9 s10 s11 s12 s13 s14 s15 s16 s17 s18 s19 s20 s21 s22 s23 s24 s25 s26 s27 s28 s29 s30 s31 s32 s33 s34 s35 s36 s37 s38 s39 s40 s41 s42 s43 s44 s45 s46 s47 s48 s49 s50 s51 s52 s53 s54 s55 s56 s57 s58 s59 L M P Q:AV} {O:pq Prop} {tm:T AV} {Kt:KTm} {r:List RO} {sT:List AV}
theorem F4.tab:T.get none (.of 4) tbl=some F4:=by kernel_rfl
theorem F4.go:zO tbl N C (.of 4) [a0,a1,a2] h n K0=qm a0 h n λv1 h2 n3=>zI 2 v1 h2 λv4=>C.fn 15 (.of 15) [v4,a1,a2] h2 n3 λv5 h6 n7=>sG v5 true (λk=>zI 2 v1 h6 k) λv8=>sGW v5 true (λk=>C.fn 16 (.of 16) [v8] h6 n7 k) h6 n7 λv9 hA nA=>sG v5 true (λk=>za .eql .int v9 (I 0) k) λvA=>yO v5 vA (.bool false) λvB=>sG vB true (λk=>zM 0 v1 k) λvC=>sG vB true (λk=>zH vC hA k) λvD=>sG vB true (λk=>k a1) λvE=>sG vB true (λk=>za .leq .int vD vE k) λvF=>yO vB vF (.bool false) λvG=>K0 vG hA nA:=by
 rw [yC F4.tab];kernel_rfl
theorem F18.af (X3:IR) (O:pq Prop) (t:T AV):IR.run (F18.g2 X3) C N O K t h n=IR.run X3 C N (O.blk 0 K) K t h n:=by kernel_rfl
theorem F18.tab:T.get none (.of 18) tbl=some F18:=by kernel_rfl
theorem F18.go:zO tbl N C (.of 18) [a0] h n K0=sLen a0 λv1=>za .gtr .int v1 (I 256) λv2=>yV v2 (K0 (I 5) h n) (sLen a0 λv3=>uG 1 1 [(.bool false)] v3 v3 h n λv4 h5 n6=>IR.run F18.b2 C N (fnO F18.res K0) (IR.run F18.b10 C N (fnO F18.res K0) (zf F18.res K0)) (F18.fr a0 (I 0) v4 (I 0) v2 .u .u) h5 n6):=by
 rw [yC F18.tab];kernel_rfl
theorem F18.L2 (Inv:Nat->AV->T Blk->Pa->Prop) {m:Nat} (hm:m<N) (hi:Inv m d h n)
  (step:∀ (m:Nat) (z1 z3 z5 z6:AV) (h:T Blk) (n:Pa) (R:Ks Prop),Inv m z3 h n->(∀ (m':Nat) (w1 w3 w5 w6:AV) (h':T Blk) (n':Pa),m'<m->Inv m' w3 h' n'->R (F18.fr a w1 c w3 e w5 w6) h' n'=.ok True) ->
   (sLen a λv1=>za .lss .int z3 v1 λv2=>yV v2 (zN 1 a z3 λv3=>zH v3 h λv4=>za .lss .int v4 (I 0) λv5=>sG v5 false (λk=>k a) λv6=>sG v5 false (λk=>k z3) λv7=>sG v5 false (λk=>zN 1 v6 v7 k) λv8=>sG v5 false (λk=>zH v8 h k) λv9=>sG v5 false (λk=>k a) λvH=>sG v5 false (λk=>sLen vH k) λvI=>sG v5 false (λk=>za .geq .int v9 vI k) λvA=>yO v5 (.bool true) vA λvB=>sG vB false (λk=>k c) λvC=>sG vB false (λk=>k a) λvD=>sG vB false (λk=>k z3) λvE=>sG vB false (λk=>zN 1 vD vE k) λvF=>sG vB false (λk=>zH vF h k) λvG=>sG vB false (λk=>zN 1 vC vG k) λvJ=>sG vB false (λk=>zH vJ h k) λvK=>yO vB (.bool true) vK λvL=>yV vL (K0 (I 14) h n) ((IR.run F18.b8 C N (((fnO F18.res K0).blk 0 K).blk 1 (IR.run F18.b9 C N ((fnO F18.res K0).blk 0 K) R)) (IR.run F18.b9 C N ((fnO F18.res K0).blk 0 K) R)) (F18.fr a z1 c z3 e v2 vL) h n)) (K (F18.fr a z1 c z3 e v2 z6) h n))=.ok True) :
  IR.run F18.b2 C N (fnO F18.res K0) K (F18.fr a b c d e f g) h n=.ok True:=by
 rw [F18.b2,F18.af,F18.b3];refine yB (λm tm h n=>∃ z1 z3 z5 z6,tm=(F18.fr a z1 c z3 e z5 z6)/\Inv m z3 h n) ?_ hm ⟨_,_,_,_,rfl,hi⟩;rintro m tm h n R ⟨z1,z3,z5,z6,rfl,hi⟩ hR;refine Eq.trans ?_ (step m z1 z3 z5 z6 h n R hi λm' w1 w3 w5 w6 h' n' hlt hi'=>hR m' _ h' n' hlt ⟨_,_,_,_,rfl,hi'⟩)
 kernel_rfl
theorem F18.k10:IR.run F18.b10 C N (fnO F18.res K0) K (F18.fr a b c d e f g) h n=K0 (I 0) h n:=by kernel_rfl
theorem F18.k9 {E0:Ks Prop}:IR.run F18.b9 C N ((fnO F18.res K0).blk 0 E0) K (F18.fr a b c d e f g) h n=za .add .int d (I 1) λv1=>K (F18.fr a b c v1 e f g) h n:=by kernel_rfl
theorem F18.k8 {E0 E1:Ks Prop}:IR.run F18.b8 C N (((fnO F18.res K0).blk 0 E0).blk 1 E1) K (F18.fr a b c d e f g) h n=zN 1 a d λv1=>zH v1 h λv2=>zN 1 c v2 λv3=>yA 1 v3 (.bool true) h n λv4 h5 n6=>K (F18.fr a b c d e f g) h5 n6:=by kernel_rfl
theorem F5.tab:T.get none (.of 5) tbl=some F5:=by kernel_rfl
theorem F5.go:zO tbl N C (.of 5) [a0,a1] h n K0=qm a0 h n λv1 h2 n3=>C.fn 17 (.of 17) [a1] h2 n3 λv4 h5 n6=>za .neq .int v4 (I 0) λv7=>yV v7 (K0 (I 3) h5 n6) (zM 0 v1 λv8=>zH v8 h5 λv9=>sLen v9 λvH=>za .neq .int vH a1 λvI=>yV vI (K0 (I 2) h5 n6) (zM 0 v1 λvA=>zH vA h5 λvB=>C.fn 18 (.of 18) [vB] h5 n6 λvC hB nB=>K0 vC hB nB)):=by
 rw [yC F5.tab];kernel_rfl
theorem F17.tab:T.get none (.of 17) tbl=some F17:=by kernel_rfl
theorem F17.go:zO tbl N C (.of 17) [a0] h n K0=za .lss .int a0 (I 0) λv1=>sG v1 false (λk=>k a0) λv2=>sG v1 false (λk=>za .gtr .int v2 (I 256) k) λv3=>yO v1 (.bool true) v3 λv4=>yV v4 (K0 (I 3) h n) (K0 (I 0) h n):=by
 rw [yC F17.tab];kernel_rfl
theorem F25.af (X3:IR) (O:pq Prop) (t:T AV):IR.run (F25.g2 X3) C N O K t h n=IR.run X3 C N (O.blk 0 K) K t h n:=by kernel_rfl
theorem F25.tab:T.get none (.of 25) tbl=some F25:=by kernel_rfl
theorem F25.go:zO tbl N C (.of 25) [a0,a1] h n K0=sLen a0 λv1=>sLen a1 λv2=>za .neq .int v1 v2 λv3=>yV v3 (K0 (.bool false) h n) (IR.run F25.b2 C N (fnO F25.res K0) (IR.run F25.b9 C N (fnO F25.res K0) (zf F25.res K0)) (F25.fr a0 a1 (.bool false) (I 0) v3 .u .u) h n):=by
 rw [yC F25.tab];kernel_rfl
theorem F25.L2 (Inv:Nat->AV->T Blk->Pa->Prop) {m:Nat} (hm:m<N) (hi:Inv m d h n)
  (step:∀ (m:Nat) (z2 z3 z5 z6:AV) (h:T Blk) (n:Pa) (R:Ks Prop),Inv m z3 h n->(∀ (m':Nat) (w2 w3 w5 w6:AV) (h':T Blk) (n':Pa),m'<m->Inv m' w3 h' n'->R (F25.fr a b w2 w3 e w5 w6) h' n'=.ok True) ->
   (sLen a λv1=>za .lss .int z3 v1 λv2=>yV v2 (zN 1 a z3 λv3=>zH v3 h λv4=>zN 1 b z3 λv5=>zH v5 h λv6=>za .neq .int v4 v6 λv7=>yV v7 (K0 (.bool false) h n) (za .add .int z3 (I 1) λv8=>R (F25.fr a b z2 v8 e v2 v7) h n)) (K (F25.fr a b z2 z3 e v2 z6) h n))=.ok True) :
  IR.run F25.b2 C N (fnO F25.res K0) K (F25.fr a b c d e f g) h n=.ok True:=by
 rw [F25.b2,F25.af,F25.b3];refine yB (λm tm h n=>∃ z2 z3 z5 z6,tm=(F25.fr a b z2 z3 e z5 z6)/\Inv m z3 h n) ?_ hm ⟨_,_,_,_,rfl,hi⟩;rintro m tm h n R ⟨z2,z3,z5,z6,rfl,hi⟩ hR;refine Eq.trans ?_ (step m z2 z3 z5 z6 h n R hi λm' w2 w3 w5 w6 h' n' hlt hi'=>hR m' _ h' n' hlt ⟨_,_,_,_,rfl,hi'⟩)
 kernel_rfl
theorem F25.k9:IR.run F25.b9 C N (fnO F25.res K0) K (F25.fr a b c d e f g) h n=K0 (.bool true) h n:=by kernel_rfl
theorem aT.tab:T.get none (.of 119) tbl=some aT:=by kernel_rfl
theorem aT.go:zO tbl N C (.of 119) [a0,a1] h n K0=zH a1 h λv1=>C.fn 120 (.of 120) [a0,v1] h n λv2 h3 n4=>K0 v2 h3 n4:=by
 rw [yC aT.tab];kernel_rfl
theorem aU.tab:T.get none (.of 118) tbl=some aU:=by kernel_rfl
theorem aU.go:zO tbl N C (.of 118) [a0,a1] h n K0=C.fn 173 (.of 173) [a0,a1] h n λv1 h2 n3=>za .geq .int v1 (I 0) λv4=>K0 v4 h2 n3:=by
 rw [yC aU.tab];kernel_rfl
theorem pu.sU (X2:IR) (O:pq Prop) (t:T AV):IR.run (pu.g1 X2) C N O K t h n=IR.run X2 C N (O.blk 0 K) K t h n:=by kernel_rfl
theorem pu.tab:T.get none (.of 173) tbl=some pu:=by kernel_rfl
theorem pu.go:zO tbl N C (.of 173) [a0,a1] h n K0=sLen a0 λv1=>IR.run pu.b1 C N (fnO pu.res K0) (IR.run pu.b8 C N (fnO pu.res K0) (zf pu.res K0)) (pu.fr a0 a1 (I 0) .u v1 (I 0) .u .u) h n:=by
 rw [yC pu.tab];kernel_rfl
theorem pu.L1 (Inv:Nat->AV->T Blk->Pa->Prop) {m:Nat} (hm:m<N) (hi:Inv m f h n)
  (step:∀ (m:Nat) (z2 z3 z5 z6 z7:AV) (h:T Blk) (n:Pa) (R:Ks Prop),Inv m z5 h n->(∀ (m':Nat) (w2 w3 w5 w6 w7:AV) (h':T Blk) (n':Pa),m'<m->Inv m' w5 h' n'->R (pu.fr a b w2 w3 e w5 w6 w7) h' n'=.ok True) ->
   (za .lss .int z5 e λv1=>yV v1 (zN 1 a z5 λv2=>zH v2 h λv3=>zc3 C b [v3] h n λv4 h5 n6=>yV v4 (K0 z5 h5 n6) (za .add .int z5 (I 1) λv7=>R (pu.fr a b z2 z5 e v7 v1 v4) h5 n6)) (K (pu.fr a b z2 z3 e z5 v1 z7) h n))=.ok True) :
  IR.run pu.b1 C N (fnO pu.res K0) K (pu.fr a b c d e f g j) h n=.ok True:=by
 rw [pu.b1,pu.sU,pu.b2];refine yB (λm tm h n=>∃ z2 z3 z5 z6 z7,tm=(pu.fr a b z2 z3 e z5 z6 z7)/\Inv m z5 h n) ?_ hm ⟨_,_,_,_,_,rfl,hi⟩;rintro m tm h n R ⟨z2,z3,z5,z6,z7,rfl,hi⟩ hR;refine Eq.trans ?_ (step m z2 z3 z5 z6 z7 h n R hi λm' w2 w3 w5 w6 w7 h' n' hlt hi'=>hR m' _ h' n' hlt ⟨_,_,_,_,_,rfl,hi'⟩)
 kernel_rfl
theorem pu.k8:IR.run pu.b8 C N (fnO pu.res K0) K (pu.fr a b c d e f g j) h n=K0 (I (-1)) h n:=by kernel_rfl
theorem pz.af (X3:IR) (O:pq Prop) (t:T AV):IR.run (pz.g2 X3) C N O K t h n=IR.run X3 C N (O.blk 0 K) K t h n:=by kernel_rfl
theorem pz.tab:T.get none (.of 120) tbl=some pz:=by kernel_rfl
theorem pz.go:zO tbl N C (.of 120) [a0,a1] h n K0=sLen a0 λv1=>sLen a1 λv2=>za .neq .int v1 v2 λv3=>yV v3 (K0 (.bool false) h n) (sLen a0 λv4=>IR.run pz.b2 C N (fnO pz.res K0) (IR.run pz.b9 C N (fnO pz.res K0) (zf pz.res K0)) (pz.fr a0 a1 (.bool false) .u v3 v4 (I 0) .u .u) h n):=by
 rw [yC pz.tab];kernel_rfl
theorem pz.L2 (Inv:Nat->AV->T Blk->Pa->Prop) {m:Nat} (hm:m<N) (hi:Inv m g h n)
  (step:∀ (m:Nat) (z2 z3 z6 z7 z8:AV) (h:T Blk) (n:Pa) (R:Ks Prop),Inv m z6 h n->(∀ (m':Nat) (w2 w3 w6 w7 w8:AV) (h':T Blk) (n':Pa),m'<m->Inv m' w6 h' n'->R (pz.fr a b w2 w3 e f w6 w7 w8) h' n'=.ok True) ->
   (za .lss .int z6 f λv1=>yV v1 (zN 1 a z6 λv2=>zH v2 h λv3=>zN 1 b z6 λv4=>zH v4 h λv5=>za .neq .int v3 v5 λv6=>yV v6 (K0 (.bool false) h n) (za .add .int z6 (I 1) λv7=>R (pz.fr a b z2 z6 e f v7 v1 v6) h n)) (K (pz.fr a b z2 z3 e f z6 v1 z8) h n))=.ok True) :
  IR.run pz.b2 C N (fnO pz.res K0) K (pz.fr a b c d e f g j o) h n=.ok True:=by
 rw [pz.b2,pz.af,pz.b3];refine yB (λm tm h n=>∃ z2 z3 z6 z7 z8,tm=(pz.fr a b z2 z3 e f z6 z7 z8)/\Inv m z6 h n) ?_ hm ⟨_,_,_,_,_,rfl,hi⟩;rintro m tm h n R ⟨z2,z3,z6,z7,z8,rfl,hi⟩ hR;refine Eq.trans ?_ (step m z2 z3 z6 z7 z8 h n R hi λm' w2 w3 w6 w7 w8 h' n' hlt hi'=>hR m' _ h' n' hlt ⟨_,_,_,_,_,rfl,hi'⟩)
 kernel_rfl
theorem pz.k9:IR.run pz.b9 C N (fnO pz.res K0) K (pz.fr a b c d e f g j o) h n=K0 (.bool true) h n:=by kernel_rfl
theorem F42.sU (X2:IR) (O:pq Prop) (t:T AV):IR.run (F42.g1 X2) C N O K t h n=IR.run X2 C N (O.blk 0 K) K t h n:=by kernel_rfl
theorem F42.tab:T.get none (.of 42) tbl=some F42:=by kernel_rfl
theorem F42.go:zO tbl N C (.of 42) [a0,a1] h n K0=IR.run F42.b1 C N (fnO F42.res K0) (IR.run F42.b8 C N (fnO F42.res K0) (zf F42.res K0)) (F42.fr a0 a1 (.bool false) (I 0) .u .u) h n:=by
 rw [yC F42.tab];kernel_rfl
theorem F42.L1 (Inv:Nat->AV->T Blk->Pa->Prop) {m:Nat} (hm:m<N) (hi:Inv m d h n)
  (step:∀ (m:Nat) (z2 z3 z4 z5:AV) (h:T Blk) (n:Pa) (R:Ks Prop),Inv m z3 h n->(∀ (m':Nat) (w2 w3 w4 w5:AV) (h':T Blk) (n':Pa),m'<m->Inv m' w3 h' n'->R (F42.fr a b w2 w3 w4 w5) h' n'=.ok True) ->
   (sLen a λv1=>za .lss .int z3 v1 λv2=>yV v2 (zN 1 a z3 λv3=>zH v3 h λv4=>C.fn 25 (.of 25) [v4,b] h n λv5 h6 n7=>yV v5 (K0 (.bool true) h6 n7) (za .add .int z3 (I 1) λv8=>R (F42.fr a b z2 v8 v2 v5) h6 n7)) (K (F42.fr a b z2 z3 v2 z5) h n))=.ok True) :
  IR.run F42.b1 C N (fnO F42.res K0) K (F42.fr a b c d e f) h n=.ok True:=by
 rw [F42.b1,F42.sU,F42.b2];refine yB (λm tm h n=>∃ z2 z3 z4 z5,tm=(F42.fr a b z2 z3 z4 z5)/\Inv m z3 h n) ?_ hm ⟨_,_,_,_,rfl,hi⟩;rintro m tm h n R ⟨z2,z3,z4,z5,rfl,hi⟩ hR;refine Eq.trans ?_ (step m z2 z3 z4 z5 h n R hi λm' w2 w3 w4 w5 h' n' hlt hi'=>hR m' _ h' n' hlt ⟨_,_,_,_,rfl,hi'⟩)
 kernel_rfl
theorem F42.k8:IR.run F42.b8 C N (fnO F42.res K0) K (F42.fr a b c d e f) h n=K0 (.bool false) h n:=by kernel_rfl
theorem F51.sU (X2:IR) (O:pq Prop) (t:T AV):IR.run (F51.g1 X2) C N O K t h n=IR.run X2 C N (O.blk 0 K) K t h n:=by kernel_rfl
theorem F51.tab:T.get none (.of 51) tbl=some F51:=by kernel_rfl
theorem F51.go:zO tbl N C (.of 51) [a0] h n K0=sLen a0 λv1=>IR.run F51.b1 C N (fnO F51.res K0) (IR.run F51.b8 C N (fnO F51.res K0) (zf F51.res K0)) (F51.fr a0 (I 0) .u a0 v1 (I 0) .u .u) h n:=by
 rw [yC F51.tab];kernel_rfl
theorem F51.L1 (Inv:Nat->AV->T Blk->Pa->Prop) {m:Nat} (hm:m<N) (hi:Inv m f h n)
  (step:∀ (m:Nat) (z1 z2 z5 z6 z7:AV) (h:T Blk) (n:Pa) (R:Ks Prop),Inv m z5 h n->(∀ (m':Nat) (w1 w2 w5 w6 w7:AV) (h':T Blk) (n':Pa),m'<m->Inv m' w5 h' n'->R (F51.fr a w1 w2 d e w5 w6 w7) h' n'=.ok True) ->
   (za .lss .int z5 e λv1=>yV v1 (zN 1 d z5 λv2=>zH v2 h λv3=>za .neq .int v3 (I 0) λv4=>yV v4 (K0 v3 h n) (za .add .int z5 (I 1) λv5=>R (F51.fr a z1 v3 d e v5 v1 v4) h n)) (K (F51.fr a z1 z2 d e z5 v1 z7) h n))=.ok True) :
  IR.run F51.b1 C N (fnO F51.res K0) K (F51.fr a b c d e f g j) h n=.ok True:=by
 rw [F51.b1,F51.sU,F51.b2];refine yB (λm tm h n=>∃ z1 z2 z5 z6 z7,tm=(F51.fr a z1 z2 d e z5 z6 z7)/\Inv m z5 h n) ?_ hm ⟨_,_,_,_,_,rfl,hi⟩;rintro m tm h n R ⟨z1,z2,z5,z6,z7,rfl,hi⟩ hR;refine Eq.trans ?_ (step m z1 z2 z5 z6 z7 h n R hi λm' w1 w2 w5 w6 w7 h' n' hlt hi'=>hR m' _ h' n' hlt ⟨_,_,_,_,_,rfl,hi'⟩)
 kernel_rfl
theorem F51.k8:IR.run F51.b8 C N (fnO F51.res K0) K (F51.fr a b c d e f g j) h n=K0 (I 0) h n:=by kernel_rfl
theorem F52.tab:T.get none (.of 52) tbl=some F52:=by kernel_rfl
theorem F52.go:zO tbl N C (.of 52) [a0,a1] h n K0=yV a0 (K0 a1 h n) (K0 (I 0) h n):=by
 rw [yC F52.tab];kernel_rfl
theorem F15.af (X3:IR) (O:pq Prop) (t:T AV):IR.run (F15.g2 X3) C N O K t h n=IR.run X3 C N (O.blk 0 K) K t h n:=by kernel_rfl
theorem F15.tab:T.get none (.of 15) tbl=some F15:=by kernel_rfl
theorem F15.go:zO tbl N C (.of 15) [a0,a1,a2] h n K0=qm a0 h n λv1 h2 n3=>zM 1 v1 λv4=>zH v4 h2 λv5=>sLen v5 λv6=>za .gtr .int v6 a2 λv7=>yV v7 (K0 (.bool false) h2 n3) (IR.run F15.b2 C N (fnO F15.res K0) (IR.run F15.b9 C N (fnO F15.res K0) (zf F15.res K0)) (F15.fr a0 a1 a2 v1 (.bool false) (I 0) v7 .u .u) h2 n3):=by
 rw [yC F15.tab];kernel_rfl
theorem F15.L2 (Inv:Nat->AV->T Blk->Pa->Prop) {m:Nat} (hm:m<N) (hi:Inv m f h n)
  (step:∀ (m:Nat) (z4 z5 z7 z8:AV) (h:T Blk) (n:Pa) (R:Ks Prop),Inv m z5 h n->(∀ (m':Nat) (w4 w5 w7 w8:AV) (h':T Blk) (n':Pa),m'<m->Inv m' w5 h' n'->R (F15.fr a b c d w4 w5 g w7 w8) h' n'=.ok True) ->
   (zM 1 d λv1=>zH v1 h λv2=>sLen v2 λv3=>za .lss .int z5 v3 λv4=>yV v4 (zM 1 d λv5=>zH v5 h λv6=>zN 1 v6 z5 λv7=>zH v7 h λv8=>sLen v8 λv9=>za .gtr .int v9 b λvH=>yV vH (K0 (.bool false) h n) (za .add .int z5 (I 1) λvI=>R (F15.fr a b c d z4 vI g v4 vH) h n)) (K (F15.fr a b c d z4 z5 g v4 z8) h n))=.ok True) :
  IR.run F15.b2 C N (fnO F15.res K0) K (F15.fr a b c d e f g j o) h n=.ok True:=by
 rw [F15.b2,F15.af,F15.b3];refine yB (λm tm h n=>∃ z4 z5 z7 z8,tm=(F15.fr a b c d z4 z5 g z7 z8)/\Inv m z5 h n) ?_ hm ⟨_,_,_,_,rfl,hi⟩;rintro m tm h n R ⟨z4,z5,z7,z8,rfl,hi⟩ hR;refine Eq.trans ?_ (step m z4 z5 z7 z8 h n R hi λm' w4 w5 w7 w8 h' n' hlt hi'=>hR m' _ h' n' hlt ⟨_,_,_,_,rfl,hi'⟩)
 kernel_rfl
theorem F15.k9:IR.run F15.b9 C N (fnO F15.res K0) K (F15.fr a b c d e f g j o) h n=K0 (.bool true) h n:=by kernel_rfl
theorem F16.zx8 (X11:IR) (O:pq Prop) (t:T AV):IR.run (F16.g10 X11) C N O K t h n=IR.run X11 C N (O.blk 2 K) K t h n:=by kernel_rfl
theorem F16.qas (X4:IR) (O:pq Prop) (t:T AV):IR.run (F16.g3 X4) C N O K t h n=IR.run X4 C N (O.blk 0 K) K t h n:=by kernel_rfl
theorem F16.tab:T.get none (.of 16) tbl=some F16:=by kernel_rfl
theorem F16.go:zO tbl N C (.of 16) [a0] h n K0=qm a0 h n λv1 h2 n3=>zM 0 v1 λv4=>zH v4 h2 λv5=>za .lss .int v5 (I 1) λv6=>sG v6 false (λk=>zM 0 v1 k) λv7=>sG v6 false (λk=>zH v7 h2 k) λv8=>sG v6 false (λk=>za .gtr .int v8 (I 256) k) λv9=>yO v6 (.bool true) v9 λvH=>yV vH (K0 (I 3) h2 n3) (zM 1 v1 λvI=>zH vI h2 λvA=>sLen vA λvB=>za .gtr .int vB (I 128) λvC=>yV vC (K0 (I 5) h2 n3) (IR.run F16.b3 C N (fnO F16.res K0) (IR.run F16.b20 C N (fnO F16.res K0) (zf F16.res K0)) (F16.fr a0 v1 (I 0) (I 0) .u .u vH vC .u .u .u .u .u .u) h2 n3)):=by
 rw [yC F16.tab];kernel_rfl
theorem F16.L3 (Inv:Nat->AV->T Blk->Pa->Prop) {m:Nat} (hm:m<N) (hi:Inv m d h n)
  (step:∀ (m:Nat) (z2 z3 z4 z5 z8 z9 zA zB zC zD:AV) (h:T Blk) (n:Pa) (R:Ks Prop),Inv m z3 h n->(∀ (m':Nat) (w2 w3 w4 w5 w8 w9 wA wB wC wD:AV) (h':T Blk) (n':Pa),m'<m->Inv m' w3 h' n'->R (F16.fr a b w2 w3 w4 w5 g j w8 w9 wA wB wC wD) h' n'=.ok True) ->
   (zM 1 b λv1=>zH v1 h λv2=>sLen v2 λv3=>za .lss .int z3 v3 λv4=>yV v4 (zM 1 b λv5=>zH v5 h λv6=>zN 1 v6 z3 λv7=>zH v7 h λv8=>sLen v8 λv9=>za .eql .int v9 (I 0) λvH=>yV vH (K0 (I 12) h n) (IR.run F16.b10 C N (((fnO F16.res K0).blk 0 K).blk 1 (IR.run F16.b19 C N ((fnO F16.res K0).blk 0 K) R)) (IR.run F16.b18 C N (((fnO F16.res K0).blk 0 K).blk 1 (IR.run F16.b19 C N ((fnO F16.res K0).blk 0 K) R)) (IR.run F16.b19 C N ((fnO F16.res K0).blk 0 K) R)) (F16.fr a b z2 z3 v8 (I 0) g j v4 vH zA zB zC zD) h n)) (K (F16.fr a b z2 z3 z4 z5 g j v4 z9 zA zB zC zD) h n))=.ok True) :
  IR.run F16.b3 C N (fnO F16.res K0) K (F16.fr a b c d e f g j o s i l q p) h n=.ok True:=by
 rw [F16.b3,F16.qas,F16.b4];refine yB (λm tm h n=>∃ z2 z3 z4 z5 z8 z9 zA zB zC zD,tm=(F16.fr a b z2 z3 z4 z5 g j z8 z9 zA zB zC zD)/\Inv m z3 h n) ?_ hm ⟨_,_,_,_,_,_,_,_,_,_,rfl,hi⟩;rintro m tm h n R ⟨z2,z3,z4,z5,z8,z9,zA,zB,zC,zD,rfl,hi⟩ hR;refine Eq.trans ?_ (step m z2 z3 z4 z5 z8 z9 zA zB zC zD h n R hi λm' w2 w3 w4 w5 w8 w9 wA wB wC wD h' n' hlt hi'=>hR m' _ h' n' hlt ⟨_,_,_,_,_,_,_,_,_,_,rfl,hi'⟩)
 kernel_rfl
theorem F16.k20:IR.run F16.b20 C N (fnO F16.res K0) K (F16.fr a b c d e f g j o s i l q p) h n=K0 (I 0) h n:=by kernel_rfl
theorem F16.k19 {E0:Ks Prop}:IR.run F16.b19 C N ((fnO F16.res K0).blk 0 E0) K (F16.fr a b c d e f g j o s i l q p) h n=za .add .int d (I 1) λv1=>K (F16.fr a b c v1 e f g j o s i l q p) h n:=by kernel_rfl
theorem F16.L10 {E0 E1:Ks Prop} (Inv:Nat->AV->T Blk->Pa->Prop) {m:Nat} (hm:m<N) (hi:Inv m f h n)
  (step:∀ (m:Nat) (z2 z5 zA zB zC:AV) (h:T Blk) (n:Pa) (R:Ks Prop),Inv m z5 h n->(∀ (m':Nat) (w2 w5 wA wB wC:AV) (h':T Blk) (n':Pa),m'<m->Inv m' w5 h' n'->R (F16.fr a b w2 d e w5 g j o s wA wB wC p) h' n'=.ok True) ->
   (sLen e λv1=>za .lss .int z5 v1 λv2=>yV v2 (zN 1 e z5 λv3=>zH v3 h λv4=>za .lss .int v4 (I 0) λv5=>sG v5 false (λk=>k e) λv6=>sG v5 false (λk=>k z5) λv7=>sG v5 false (λk=>zN 1 v6 v7 k) λv8=>sG v5 false (λk=>zH v8 h k) λv9=>sG v5 false (λk=>zM 0 b k) λvH=>sG v5 false (λk=>zH vH h k) λvI=>sG v5 false (λk=>za .geq .int v9 vI k) λvA=>yO v5 (.bool true) vA λvB=>yV vB (K0 (I 10) h n) ((IR.run F16.b16 C N (((((fnO F16.res K0).blk 0 E0).blk 1 E1).blk 2 K).blk 3 (IR.run F16.b17 C N ((((fnO F16.res K0).blk 0 E0).blk 1 E1).blk 2 K) R)) (IR.run F16.b17 C N ((((fnO F16.res K0).blk 0 E0).blk 1 E1).blk 2 K) R)) (F16.fr a b z2 d e z5 g j o s v2 vB zC p) h n)) (K (F16.fr a b z2 d e z5 g j o s v2 zB zC p) h n))=.ok True) :
  IR.run F16.b10 C N (((fnO F16.res K0).blk 0 E0).blk 1 E1) K (F16.fr a b c d e f g j o s i l q p) h n=.ok True:=by
 rw [F16.b10,F16.zx8,F16.b11];refine yB (λm tm h n=>∃ z2 z5 zA zB zC,tm=(F16.fr a b z2 d e z5 g j o s zA zB zC p)/\Inv m z5 h n) ?_ hm ⟨_,_,_,_,_,rfl,hi⟩;rintro m tm h n R ⟨z2,z5,zA,zB,zC,rfl,hi⟩ hR;refine Eq.trans ?_ (step m z2 z5 zA zB zC h n R hi λm' w2 w5 wA wB wC h' n' hlt hi'=>hR m' _ h' n' hlt ⟨_,_,_,_,_,rfl,hi'⟩)
 kernel_rfl
theorem F16.k18 {E0 E1:Ks Prop}:IR.run F16.b18 C N (((fnO F16.res K0).blk 0 E0).blk 1 E1) K (F16.fr a b c d e f g j o s i l q p) h n=zM 1 b λv1=>zH v1 h λv2=>xI 1 v2 none (some d) none λv3=>C.fn 42 (.of 42) [v3,e] h n λv4 h5 n6=>yV v4 (K0 (I 9) h5 n6) (K (F16.fr a b c d e f g j o s i l q v4) h5 n6):=by kernel_rfl
theorem F16.k17 {E0 E1 E2:Ks Prop}:IR.run F16.b17 C N ((((fnO F16.res K0).blk 0 E0).blk 1 E1).blk 2 E2) K (F16.fr a b c d e f g j o s i l q p) h n=za .add .int f (I 1) λv1=>K (F16.fr a b c d e v1 g j o s i l q p) h n:=by kernel_rfl
theorem F16.k16 {E0 E1 E2 E3:Ks Prop}:IR.run F16.b16 C N (((((fnO F16.res K0).blk 0 E0).blk 1 E1).blk 2 E2).blk 3 E3) K (F16.fr a b c d e f g j o s i l q p) h n=za .gtr .int f (I 0) λv1=>sG v1 true (λk=>k e) λv2=>sG v1 true (λk=>k f) λv3=>sG v1 true (λk=>zN 1 v2 v3 k) λv4=>sG v1 true (λk=>zH v4 h k) λv5=>sG v1 true (λk=>k e) λv6=>sG v1 true (λk=>k f) λv7=>sG v1 true (λk=>za .sub .int v7 (I 1) k) λv8=>sG v1 true (λk=>zN 1 v6 v8 k) λv9=>sG v1 true (λk=>zH v9 h k) λvH=>sG v1 true (λk=>za .leq .int v5 vH k) λvI=>yO v1 vI (.bool false) λvA=>yV vA (K0 (I 11) h n) (K (F16.fr a b c d e f g j o s i l vA p) h n):=by kernel_rfl
theorem F53.tab:T.get none (.of 53) tbl=some F53:=by kernel_rfl
theorem F53.go:zO tbl N C (.of 53) [a0,a1,a2] h n K0=qm a0 h n λv1 h2 n3=>qm a1 h2 n3 λv4 h5 n6=>C.fn 33 (.of 33) [a2,(.fn 101 (.of 101) [v1,v4])] h5 n6 λv7 h8 n9=>C.fn 52 (.of 52) [v7,(I 3)] h8 n9 λvH hC nC=>K0 vH hC nC:=by
 rw [yC F53.tab];kernel_rfl
theorem aV.tab:T.get none (.of 101) tbl=some aV:=by kernel_rfl
theorem aV.go:zO tbl N C (.of 101) [a0,a1,a2] h n K0=zH a1 h λv1=>za .lss .int a0 v1 λv2=>sG v2 false (λk=>k a0) λv3=>sG v2 false (λk=>zH a2 h k) λv4=>sG v2 false (λk=>za .gtr .int v3 v4 k) λv5=>yO v2 (.bool true) v5 λv6=>K0 v6 h n:=by
 rw [yC aV.tab];kernel_rfl
theorem F33.tab:T.get none (.of 33) tbl=some F33:=by kernel_rfl
theorem F33.go:zO tbl N C (.of 33) [a0,a1] h n K0=C.fn 65 (.of 65) [a0,a1] h n λv1 h2 n3=>za .geq .int v1 (I 0) λv4=>K0 v4 h2 n3:=by
 rw [yC F33.tab];kernel_rfl
theorem F65.sU (X2:IR) (O:pq Prop) (t:T AV):IR.run (F65.g1 X2) C N O K t h n=IR.run X2 C N (O.blk 0 K) K t h n:=by kernel_rfl
theorem F65.tab:T.get none (.of 65) tbl=some F65:=by kernel_rfl
theorem F65.go:zO tbl N C (.of 65) [a0,a1] h n K0=sLen a0 λv1=>IR.run F65.b1 C N (fnO F65.res K0) (IR.run F65.b8 C N (fnO F65.res K0) (zf F65.res K0)) (F65.fr a0 a1 (I 0) .u v1 (I 0) .u .u) h n:=by
 rw [yC F65.tab];kernel_rfl
theorem F65.L1 (Inv:Nat->AV->T Blk->Pa->Prop) {m:Nat} (hm:m<N) (hi:Inv m f h n)
  (step:∀ (m:Nat) (z2 z3 z5 z6 z7:AV) (h:T Blk) (n:Pa) (R:Ks Prop),Inv m z5 h n->(∀ (m':Nat) (w2 w3 w5 w6 w7:AV) (h':T Blk) (n':Pa),m'<m->Inv m' w5 h' n'->R (F65.fr a b w2 w3 e w5 w6 w7) h' n'=.ok True) ->
   (za .lss .int z5 e λv1=>yV v1 (zN 1 a z5 λv2=>zH v2 h λv3=>zc3 C b [v3] h n λv4 h5 n6=>yV v4 (K0 z5 h5 n6) (za .add .int z5 (I 1) λv7=>R (F65.fr a b z2 z5 e v7 v1 v4) h5 n6)) (K (F65.fr a b z2 z3 e z5 v1 z7) h n))=.ok True) :
  IR.run F65.b1 C N (fnO F65.res K0) K (F65.fr a b c d e f g j) h n=.ok True:=by
 rw [F65.b1,F65.sU,F65.b2];refine yB (λm tm h n=>∃ z2 z3 z5 z6 z7,tm=(F65.fr a b z2 z3 e z5 z6 z7)/\Inv m z5 h n) ?_ hm ⟨_,_,_,_,_,rfl,hi⟩;rintro m tm h n R ⟨z2,z3,z5,z6,z7,rfl,hi⟩ hR;refine Eq.trans ?_ (step m z2 z3 z5 z6 z7 h n R hi λm' w2 w3 w5 w6 w7 h' n' hlt hi'=>hR m' _ h' n' hlt ⟨_,_,_,_,_,rfl,hi'⟩)
 kernel_rfl
theorem F65.k8:IR.run F65.b8 C N (fnO F65.res K0) K (F65.fr a b c d e f g j) h n=K0 (I (-1)) h n:=by kernel_rfl
theorem F28.af (X3:IR) (O:pq Prop) (t:T AV):IR.run (F28.g2 X3) C N O K t h n=IR.run X3 C N (O.blk 0 K) K t h n:=by kernel_rfl
theorem F28.tab:T.get none (.of 28) tbl=some F28:=by kernel_rfl
theorem F28.go:zO tbl N C (.of 28) [a0] h n K0=qm a0 h n λv1 h2 n3=>zM 0 v1 λv4=>zH v4 h2 λv5=>zM 1 v1 λv6=>zH v6 h2 λv7=>sLen v7 λv8=>za .gtr .int v8 (I 128) λv9=>y3 1 1 [(I 0)] [(0,1,v5)] h2 n3 λvH hC nC=>(za .gtr .int v8 (I 128) λvM=>zX vM v9 ((sLen v7 λvN=>zX vN v8 ((zH v6 hC λvO=>zX vO v7 ((zM 1 v1 λvP=>zX vP v6 (C.fn 53 (.of 53) [(I 1),(I 256),vH] hC nC λvB hD nD=>(za .gtr .int v8 (I 128) λvQ=>zX vQ v9 ((sLen v7 λvR=>zX vR v8 ((zH v6 hD λvS=>zX vS v7 ((zM 1 v1 λvT=>zX vT v6 (C.fn 52 (.of 52) [v9,(I 5)] hD nD λvE hE nE=>y3 1 2 [(I 0)] [(0,1,vB),(1,1,vE)] hE nE λvJ hF nF=>C.fn 51 (.of 51) [vJ] hF nF λvU hG nG=>za .neq .int vU (I 0) λvV=>yV vV (K0 vU hG nG) (zM 1 v1 λvW=>zH vW hG λvX=>sLen vX λvY=>IR.run F28.b2 C N (fnO F28.res K0) (IR.run F28.b9 C N (fnO F28.res K0) (zf F28.res K0)) (F28.fr a0 v1 (I 0) vU .u .u vV vY (I 0) .u .u) hG nG))))))))))))))))):=by
 rw [yC F28.tab];kernel_rfl
theorem F28.L2 (Inv:Nat->AV->T Blk->Pa->Prop) {m:Nat} (hm:m<N) (hi:Inv m o h n)
  (step:∀ (m:Nat) (z2 z4 z5 z8 z9 zA:AV) (h:T Blk) (n:Pa) (R:Ks Prop),Inv m z8 h n->(∀ (m':Nat) (w2 w4 w5 w8 w9 wA:AV) (h':T Blk) (n':Pa),m'<m->Inv m' w8 h' n'->R (F28.fr a b w2 d w4 w5 g j w8 w9 wA) h' n'=.ok True) ->
   (za .lss .int z8 j λv1=>yV v1 (zI 2 b h λv2=>C.fn 58 (.of 58) [v2,z8] h n λv3 h4 n5=>za .neq .int v3 (I 0) λv6=>yV v6 (K0 v3 h4 n5) (za .add .int z8 (I 1) λv7=>R (F28.fr a b z2 d z8 v3 g j v7 v1 v6) h4 n5)) (K (F28.fr a b z2 d z4 z5 g j z8 v1 zA) h n))=.ok True) :
  IR.run F28.b2 C N (fnO F28.res K0) K (F28.fr a b c d e f g j o s i) h n=.ok True:=by
 rw [F28.b2,F28.af,F28.b3];refine yB (λm tm h n=>∃ z2 z4 z5 z8 z9 zA,tm=(F28.fr a b z2 d z4 z5 g j z8 z9 zA)/\Inv m z8 h n) ?_ hm ⟨_,_,_,_,_,_,rfl,hi⟩;rintro m tm h n R ⟨z2,z4,z5,z8,z9,zA,rfl,hi⟩ hR;refine Eq.trans ?_ (step m z2 z4 z5 z8 z9 zA h n R hi λm' w2 w4 w5 w8 w9 wA h' n' hlt hi'=>hR m' _ h' n' hlt ⟨_,_,_,_,_,_,rfl,hi'⟩)
 kernel_rfl
theorem F28.k9:IR.run F28.b9 C N (fnO F28.res K0) K (F28.fr a b c d e f g j o s i) h n=K0 (I 0) h n:=by kernel_rfl
theorem F58.af (X3:IR) (O:pq Prop) (t:T AV):IR.run (F58.g2 X3) C N O K t h n=IR.run X3 C N (O.blk 0 K) K t h n:=by kernel_rfl
theorem F58.tab:T.get none (.of 58) tbl=some F58:=by kernel_rfl
theorem F58.go:zO tbl N C (.of 58) [a0,a1] h n K0=qm a0 h n λv1 h2 n3=>zM 1 v1 λv4=>zH v4 h2 λv5=>zN 1 v5 a1 λv6=>zH v6 h2 λv7=>yT [.zb] h2 n3 λv8 h9 nH=>yA 1 v8 v7 h9 nH λvI hH nI=>zH v8 hH λvC=>sLen vC λvD=>za .eql .int vD (I 0) λvE=>yV vE (K0 (I 12) hH nI) (zH v8 hH λvF=>sLen vF λvG=>IR.run F58.b2 C N (fnO F58.res K0) (IR.run F58.b9 C N (fnO F58.res K0) (zf F58.res K0)) (F58.fr a0 a1 v1 (I 0) v8 .u .u .u vE vF vG (I 0) .u .u) hH nI):=by
 rw [yC F58.tab];kernel_rfl
theorem F58.L2 (Inv:Nat->AV->T Blk->Pa->Prop) {m:Nat} (hm:m<N) (hi:Inv m l h n)
  (step:∀ (m:Nat) (z3 z5 z6 z7 zB zC zD:AV) (h:T Blk) (n:Pa) (R:Ks Prop),Inv m zB h n->(∀ (m':Nat) (w3 w5 w6 w7 wB wC wD:AV) (h':T Blk) (n':Pa),m'<m->Inv m' wB h' n'->R (F58.fr a b c w3 e w5 w6 w7 o s i wB wC wD) h' n'=.ok True) ->
   (za .lss .int zB i λv1=>yV v1 (zN 1 s zB λv2=>zH v2 h λv3=>za .lss .int v3 (I 0) λv4=>sG v4 false (λk=>k v3) λv5=>sG v4 false (λk=>zM 0 c k) λv6=>sG v4 false (λk=>zH v6 h k) λv7=>sG v4 false (λk=>za .geq .int v5 v7 k) λv8=>yO v4 (.bool true) v8 λv9=>C.fn 52 (.of 52) [v9,(I 10)] h n λvH hC nC=>za .gtr .int zB (I 0) λvB=>sG vB true (λk=>zH e hC k) λvC=>sG vB true (λk=>k zB) λvD=>sG vB true (λk=>za .sub .int vD (I 1) k) λvE=>sG vB true (λk=>zN 1 vC vE k) λvF=>sG vB true (λk=>zH vF hC k) λvG=>sG vB true (λk=>k v3) λvJ=>sG vB true (λk=>za .geq .int vG vJ k) λvK=>yO vB vK (.bool false) λvL=>C.fn 52 (.of 52) [vL,(I 11)] hC nC λvU hG nG=>y3 1 2 [(I 0)] [(0,1,vH),(1,1,vU)] hG nG λvV hI nJ=>C.fn 51 (.of 51) [vV] hI nJ λvY hJ nK=>za .neq .int vY (I 0) λvR=>yV vR (K0 vY hJ nK) (za .add .int zB (I 1) λvQ=>R (F58.fr a b c z3 e zB v3 vY o s i vQ v1 vR) hJ nK)) (K (F58.fr a b c z3 e z5 z6 z7 o s i zB v1 zD) h n))=.ok True) :
  IR.run F58.b2 C N (fnO F58.res K0) K (F58.fr a b c d e f g j o s i l q p) h n=.ok True:=by
 rw [F58.b2,F58.af,F58.b3];refine yB (λm tm h n=>∃ z3 z5 z6 z7 zB zC zD,tm=(F58.fr a b c z3 e z5 z6 z7 o s i zB zC zD)/\Inv m zB h n) ?_ hm ⟨_,_,_,_,_,_,_,rfl,hi⟩;rintro m tm h n R ⟨z3,z5,z6,z7,zB,zC,zD,rfl,hi⟩ hR;refine Eq.trans ?_ (step m z3 z5 z6 z7 zB zC zD h n R hi λm' w3 w5 w6 w7 wB wC wD h' n' hlt hi'=>hR m' _ h' n' hlt ⟨_,_,_,_,_,_,_,rfl,hi'⟩)
 kernel_rfl
theorem F58.k9:IR.run F58.b9 C N (fnO F58.res K0) K (F58.fr a b c d e f g j o s i l q p) h n=zM 1 c λv1=>zH v1 h λv2=>xI 1 v2 none (some b) none λv3=>C.fn 118 (.of 118) [v3,(.fn 119 (.of 119) [e])] h n λv4 h5 n6=>C.fn 52 (.of 52) [v4,(I 9)] h5 n6 λv7 h8 n9=>K0 v7 h8 n9:=by kernel_rfl
theorem aW.tab:T.get none (.of 233) tbl=some aW:=by kernel_rfl
theorem aW.go:zO tbl N C (.of 233) [a0] h n K0=za .neq .int a0 a0 λv1=>K0 v1 h n:=by
 rw [yC aW.tab];kernel_rfl
theorem F29.tab:T.get none (.of 29) tbl=some F29:=by kernel_rfl
theorem F29.go:zO tbl N C (.of 29) [a0,a1] h n K0=qm a0 h n λv1 h2 n3=>zM 0 v1 λv4=>zH v4 h2 λv5=>sLen v5 λv6=>za .neq .int v6 a1 λv7=>zM 0 v1 λv8=>zH v8 h2 λv9=>C.fn 59 (.of 59) [a1] h2 n3 λvH hC nC=>(zH v8 hC λvM=>zX vM v9 ((zM 0 v1 λvN=>zX vN v8 ((za .neq .int v6 a1 λvO=>zX vO v7 (zX a1 a1 ((sLen v5 λvP=>zX vP v6 ((zH v4 hC λvQ=>zX vQ v5 ((zM 0 v1 λvR=>zX vR v4 (C.fn 60 (.of 60) [v7,(I 2)] hC nC λvB hD nD=>(zH v8 hD λvS=>zX vS v9 ((zM 0 v1 λvT=>zX vT v8 (C.fn 61 (.of 61) [v9] hD nD λvE hE nE=>sNot vE λvJ=>C.fn 60 (.of 60) [vJ,(I 14)] hE nE λvK hK nL=>y3 1 3 [(I 0)] [(0,1,vH),(1,1,vB),(2,1,vK)] hK nL λvZ hL nM=>C.fn 27 (.of 27) [vZ] hL nM λvW hM nN=>K0 vW hM nN))))))))))))))))):=by
 rw [yC F29.tab];kernel_rfl
theorem F62.sU (X2:IR) (O:pq Prop) (t:T AV):IR.run (F62.g1 X2) C N O K t h n=IR.run X2 C N (O.blk 0 K) K t h n:=by kernel_rfl
theorem F62.tab:T.get none (.of 62) tbl=some F62:=by kernel_rfl
theorem F62.go:zO tbl N C (.of 62) [a0] h n K0=qm a0 h n λv1 h2 n3=>zM 0 v1 λv4=>zH v4 h2 λv5=>sLen v5 λv6=>za .add .int v6 (I 1) λv7=>uG 1 1 [(.int .u8 0)] (I 0) v7 h2 n3 λv8 h9 nH=>zM 0 v1 λvI=>zH vI h9 λvA=>sLen vA λvB=>IR.run F62.b1 C N (fnO F62.res K0) (IR.run F62.b8 C N (fnO F62.res K0) (zf F62.res K0)) (F62.fr a0 v1 (.str []) v8 .u vA vB (I 0) .u .u) h9 nH:=by
 rw [yC F62.tab];kernel_rfl
theorem F62.L1 (Inv:Nat->AV->AV->T Blk->Pa->Prop) {m:Nat} (hm:m<N) (hi:Inv m d j h n)
  (step:∀ (m:Nat) (z3 z4 z7 z8:AV) (h:T Blk) (n:Pa) (R:Ks Prop),Inv m z3 z7 h n->(∀ (m':Nat) (w3 w4 w7 w8:AV) (h':T Blk) (n':Pa),m'<m->Inv m' w3 w7 h' n'->R (F62.fr a b c w3 w4 f g w7 w8 s) h' n'=.ok True) ->
   (za .lss .int z7 g λv1=>yV v1 (zN 1 f z7 λv2=>zH v2 h λv3=>wW .u8 v3 λv4=>y3 1 1 [(.int .u8 0)] [(0,1,v4)] h n λv5 h6 n7=>tJ 1 1 z3 v5 h6 n7 λv8 h9 nH=>za .add .int z7 (I 1) λvI=>R (F62.fr a b c v8 v3 f g vI v1 s) h9 nH) (K (F62.fr a b c z3 z4 f g z7 v1 s) h n))=.ok True) :
  IR.run F62.b1 C N (fnO F62.res K0) K (F62.fr a b c d e f g j o s) h n=.ok True:=by
 rw [F62.b1,F62.sU,F62.b2];refine yB (λm tm h n=>∃ z3 z4 z7 z8,tm=(F62.fr a b c z3 z4 f g z7 z8 s)/\Inv m z3 z7 h n) ?_ hm ⟨_,_,_,_,rfl,hi⟩;rintro m tm h n R ⟨z3,z4,z7,z8,rfl,hi⟩ hR;refine Eq.trans ?_ (step m z3 z4 z7 z8 h n R hi λm' w3 w4 w7 w8 h' n' hlt hi'=>hR m' _ h' n' hlt ⟨_,_,_,_,rfl,hi'⟩)
 kernel_rfl
theorem F62.k8:IR.run F62.b8 C N (fnO F62.res K0) K (F62.fr a b c d e f g j o s) h n=zM 1 b λv1=>zH v1 h λv2=>yV v2 (y3 1 1 [(.int .u8 0)] [(0,1,(.int .u8 1))] h n λv3 h4 n5=>tJ 1 1 d v3 h4 n5 λv6 h7 n8=>sB2s v6 h7 λv9=>K0 v9 h7 n8) (sB2s d h λvH=>K0 vH h n):=by kernel_rfl
theorem F61.tab:T.get none (.of 61) tbl=some F61:=by kernel_rfl
theorem F61.go:zO tbl N C (.of 61) [a0] h n K0=C.fn 121 (.of 121) [a0] h n λv1 h2 n3=>za .eql .int v1 (I 0) λv4=>K0 v4 h2 n3:=by
 rw [yC F61.tab];kernel_rfl
theorem ku.af (X3:IR) (O:pq Prop) (t:T AV):IR.run (ku.g2 X3) C N O K t h n=IR.run X3 C N (O.blk 0 K) K t h n:=by kernel_rfl
theorem ku.tab:T.get none (.of 121) tbl=some ku:=by kernel_rfl
theorem ku.go:zO tbl N C (.of 121) [a0] h n K0=sLen a0 λv1=>za .gtr .int v1 (I 256) λv2=>yV v2 (K0 (I 5) h n) (sLen a0 λv3=>uG 1 1 [(.bool false)] v3 v3 h n λv4 h5 n6=>sLen a0 λv7=>IR.run ku.b2 C N (fnO ku.res K0) (IR.run ku.b10 C N (fnO ku.res K0) (zf ku.res K0)) (ku.fr a0 (I 0) v4 .u v2 a0 v7 (I 0) .u .u) h5 n6):=by
 rw [yC ku.tab];kernel_rfl
theorem ku.L2 (Inv:Nat->AV->T Blk->Pa->Prop) {m:Nat} (hm:m<N) (hi:Inv m j h n)
  (step:∀ (m:Nat) (z1 z3 z7 z8 z9:AV) (h:T Blk) (n:Pa) (R:Ks Prop),Inv m z7 h n->(∀ (m':Nat) (w1 w3 w7 w8 w9:AV) (h':T Blk) (n':Pa),m'<m->Inv m' w7 h' n'->R (ku.fr a w1 c w3 e f g w7 w8 w9) h' n'=.ok True) ->
   (za .lss .int z7 g λv1=>yV v1 (zN 1 f z7 λv2=>zH v2 h λv3=>za .lss .int v3 (I 0) λv4=>sG v4 false (λk=>k v3) λv5=>sG v4 false (λk=>k a) λv6=>sG v4 false (λk=>sLen v6 k) λv7=>sG v4 false (λk=>za .geq .int v5 v7 k) λv8=>yO v4 (.bool true) v8 λv9=>sG v9 false (λk=>k c) λvH=>sG v9 false (λk=>k v3) λvI=>sG v9 false (λk=>zN 1 vH vI k) λvA=>sG v9 false (λk=>zH vA h k) λvB=>yO v9 (.bool true) vB λvC=>yV vC (K0 (I 14) h n) ((IR.run ku.b8 C N (((fnO ku.res K0).blk 0 K).blk 1 (IR.run ku.b9 C N ((fnO ku.res K0).blk 0 K) R)) (IR.run ku.b9 C N ((fnO ku.res K0).blk 0 K) R)) (ku.fr a z1 c v3 e f g z7 v1 vC) h n)) (K (ku.fr a z1 c z3 e f g z7 v1 z9) h n))=.ok True) :
  IR.run ku.b2 C N (fnO ku.res K0) K (ku.fr a b c d e f g j o s) h n=.ok True:=by
 rw [ku.b2,ku.af,ku.b3];refine yB (λm tm h n=>∃ z1 z3 z7 z8 z9,tm=(ku.fr a z1 c z3 e f g z7 z8 z9)/\Inv m z7 h n) ?_ hm ⟨_,_,_,_,_,rfl,hi⟩;rintro m tm h n R ⟨z1,z3,z7,z8,z9,rfl,hi⟩ hR;refine Eq.trans ?_ (step m z1 z3 z7 z8 z9 h n R hi λm' w1 w3 w7 w8 w9 h' n' hlt hi'=>hR m' _ h' n' hlt ⟨_,_,_,_,_,rfl,hi'⟩)
 kernel_rfl
theorem ku.k10:IR.run ku.b10 C N (fnO ku.res K0) K (ku.fr a b c d e f g j o s) h n=K0 (I 0) h n:=by kernel_rfl
theorem ku.k9 {E0:Ks Prop}:IR.run ku.b9 C N ((fnO ku.res K0).blk 0 E0) K (ku.fr a b c d e f g j o s) h n=za .add .int j (I 1) λv1=>K (ku.fr a b c d e f g v1 o s) h n:=by kernel_rfl
theorem ku.k8 {E0 E1:Ks Prop}:IR.run ku.b8 C N (((fnO ku.res K0).blk 0 E0).blk 1 E1) K (ku.fr a b c d e f g j o s) h n=zN 1 c d λv1=>yA 1 v1 (.bool true) h n λv2 h3 n4=>K (ku.fr a b c d e f g j o s) h3 n4:=by kernel_rfl
theorem F27.sU (X2:IR) (O:pq Prop) (t:T AV):IR.run (F27.g1 X2) C N O K t h n=IR.run X2 C N (O.blk 0 K) K t h n:=by kernel_rfl
theorem F27.tab:T.get none (.of 27) tbl=some F27:=by kernel_rfl
theorem F27.go:zO tbl N C (.of 27) [a0] h n K0=sLen a0 λv1=>IR.run F27.b1 C N (fnO F27.res K0) (IR.run F27.b8 C N (fnO F27.res K0) (zf F27.res K0)) (F27.fr a0 (I 0) .u a0 v1 (I 0) .u .u) h n:=by
 rw [yC F27.tab];kernel_rfl
theorem F27.L1 (Inv:Nat->AV->T Blk->Pa->Prop) {m:Nat} (hm:m<N) (hi:Inv m f h n)
  (step:∀ (m:Nat) (z1 z2 z5 z6 z7:AV) (h:T Blk) (n:Pa) (R:Ks Prop),Inv m z5 h n->(∀ (m':Nat) (w1 w2 w5 w6 w7:AV) (h':T Blk) (n':Pa),m'<m->Inv m' w5 h' n'->R (F27.fr a w1 w2 d e w5 w6 w7) h' n'=.ok True) ->
   (za .lss .int z5 e λv1=>yV v1 (zN 1 d z5 λv2=>zH v2 h λv3=>za .neq .int v3 (I 0) λv4=>yV v4 (K0 v3 h n) (za .add .int z5 (I 1) λv5=>R (F27.fr a z1 v3 d e v5 v1 v4) h n)) (K (F27.fr a z1 z2 d e z5 v1 z7) h n))=.ok True) :
  IR.run F27.b1 C N (fnO F27.res K0) K (F27.fr a b c d e f g j) h n=.ok True:=by
 rw [F27.b1,F27.sU,F27.b2];refine yB (λm tm h n=>∃ z1 z2 z5 z6 z7,tm=(F27.fr a z1 z2 d e z5 z6 z7)/\Inv m z5 h n) ?_ hm ⟨_,_,_,_,_,rfl,hi⟩;rintro m tm h n R ⟨z1,z2,z5,z6,z7,rfl,hi⟩ hR;refine Eq.trans ?_ (step m z1 z2 z5 z6 z7 h n R hi λm' w1 w2 w5 w6 w7 h' n' hlt hi'=>hR m' _ h' n' hlt ⟨_,_,_,_,_,rfl,hi'⟩)
 kernel_rfl
theorem F27.k8:IR.run F27.b8 C N (fnO F27.res K0) K (F27.fr a b c d e f g j) h n=K0 (I 0) h n:=by kernel_rfl
theorem F59.tab:T.get none (.of 59) tbl=some F59:=by kernel_rfl
theorem F59.go:zO tbl N C (.of 59) [a0] h n K0=za .lss .int a0 (I 0) λv1=>sG v1 false (λk=>k a0) λv2=>sG v1 false (λk=>za .gtr .int v2 (I 256) k) λv3=>yO v1 (.bool true) v3 λv4=>C.fn 60 (.of 60) [v4,(I 3)] h n λv5 h6 n7=>K0 v5 h6 n7:=by
 rw [yC F59.tab];kernel_rfl
theorem F60.tab:T.get none (.of 60) tbl=some F60:=by kernel_rfl
theorem F60.go:zO tbl N C (.of 60) [a0,a1] h n K0=yV a0 (K0 a1 h n) (K0 (I 0) h n):=by
 rw [yC F60.tab];kernel_rfl
theorem F48.sU (X2:IR) (O:pq Prop) (t:T AV):IR.run (F48.g1 X2) C N O K t h n=IR.run X2 C N (O.blk 0 K) K t h n:=by kernel_rfl
theorem F48.qat (X8:IR) (O:pq Prop) (t:T AV):IR.run (F48.g7 X8) C N O K t h n=IR.run X8 C N (O.blk 2 K) K t h n:=by kernel_rfl
theorem F48.tab:T.get none (.of 48) tbl=some F48:=by kernel_rfl
theorem F48.go:zO tbl N C (.of 48) [a0] h n K0=zi6 a0 h n λv1 h2 n3=>IR.run F48.b1 C N (fnO F48.res K0) (IR.run F48.b6 C N (fnO F48.res K0) (zf F48.res K0)) (F48.fr a0 .zb .zb .u .u .u v1 .u .u .u .u .u) h2 n3:=by
 rw [yC F48.tab];kernel_rfl
theorem F48.L1 (Inv:Nat->AV->T Blk->Pa->Prop) {m:Nat} (hm:m<N) (hi:Inv m c h n)
  (step:∀ (m:Nat) (z2 z3 z7:AV) (h:T Blk) (n:Pa) (R:Ks Prop),Inv m z2 h n->(∀ (m':Nat) (w2 w3 w7:AV) (h':T Blk) (n':Pa),m'<m->Inv m' w2 h' n'->R (F48.fr a b w2 w3 e f g w7 o s i l) h' n'=.ok True) ->
   (zor C g h n λv1 h2 n3=>di 0 v1 λv4=>yV v4 (zi7 g h2 λv5=>di 1 v5 λv6=>yT [.zb,(.bool false)] h2 n3 λv7 h8 n9=>yA 2 v7 v6 h8 n9 λvH hC nC=>zI 2 v7 hC λvB=>y3 2 1 [.zb,(.bool false)] [(0,2,vB)] hC nC λvC hB nB=>zc4 C 2 32 z2 vC hB nB λvF hN nO=>R (F48.fr a b vF v7 e f g v4 o s i l) hN nO) (K (F48.fr a b z2 z3 e f g v4 o s i l) h2 n3))=.ok True) :
  IR.run F48.b1 C N (fnO F48.res K0) K (F48.fr a b c d e f g j o s i l) h n=.ok True:=by
 rw [F48.b1,F48.sU,F48.b2];refine yB (λm tm h n=>∃ z2 z3 z7,tm=(F48.fr a b z2 z3 e f g z7 o s i l)/\Inv m z2 h n) ?_ hm ⟨_,_,_,rfl,hi⟩;rintro m tm h n R ⟨z2,z3,z7,rfl,hi⟩ hR;refine Eq.trans ?_ (step m z2 z3 z7 h n R hi λm' w2 w3 w7 h' n' hlt hi'=>hR m' _ h' n' hlt ⟨_,_,_,rfl,hi'⟩)
 kernel_rfl
theorem F48.k6:IR.run F48.b6 C N (fnO F48.res K0) K (F48.fr a b c d e f g j o s i l) h n=C.fn 96 (.of 96) [c,(.fn 97 (.of 97) [])] h n λv1 h2 n3=>sLen c λv4=>IR.run F48.b7 C N (fnO F48.res K0) (IR.run F48.b14 C N (fnO F48.res K0) K) (F48.fr a b c d .zb f g j c v4 (I 0) l) h2 n3:=by kernel_rfl
theorem F48.L7 (Inv:Nat->AV->AV->T Blk->Pa->Prop) {m:Nat} (hm:m<N) (hi:Inv m e i h n)
  (step:∀ (m:Nat) (z4 z5 zA zB:AV) (h:T Blk) (n:Pa) (R:Ks Prop),Inv m z4 zA h n->(∀ (m':Nat) (w4 w5 wA wB:AV) (h':T Blk) (n':Pa),m'<m->Inv m' w4 wA h' n'->R (F48.fr a b c d w4 w5 g j o s wA wB) h' n'=.ok True) ->
   (za .lss .int zA s λv1=>yV v1 (zN 2 o zA λv2=>zI 2 v2 h λv3=>yT [.zb,(.bool false)] h n λv4 h5 n6=>yA 2 v4 v3 h5 n6 λv7 h8 n9=>zI 2 v4 h8 λvH=>y3 2 1 [.zb,(.bool false)] [(0,2,vH)] h8 n9 λvI hH nI=>zc4 C 2 32 z4 vI hH nI λvC hB nB=>za .add .int zA (I 1) λvF=>R (F48.fr a b c d vC v4 g j o s vF v1) hB nB) (K (F48.fr a b c d z4 z5 g j o s zA v1) h n))=.ok True) :
  IR.run F48.b7 C N (fnO F48.res K0) K (F48.fr a b c d e f g j o s i l) h n=.ok True:=by
 rw [F48.b7,F48.qat,F48.b8];refine yB (λm tm h n=>∃ z4 z5 zA zB,tm=(F48.fr a b c d z4 z5 g j o s zA zB)/\Inv m z4 zA h n) ?_ hm ⟨_,_,_,_,rfl,hi⟩;rintro m tm h n R ⟨z4,z5,zA,zB,rfl,hi⟩ hR;refine Eq.trans ?_ (step m z4 z5 zA zB h n R hi λm' w4 w5 wA wB h' n' hlt hi'=>hR m' _ h' n' hlt ⟨_,_,_,_,rfl,hi'⟩)
 kernel_rfl
theorem F48.k14:IR.run F48.b14 C N (fnO F48.res K0) K (F48.fr a b c d e f g j o s i l) h n=K0 e h n:=by kernel_rfl
theorem jd.zu:IR.run jd.t0 C N O K (jd.fr a b c d e f g j o s i l) h n=K (jd.fr a b (.int .u64 0) (.int .u64 0) e f g j o s i l) h n:=by kernel_rfl
theorem jd.zo:IR.run jd.t1 C N O K (jd.fr a b c d e f g j o s i l) h n=za .and .int a (.int .u64 4294967295) λv1=>K (jd.fr a b c d v1 f g j o s i l) h n:=by kernel_rfl
theorem jd.yt:IR.run jd.t2 C N O K (jd.fr a b c d e f g j o s i l) h n=za .shr .int a (.int .u64 32) λv1=>K (jd.fr a b c d e v1 g j o s i l) h n:=by kernel_rfl
theorem jd.vk:IR.run jd.t3 C N O K (jd.fr a b c d e f g j o s i l) h n=za .and .int b (.int .u64 4294967295) λv1=>K (jd.fr a b c d e f v1 j o s i l) h n:=by kernel_rfl
theorem jd.nY:IR.run jd.t4 C N O K (jd.fr a b c d e f g j o s i l) h n=za .shr .int b (.int .u64 32) λv1=>K (jd.fr a b c d e f g v1 o s i l) h n:=by kernel_rfl
theorem jd.dz:IR.run jd.t5 C N O K (jd.fr a b c d e f g j o s i l) h n=za .mul .int e g λv1=>K (jd.fr a b c d e f g j v1 s i l) h n:=by kernel_rfl
theorem jd.uj:IR.run jd.t6 C N O K (jd.fr a b c d e f g j o s i l) h n=za .mul .int f g λv1=>za .shr .int o (.int .u64 32) λv2=>za .add .int v1 v2 λv3=>K (jd.fr a b c d e f g j o v3 i l) h n:=by kernel_rfl
theorem jd.ng:IR.run jd.t7 C N O K (jd.fr a b c d e f g j o s i l) h n=za .and .int s (.int .u64 4294967295) λv1=>K (jd.fr a b c d e f g j o s v1 l) h n:=by kernel_rfl
theorem jd.rE:IR.run jd.t8 C N O K (jd.fr a b c d e f g j o s i l) h n=za .shr .int s (.int .u64 32) λv1=>K (jd.fr a b c d e f g j o s i v1) h n:=by kernel_rfl
theorem jd.rF:IR.run jd.t9 C N O K (jd.fr a b c d e f g j o s i l) h n=za .mul .int e j λv1=>za .add .int i v1 λv2=>K (jd.fr a b c d e f g j o s v2 l) h n:=by kernel_rfl
theorem jd.rC:IR.run jd.t10 C N O K (jd.fr a b c d e f g j o s i l) h n=za .mul .int f j λv1=>za .add .int v1 l λv2=>za .shr .int i (.int .u64 32) λv3=>za .add .int v2 v3 λv4=>K (jd.fr a b v4 d e f g j o s i l) h n:=by kernel_rfl
theorem jd.qz:IR.run jd.t11 C N O K (jd.fr a b c d e f g j o s i l) h n=za .mul .int a b λv1=>K (jd.fr a b c v1 e f g j o s i l) h n:=by kernel_rfl
theorem jd.go:zO tbl N C (.of 240) [a0,a1] h n K0=IR.run jd.t23 C N (fnO jd.res K0) (zf jd.res K0) (jd.fr a0 a1 .u .u .u .u .u .u .u .u .u .u) h n:=yE (F:=jd) (by kernel_rfl) (λ_=>by kernel_rfl) (by kernel_rfl)
theorem jd.ret:zf jd.res K0 (jd.fr a b c d e f g j o s i l) h n=K0 (.tup [c,d]) h n:=by kernel_rfl
theorem xk.zu:IR.run xk.t0 C N O K (xk.fr a b c) h n=K (xk.fr a (.int .u64 0) c) h n:=by kernel_rfl
theorem xk.zo:IR.run xk.t1 C N O K (xk.fr a b c) h n=za .lss .int a (I 0) λv1=>K (xk.fr a b v1) h n:=by kernel_rfl
theorem xk.yt:IR.run xk.t2 C N O K (xk.fr a b c) h n=sNeg a λv1=>wW .u64 v1 λv2=>K (xk.fr a v2 c) h n:=by kernel_rfl
theorem xk.v2:Arg.ev (.t (.of 2)) ⟨(xk.fr a b c),[]⟩=c:=by kernel_rfl
theorem xk.uj:IR.run xk.t6 C N O K (xk.fr a b c) h n=wW .u64 a λv1=>K (xk.fr a v1 c) h n:=by kernel_rfl
theorem xk.go:zO tbl N C (.of 241) [a0] h n K0=IR.run xk.t9 C N (fnO xk.res K0) (zf xk.res K0) (xk.fr a0 .u .u) h n:=yE (F:=xk) (by kernel_rfl) (λ_=>by kernel_rfl) (by kernel_rfl)
theorem xk.ret:zf xk.res K0 (xk.fr a b c) h n=K0 b h n:=by kernel_rfl
theorem yh.zu:IR.run yh.t0 C N O K (yh.fr a b c d e) h n=K (yh.fr a (I 0) c d e) h n:=by kernel_rfl
theorem yh.zo:IR.run yh.t1 C N O K (yh.fr a b c d e) h n=za .geq .int a (.int .u64 4294967296) λv1=>K (yh.fr a b v1 d e) h n:=by kernel_rfl
theorem yh.yt:IR.run yh.t2 C N O K (yh.fr a b c d e) h n=za .shr .int a (.int .u64 32) λv1=>K (yh.fr v1 b c d e) h n:=by kernel_rfl
theorem yh.vk:IR.run yh.t3 C N O K (yh.fr a b c d e) h n=K (yh.fr a (I 32) c d e) h n:=by kernel_rfl
theorem yh.v2:Arg.ev (.t (.of 2)) ⟨(yh.fr a b c d e),[]⟩=c:=by kernel_rfl
theorem yh.ng:IR.run yh.t7 C N O K (yh.fr a b c d e) h n=za .geq .int a (.int .u64 65536) λv1=>K (yh.fr a b c v1 e) h n:=by kernel_rfl
theorem yh.rE:IR.run yh.t8 C N O K (yh.fr a b c d e) h n=za .shr .int a (.int .u64 16) λv1=>K (yh.fr v1 b c d e) h n:=by kernel_rfl
theorem yh.rF:IR.run yh.t9 C N O K (yh.fr a b c d e) h n=za .add .int b (I 16) λv1=>K (yh.fr a v1 c d e) h n:=by kernel_rfl
theorem yh.v3:Arg.ev (.t (.of 3)) ⟨(yh.fr a b c d e),[]⟩=d:=by kernel_rfl
theorem yh.rX:IR.run yh.t13 C N O K (yh.fr a b c d e) h n=za .geq .int a (.int .u64 256) λv1=>K (yh.fr a b c d v1) h n:=by kernel_rfl
theorem yh.tF:IR.run yh.t14 C N O K (yh.fr a b c d e) h n=za .shr .int a (.int .u64 8) λv1=>K (yh.fr v1 b c d e) h n:=by kernel_rfl
theorem yh.zge:IR.run yh.t15 C N O K (yh.fr a b c d e) h n=za .add .int b (I 8) λv1=>K (yh.fr a v1 c d e) h n:=by kernel_rfl
theorem yh.v4:Arg.ev (.t (.of 4)) ⟨(yh.fr a b c d e),[]⟩=e:=by kernel_rfl
theorem yh.rY:IR.run yh.t19 C N O K (yh.fr a b c d e) h n=wW .u8 a λv1=>wU (.str [0,1,2,2,3,3,3,3,4,4,4,4,4,4,4,4,5,5,5,5,5,5,5,5,5,5,5,5,5,5,5,5,6,6,6,6,6,6,6,6,6,6,6,6,6,6,6,6,6,6,6,6,6,6,6,6,6,6,6,6,6,6,6,6,7,7,7,7,7,7,7,7,7,7,7,7,7,7,7,7,7,7,7,7,7,7,7,7,7,7,7,7,7,7,7,7,7,7,7,7,7,7,7,7,7,7,7,7,7,7,7,7,7,7,7,7,7,7,7,7,7,7,7,7,7,7,7,7,8,8,8,8,8,8,8,8,8,8,8,8,8,8,8,8,8,8,8,8,8,8,8,8,8,8,8,8,8,8,8,8,8,8,8,8,8,8,8,8,8,8,8,8,8,8,8,8,8,8,8,8,8,8,8,8,8,8,8,8,8,8,8,8,8,8,8,8,8,8,8,8,8,8,8,8,8,8,8,8,8,8,8,8,8,8,8,8,8,8,8,8,8,8,8,8,8,8,8,8,8,8,8,8,8,8,8,8,8,8,8,8,8,8,8,8,8,8,8,8,8,8,8,8,8,8,8,8]) v1 λv2=>wW .i64 v2 λv3=>za .add .int b v3 λv4=>K (yh.fr a v4 c d e) h n:=by kernel_rfl
theorem yh.go:zO tbl N C (.of 184) [a0] h n K0=IR.run yh.t24 C N (fnO yh.res K0) (zf yh.res K0) (yh.fr a0 .u .u .u .u) h n:=yE (F:=yh) (by kernel_rfl) (λ_=>by kernel_rfl) (by kernel_rfl)
theorem yh.ret:zf yh.res K0 (yh.fr a b c d e) h n=K0 b h n:=by kernel_rfl
theorem qh.zu:IR.run qh.t0 C N O K (qh.fr a b c d e f) h n=qm a h n λv1 h2 n3=>K (qh.fr a v1 (.bool false) .zb e f) h2 n3:=by kernel_rfl
theorem qh.zo:IR.run qh.t1 C N O K (qh.fr a b c d e f) h n=zM 1 b λv1=>zH v1 h λv2=>za .neq (.nil .sl) v2 .zb λv3=>K (qh.fr a b c d v3 f) h n:=by kernel_rfl
theorem qh.nY:IR.run qh.t4 C N O K (qh.fr a b c d e f) h n=zM 0 b λv1=>zH v1 h λv2=>za .eql .int v2 (I 0) λv3=>K (qh.fr a b c d e v3) h n:=by kernel_rfl
theorem qh.dz:IR.run qh.t5 C N O K (qh.fr a b c d e f) h n=K (qh.fr a b (.bool false) .zb e f) h n:=by kernel_rfl
theorem qh.v5:Arg.ev (.t (.of 5)) ⟨(qh.fr a b c d e f),[]⟩=f:=by kernel_rfl
theorem qh.v4:Arg.ev (.t (.of 4)) ⟨(qh.fr a b c d e f),[]⟩=e:=by kernel_rfl
theorem qh.nZ:IR.run qh.t12 C N O K (qh.fr a b c d e f) h n=zM 0 b λv1=>zH v1 h λv2=>za .lss .int v2 (I 0) λv3=>zM 0 b λv4=>zH v4 h λv5=>C.fn 241 (.of 241) [v5] h n λv6 h7 n8=>(za .lss .int v2 (I 0) λvF=>zX vF v3 ((zH v1 h7 λvE=>zX vE v2 ((zM 0 b λvD=>zX vD v1 (y3 1 1 [(.int .u64 0)] [(0,1,v6)] h7 n8 λv9 hA nA=>zX v3 v3 ((za .lss .int v2 (I 0) λvC=>zX vC v3 ((zH v1 hA λvB=>zX vB v2 ((zM 0 b λvA=>zX vA v1 (K (qh.fr a b v3 v9 e f) hA nA))))))))))))):=by kernel_rfl
theorem qh.go:zO tbl N C (.of 193) [a0] h n K0=IR.run qh.t15 C N (fnO qh.res K0) (zf qh.res K0) (qh.fr a0 .u .u .u .u .u) h n:=yE (F:=qh) (by kernel_rfl) (λ_=>by kernel_rfl) (by kernel_rfl)
theorem qh.ret:zf qh.res K0 (qh.fr a b c d e f) h n=K0 (.tup [c,d]) h n:=by kernel_rfl
theorem nu.zu:IR.run nu.t0 C N O K (nu.fr a b) h n=yT [(I 0),.zb] h n λv1 h2 n3=>K (nu.fr a v1) h2 n3:=by kernel_rfl
theorem nu.zo:IR.run nu.t1 C N O K (nu.fr a b) h n=gV [(I 0),.zb] [(0,1,a)] λv1=>yA 2 b v1 h n λv2 h3 n4=>K (nu.fr a b) h3 n4:=by kernel_rfl
theorem nu.go:zO tbl N C (.of 131) [a0] h n K0=IR.run nu.t3 C N (fnO nu.res K0) (zf nu.res K0) (nu.fr a0 .u) h n:=yE (F:=nu) (by kernel_rfl) (λ_=>by kernel_rfl) (by kernel_rfl)
theorem nu.ret:zf nu.res K0 (nu.fr a b) h n=zI 2 b h λv1=>K0 v1 h n:=by kernel_rfl
theorem ny.zu:IR.run ny.t0 C N O K (ny.fr a b c) h n=qm a h n λv1 h2 n3=>K (ny.fr a v1 (I 0)) h2 n3:=by kernel_rfl
theorem ny.zo:IR.run ny.t1 C N O K (ny.fr a b c) h n=zM 0 b λv1=>zH v1 h λv2=>sMin false (I 1) [v2] λv3=>sMin true (I (-1)) [v3] λv4=>K (ny.fr a b v4) h n:=by kernel_rfl
theorem ny.go:zO tbl N C (.of 132) [a0] h n K0=IR.run ny.t3 C N (fnO ny.res K0) (zf ny.res K0) (ny.fr a0 .u .u) h n:=yE (F:=ny) (by kernel_rfl) (λ_=>by kernel_rfl) (by kernel_rfl)
theorem ny.ret:zf ny.res K0 (ny.fr a b c) h n=K0 c h n:=by kernel_rfl
theorem mg.zu:IR.run mg.t0 C N O K (mg.fr a b c d e f) h n=qm a h n λv1 h2 n3=>yT [(I 0),.zb] h2 n3 λv4 h5 n6=>K (mg.fr a v1 v4 d e f) h5 n6:=by kernel_rfl
theorem mg.zo:IR.run mg.t1 C N O K (mg.fr a b c d e f) h n=zM 1 b λv1=>zH v1 h λv2=>za .eql (.nil .sl) v2 .zb λv3=>sG v3 true (λk=>zM 0 b k) λv4=>sG v3 true (λk=>zH v4 h k) λv5=>sG v3 true (λk=>za .neq .int v5 (I (-9223372036854775808)) k) λv6=>yO v3 v6 (.bool false) λv7=>K (mg.fr a b c d e v7) h n:=by kernel_rfl
theorem mg.yt:IR.run mg.t2 C N O K (mg.fr a b c d e f) h n=zM 0 b λv1=>zH v1 h λv2=>sNeg v2 λv3=>gV [(I 0),.zb] [(0,1,v3)] λv4=>yA 2 c v4 h n λv5 h6 n7=>K (mg.fr a b c d e f) h6 n7:=by kernel_rfl
theorem mg.v5:Arg.ev (.t (.of 5)) ⟨(mg.fr a b c d e f),[]⟩=f:=by kernel_rfl
theorem mg.go:zO tbl N C (.of 135) [a0] h n K0=IR.run mg.t11 C N (fnO mg.res K0) (zf mg.res K0) (mg.fr a0 .u .u .u .u .u) h n:=yE (F:=mg) (by kernel_rfl) (λ_=>by kernel_rfl) (by kernel_rfl)
theorem mg.ret:zf mg.res K0 (mg.fr a b c d e f) h n=zI 2 c h λv1=>K0 v1 h n:=by kernel_rfl
theorem ji.zu:IR.run ji.t0 C N O K (ji.fr a b c) h n=K (ji.fr a .zb c) h n:=by kernel_rfl
theorem ji.zo:IR.run ji.t1 C N O K tm h n=zZ ji.sH C ⟨tm,[]⟩ h n (λtm h n=>K tm.v h n):=jJ ..
theorem ji.sJ:zZ (ji.rR r) C ⟨(ji.fr a b c),[]⟩ h n Kt=sLen a λv1=>za .gtr .int v1 (I 0) λv2=>sG v2 true (λk=>k a) λv3=>sG v2 true (λk=>k a) λv4=>sG v2 true (λk=>sLen v4 k) λv5=>sG v2 true (λk=>za .sub .int v5 (I 1) k) λv6=>zZ r C ⟨(ji.fr a b c),v6::v5::v4::v3::v2::v2::v1::a::[]⟩ h n Kt:=by kernel_rfl
theorem ji.rM:zZ (ji.rT []) C ⟨(ji.fr a b c),s0::s1::s2::s3::s4::sT⟩ h n Kt=sG s4 true (λk=>zN 1 s3 s0 k) λv1=>sG s4 true (λk=>zH v1 h k) λv2=>sG s4 true (λk=>za .eql .int v2 (I 0) k) λv3=>yO s4 v3 (.bool false) λv4=>Kt ⟨(ji.fr a b v4),v3::v2::v1::s0::s1::s2::s3::s4::sT⟩ h n:=by kernel_rfl
theorem ji.v2:Arg.ev (.t (.of 2)) ⟨(ji.fr a b c),[]⟩=c:=by kernel_rfl
theorem ji.nY:IR.run ji.t4 C N O K (ji.fr a b c) h n=sLen a λv1=>za .sub .int v1 (I 1) λv2=>xI 1 a none (some v2) none λv3=>K (ji.fr v3 b c) h n:=by kernel_rfl
theorem ji.t7_L (Inv:Nat->AV->T Blk->Pa->Prop) {m:Nat} (hm:m<N) (hi:Inv m a h n)
  (step:∀ (m:Nat) (z0 z2:AV) (h:T Blk) (n:Pa) (R:Ks Prop),Inv m z0 h n->(∀ (m':Nat) (w0 w2:AV) (h':T Blk) (n':Pa),m'<m->Inv m' w0 h' n'->R (ji.fr w0 b w2) h' n'=.ok True)->IR.run ji.t6 C N O R (ji.fr z0 b z2) h n=.ok True) :
  IR.run ji.t7 C N O K (ji.fr a b c) h n=.ok True:=by
 rw [ji.t7];refine yB (λm tm h n=>∃ z0 z2,tm=(ji.fr z0 b z2)/\Inv m z0 h n) ?_ hm ⟨_,_,rfl,hi⟩;rintro m _ h n R ⟨_,_,rfl,q⟩ p;exact step m _ _ h n R q λ_ _ _ _ _ x y=>p _ _ _ _ x ⟨_,_,rfl,y⟩
theorem ji.rF:IR.run ji.t9 C N O K (ji.fr a b c) h n=K (ji.fr a a c) h n:=by kernel_rfl
theorem ji.go:zO tbl N C (.of 199) [a0] h n K0=IR.run ji.t12 C N (fnO ji.res K0) (zf ji.res K0) (ji.fr a0 .u .u) h n:=yE (F:=ji) (by kernel_rfl) (λ_=>by kernel_rfl) (by kernel_rfl)
theorem ji.ret:zf ji.res K0 (ji.fr a b c) h n=K0 b h n:=by kernel_rfl
theorem mh.zu:IR.run mh.t0 C N O K (mh.fr a b c) h n=yT [(.bool false),.zb] h n λv1 h2 n3=>K (mh.fr a b v1) h2 n3:=by kernel_rfl
theorem mh.zo:IR.run mh.t1 C N O K (mh.fr a b c) h n=C.fn 199 (.of 199) [b] h n λv1 h2 n3=>K (mh.fr a v1 c) h2 n3:=by kernel_rfl
theorem mh.yt:IR.run mh.t2 C N O K (mh.fr a b c) h n=sG a true (λk=>k b) λv1=>sG a true (λk=>sLen v1 k) λv2=>sG a true (λk=>za .gtr .int v2 (I 0) k) λv3=>yO a v3 (.bool false) λv4=>gV [(.bool false),.zb] [(0,1,v4),(1,1,b)] λv5=>yA 2 c v5 h n λv6 h7 n8=>K (mh.fr a b c) h7 n8:=by kernel_rfl
theorem mh.go:zO tbl N C (.of 196) [a0,a1] h n K0=IR.run mh.t5 C N (fnO mh.res K0) (zf mh.res K0) (mh.fr a0 a1 .u) h n:=yE (F:=mh) (by kernel_rfl) (λ_=>by kernel_rfl) (by kernel_rfl)
theorem mh.ret:zf mh.res K0 (mh.fr a b c) h n=zI 2 c h λv1=>K0 v1 h n:=by kernel_rfl
theorem zy.zu:IR.run zy.t0 C N O K (zy.fr a b c d e f g j o) h n=K (zy.fr a b (I 0) d e f g j o) h n:=by kernel_rfl
theorem zy.zo:IR.run zy.t1 C N O K (zy.fr a b c d e f g j o) h n=sLen a λv1=>sLen b λv2=>za .neq .int v1 v2 λv3=>K (zy.fr a b c d v3 f g j o) h n:=by kernel_rfl
theorem zy.yt:IR.run zy.t2 C N O K (zy.fr a b c d e f g j o) h n=sLen a λv1=>sLen b λv2=>za .lss .int v1 v2 λv3=>K (zy.fr a b c d e v3 g j o) h n:=by kernel_rfl
theorem zy.vk:IR.run zy.t3 C N O K (zy.fr a b c d e f g j o) h n=K (zy.fr a b (I (-1)) d e f g j o) h n:=by kernel_rfl
theorem zy.v5:Arg.ev (.t (.of 5)) ⟨(zy.fr a b c d e f g j o),[]⟩=f:=by kernel_rfl
theorem zy.ng:IR.run zy.t7 C N O K (zy.fr a b c d e f g j o) h n=K (zy.fr a b (I 1) d e f g j o) h n:=by kernel_rfl
theorem zy.v4:Arg.ev (.t (.of 4)) ⟨(zy.fr a b c d e f g j o),[]⟩=e:=by kernel_rfl
theorem zy.nZ:IR.run zy.t12 C N O K (zy.fr a b c d e f g j o) h n=sLen a λv1=>za .sub .int v1 (I 1) λv2=>K (zy.fr a b c v2 e f g j o) h n:=by kernel_rfl
theorem zy.rX:IR.run zy.t13 C N O K (zy.fr a b c d e f g j o) h n=za .geq .int d (I 0) λv1=>K (zy.fr a b c d e f v1 j o) h n:=by kernel_rfl
theorem zy.v6:Arg.ev (.t (.of 6)) ⟨(zy.fr a b c d e f g j o),[]⟩=g:=by kernel_rfl
theorem zy.rU:IR.run zy.t16 C N O K (zy.fr a b c d e f g j o) h n=zN 1 a d λv1=>zH v1 h λv2=>zN 1 b d λv3=>zH v3 h λv4=>za .lss .int v2 v4 λv5=>K (zy.fr a b c d e f g v5 o) h n:=by kernel_rfl
theorem zy.rG:IR.run zy.t17 C N O K (zy.fr a b c d e f g j o) h n=K (zy.fr a b (I (-1)) d e f g j o) h n:=by kernel_rfl
theorem zy.v7:Arg.ev (.t (.of 7)) ⟨(zy.fr a b c d e f g j o),[]⟩=j:=by kernel_rfl
theorem zy.eO:IR.run zy.t21 C N O K (zy.fr a b c d e f g j o) h n=zN 1 a d λv1=>zH v1 h λv2=>zN 1 b d λv3=>zH v3 h λv4=>za .gtr .int v2 v4 λv5=>K (zy.fr a b c d e f g j v5) h n:=by kernel_rfl
theorem zy.tT:IR.run zy.t22 C N O K (zy.fr a b c d e f g j o) h n=K (zy.fr a b (I 1) d e f g j o) h n:=by kernel_rfl
theorem zy.v8:Arg.ev (.t (.of 8)) ⟨(zy.fr a b c d e f g j o),[]⟩=o:=by kernel_rfl
theorem zy.zac:IR.run zy.t28 C N O K (zy.fr a b c d e f g j o) h n=za .sub .int d (I 1) λv1=>K (zy.fr a b c v1 e f g j o) h n:=by kernel_rfl
theorem zy.zgf (Inv:Nat->AV->T Blk->Pa->Prop) {m:Nat} (hm:m<N) (hi:Inv m d h n)
  (step:∀ (m:Nat) (z2 z3 z6 z7 z8:AV) (h:T Blk) (n:Pa) (R:Ks Prop),Inv m z3 h n->(∀ (m':Nat) (w2 w3 w6 w7 w8:AV) (h':T Blk) (n':Pa),m'<m->Inv m' w3 h' n'->R (zy.fr a b w2 w3 e f w6 w7 w8) h' n'=.ok True)->IR.run zy.t30 C N O R (zy.fr a b z2 z3 e f z6 z7 z8) h n=.ok True) :
  IR.run zy.t31 C N O K (zy.fr a b c d e f g j o) h n=.ok True:=by
 rw [zy.t31];refine yB (λm tm h n=>∃ z2 z3 z6 z7 z8,tm=(zy.fr a b z2 z3 e f z6 z7 z8)/\Inv m z3 h n) ?_ hm ⟨_,_,_,_,_,rfl,hi⟩;rintro m _ h n R ⟨_,_,_,_,_,rfl,q⟩ p;exact step m _ _ _ _ _ h n R q λ_ _ _ _ _ _ _ _ x y=>p _ _ _ _ x ⟨_,_,_,_,_,rfl,y⟩
theorem zy.zc5:IR.run zy.t34 C N O K (zy.fr a b c d e f g j o) h n=K (zy.fr a b (I 0) d e f g j o) h n:=by kernel_rfl
theorem zy.go:zO tbl N C (.of 197) [a0,a1] h n K0=IR.run zy.t38 C N (fnO zy.res K0) (zf zy.res K0) (zy.fr a0 a1 .u .u .u .u .u .u .u) h n:=yE (F:=zy) (by kernel_rfl) (λ_=>by kernel_rfl) (by kernel_rfl)
theorem zy.ret:zf zy.res K0 (zy.fr a b c d e f g j o) h n=K0 c h n:=by kernel_rfl
theorem jb.zu:IR.run jb.t0 C N O K (jb.fr a b c d e f g j o) h n=K (jb.fr a b .zb (I 0) e f g j o) h n:=by kernel_rfl
theorem jb.zo:IR.run jb.t1 C N O K (jb.fr a b c d e f g j o) h n=sLen a λv1=>uG 1 8 [(I 0)] v1 v1 h n λv2 h3 n4=>K (jb.fr a b c d v2 f g j o) h3 n4:=by kernel_rfl
theorem jb.yt:IR.run jb.t2 C N O K (jb.fr a b c d e f g j o) h n=K (jb.fr a b c d e (I 0) g j o) h n:=by kernel_rfl
theorem jb.vk:IR.run jb.t3 C N O K (jb.fr a b c d e f g j o) h n=sLen a λv1=>za .sub .int v1 (I 1) λv2=>K (jb.fr a b c d e f v2 j o) h n:=by kernel_rfl
theorem jb.nY:IR.run jb.t4 C N O K (jb.fr a b c d e f g j o) h n=za .geq .int g (I 0) λv1=>K (jb.fr a b c d e f g j v1) h n:=by kernel_rfl
theorem jb.v8:Arg.ev (.t (.of 8)) ⟨(jb.fr a b c d e f g j o),[]⟩=o:=by kernel_rfl
theorem jb.ng:IR.run jb.t7 C N O K (jb.fr a b c d e f g j o) h n=za .mul .int f (I 1000000000) λv1=>zN 1 a g λv2=>zH v2 h λv3=>za .add .int v1 v3 λv4=>K (jb.fr a b c d e f g v4 o) h n:=by kernel_rfl
theorem jb.rE:IR.run jb.t8 C N O K (jb.fr a b c d e f g j o) h n=za .quo .int j b λv1=>zN 1 e g λv2=>yA 1 v2 v1 h n λv3 h4 n5=>K (jb.fr a b c d e f g j o) h4 n5:=by kernel_rfl
theorem jb.rF:IR.run jb.t9 C N O K (jb.fr a b c d e f g j o) h n=za .rem .int j b λv1=>K (jb.fr a b c d e v1 g j o) h n:=by kernel_rfl
theorem jb.rX:IR.run jb.t13 C N O K (jb.fr a b c d e f g j o) h n=za .sub .int g (I 1) λv1=>K (jb.fr a b c d e f v1 j o) h n:=by kernel_rfl
theorem jb.eT (Inv:Nat->AV->AV->T Blk->Pa->Prop) {m:Nat} (hm:m<N) (hi:Inv m f g h n)
  (step:∀ (m:Nat) (z5 z6 z7 z8:AV) (h:T Blk) (n:Pa) (R:Ks Prop),Inv m z5 z6 h n->(∀ (m':Nat) (w5 w6 w7 w8:AV) (h':T Blk) (n':Pa),m'<m->Inv m' w5 w6 h' n'->R (jb.fr a b c d e w5 w6 w7 w8) h' n'=.ok True)->IR.run jb.t15 C N O R (jb.fr a b c d e z5 z6 z7 z8) h n=.ok True) :
  IR.run jb.t16 C N O K (jb.fr a b c d e f g j o) h n=.ok True:=by
 rw [jb.t16];refine yB (λm tm h n=>∃ z5 z6 z7 z8,tm=(jb.fr a b c d e z5 z6 z7 z8)/\Inv m z5 z6 h n) ?_ hm ⟨_,_,_,_,rfl,hi⟩;rintro m _ h n R ⟨_,_,_,_,rfl,q⟩ p;exact step m _ _ _ _ h n R q λ_ _ _ _ _ _ _ x y=>p _ _ _ _ x ⟨_,_,_,_,rfl,y⟩
theorem jb.rY:IR.run jb.t19 C N O K (jb.fr a b c d e f g j o) h n=C.fn 199 (.of 199) [e] h n λv1 h2 n3=>K (jb.fr a b v1 f e f g j o) h2 n3:=by kernel_rfl
theorem jb.go:zO tbl N C (.of 198) [a0,a1] h n K0=IR.run jb.t24 C N (fnO jb.res K0) (zf jb.res K0) (jb.fr a0 a1 .u .u .u .u .u .u .u) h n:=yE (F:=jb) (by kernel_rfl) (λ_=>by kernel_rfl) (by kernel_rfl)
theorem jb.ret:zf jb.res K0 (jb.fr a b c d e f g j o) h n=K0 (.tup [c,d]) h n:=by kernel_rfl
theorem qi.zu:IR.run qi.t0 C N O K (qi.fr a b c d e f g j o s i l q p) h n=qm a h n λv1 h2 n3=>qm b h2 n3 λv4 h5 n6=>yT [(I 0),.zb] h5 n6 λv7 h8 n9=>K (qi.fr a b v1 v4 v7 f g j o s i l q p) h8 n9:=by kernel_rfl
theorem qi.zo:IR.run qi.t1 C N O K (qi.fr a b c d e f g j o s i l q p) h n=zM 1 c λv1=>zH v1 h λv2=>za .eql (.nil .sl) v2 .zb λv3=>sG v3 true (λk=>zM 1 d k) λv4=>sG v3 true (λk=>zH v4 h k) λv5=>sG v3 true (λk=>za .eql (.nil .sl) v5 .zb k) λv6=>yO v3 v6 (.bool false) λv7=>K (qi.fr a b c d e f g j o s v7 l q p) h n:=by kernel_rfl
theorem qi.yt:IR.run qi.t2 C N O K (qi.fr a b c d e f g j o s i l q p) h n=zM 0 c λv1=>zH v1 h λv2=>zM 0 d λv3=>zH v3 h λv4=>za .add .int v2 v4 λv5=>K (qi.fr a b c d e v5 g j o s i l q p) h n:=by kernel_rfl
theorem qi.vk:IR.run qi.t3 C N O K (qi.fr a b c d e f g j o s i l q p) h n=zM 0 c λv1=>zH v1 h λv2=>za .gtr .int f v2 λv3=>zM 0 d λv4=>zH v4 h λv5=>za .gtr .int v5 (I 0) λv6=>za .eql .bool v3 v6 λv7=>K (qi.fr a b c d e f g j o s i v7 q p) h n:=by kernel_rfl
theorem qi.nY:IR.run qi.t4 C N O K (qi.fr a b c d e f g j o s i l q p) h n=gV [(I 0),.zb] [(0,1,f)] λv1=>yA 2 e v1 h n λv2 h3 n4=>K (qi.fr a b c d e f g j o s i l q p) h3 n4:=by kernel_rfl
theorem qi.v11:Arg.ev (.t (.of 11)) ⟨(qi.fr a b c d e f g j o s i l q p),[]⟩=l:=by kernel_rfl
theorem qi.v10:Arg.ev (.t (.of 10)) ⟨(qi.fr a b c d e f g j o s i l q p),[]⟩=i:=by kernel_rfl
theorem qi.go:zO tbl N C (.of 170) [a0,a1] h n K0=IR.run qi.t30 C N (fnO qi.res K0) (zf qi.res K0) (qi.fr a0 a1 .u .u .u .u .u .u .u .u .u .u .u .u) h n:=yE (F:=qi) (by kernel_rfl) (λ_=>by kernel_rfl) (by kernel_rfl)
theorem qi.ret:zf qi.res K0 (qi.fr a b c d e f g j o s i l q p) h n=zI 2 e h λv1=>K0 v1 h n:=by kernel_rfl
theorem jy.zu:IR.run jy.t0 C N O K (jy.fr a b c d e f g j o s i l q p) h n=qm a h n λv1 h2 n3=>qm b h2 n3 λv4 h5 n6=>yT [(I 0),.zb] h5 n6 λv7 h8 n9=>K (jy.fr a b v1 v4 v7 f g j o s i l q p) h8 n9:=by kernel_rfl
theorem jy.zo:IR.run jy.t1 C N O K (jy.fr a b c d e f g j o s i l q p) h n=zM 1 c λv1=>zH v1 h λv2=>za .eql (.nil .sl) v2 .zb λv3=>sG v3 true (λk=>zM 1 d k) λv4=>sG v3 true (λk=>zH v4 h k) λv5=>sG v3 true (λk=>za .eql (.nil .sl) v5 .zb k) λv6=>yO v3 v6 (.bool false) λv7=>K (jy.fr a b c d e f g j o s i v7 q p) h n:=by kernel_rfl
theorem jy.yt:IR.run jy.t2 C N O K (jy.fr a b c d e f g j o s i l q p) h n=zM 0 c λv1=>zH v1 h λv2=>zM 0 d λv3=>zH v3 h λv4=>C.fn 241 (.of 241) [v2] h n λv5 h6 n7=>(zH v3 h6 λvF=>zX vF v4 ((zM 0 d λvE=>zX vE v3 (C.fn 241 (.of 241) [v4] h6 n7 λv8 h9 nH=>C.fn 240 (.of 240) [v5,v8] h9 nH λvI hH nI=>di 0 vI λvC=>di 1 vI λvD=>K (jy.fr a b c d e vC vD j o s i l q p) hH nI)))):=by kernel_rfl
theorem jy.vk:IR.run jy.t3 C N O K (jy.fr a b c d e f g j o s i l q p) h n=za .eql .int f (.int .u64 0) λv1=>sG v1 true (λk=>k g) λv2=>sG v1 true (λk=>za .leq .int v2 (.int .u64 9223372036854775807) k) λv3=>yO v1 v3 (.bool false) λv4=>K (jy.fr a b c d e f g j o s i l v4 p) h n:=by kernel_rfl
theorem jy.nY:IR.run jy.t4 C N O K (jy.fr a b c d e f g j o s i l q p) h n=zM 0 c λv1=>zH v1 h λv2=>za .lss .int v2 (I 0) λv3=>zM 0 d λv4=>zH v4 h λv5=>za .lss .int v5 (I 0) λv6=>za .neq .bool v3 v6 λv7=>K (jy.fr a b c d e f g j o s i l q v7) h n:=by kernel_rfl
theorem jy.dz:IR.run jy.t5 C N O K (jy.fr a b c d e f g j o s i l q p) h n=wW .i64 g λv1=>sNeg v1 λv2=>gV [(I 0),.zb] [(0,1,v2)] λv3=>yA 2 e v3 h n λv4 h5 n6=>K (jy.fr a b c d e f g j o s i l q p) h5 n6:=by kernel_rfl
theorem jy.v13:Arg.ev (.t (.of 13)) ⟨(jy.fr a b c d e f g j o s i l q p),[]⟩=p:=by kernel_rfl
theorem jy.rF:IR.run jy.t9 C N O K (jy.fr a b c d e f g j o s i l q p) h n=wW .i64 g λv1=>gV [(I 0),.zb] [(0,1,v1)] λv2=>yA 2 e v2 h n λv3 h4 n5=>K (jy.fr a b c d e f g j o s i l q p) h4 n5:=by kernel_rfl
theorem jy.v12:Arg.ev (.t (.of 12)) ⟨(jy.fr a b c d e f g j o s i l q p),[]⟩=q:=by kernel_rfl
theorem jy.v11:Arg.ev (.t (.of 11)) ⟨(jy.fr a b c d e f g j o s i l q p),[]⟩=l:=by kernel_rfl
theorem jy.go:zO tbl N C (.of 190) [a0,a1] h n K0=IR.run jy.t24 C N (fnO jy.res K0) (zf jy.res K0) (jy.fr a0 a1 .u .u .u .u .u .u .u .u .u .u .u .u) h n:=yE (F:=jy) (by kernel_rfl) (λ_=>by kernel_rfl) (by kernel_rfl)
theorem jy.ret:zf jy.res K0 (jy.fr a b c d e f g j o s i l q p) h n=zI 2 e h λv1=>K0 v1 h n:=by kernel_rfl
theorem jk.zu:IR.run jk.t0 C N O K (jk.fr a b c d e f g j o s i l q p u v w y) h n=qm a h n λv1 h2 n3=>qm b h2 n3 λv4 h5 n6=>yT [(I 0),.zb] h5 n6 λv7 h8 n9=>yT [(I 0),.zb] h8 n9 λvH hC nC=>K (jk.fr a b v1 v4 v7 vH g j o s i l q p u v w y) hC nC:=by kernel_rfl
theorem jk.zo:IR.run jk.t1 C N O K tm h n=zZ jk.sH C ⟨tm,[]⟩ h n (λtm h n=>K tm.v h n):=jJ ..
theorem jk.sJ:zZ (jk.rR r) C ⟨(jk.fr a b c d e f g j o s i l q p u v w y),[]⟩ h n Kt=zM 1 c λv1=>zH v1 h λv2=>za .eql (.nil .sl) v2 .zb λv3=>sG v3 true (λk=>zM 1 d k) λv4=>sG v3 true (λk=>zH v4 h k) λv5=>sG v3 true (λk=>za .eql (.nil .sl) v5 .zb k) λv6=>yO v3 v6 (.bool false) λv7=>zZ r C ⟨(jk.fr a b c d e f g j o s i l q p u v w y),v7::v6::v5::v4::v3::v3::v2::v1::[]⟩ h n Kt:=by kernel_rfl
theorem jk.rM:zZ (jk.rT []) C ⟨(jk.fr a b c d e f g j o s i l q p u v w y),s0::sT⟩ h n Kt=sG s0 true (λk=>zM 0 c k) λv1=>sG s0 true (λk=>zH v1 h k) λv2=>sG s0 true (λk=>za .neq .int v2 (I (-9223372036854775808)) k) λv3=>yO s0 v3 (.bool false) λv4=>Kt ⟨(jk.fr a b c d e f g j o s i l q p u v4 w y),v3::v2::v1::s0::s0::sT⟩ h n:=by kernel_rfl
theorem jk.yt:IR.run jk.t2 C N O K (jk.fr a b c d e f g j o s i l q p u v w y) h n=zM 0 c λv1=>zH v1 h λv2=>zM 0 d λv3=>zH v3 h λv4=>za .quo .int v2 v4 λv5=>zM 0 c λv6=>zH v6 h λv7=>zM 0 d λv8=>zH v8 h λv9=>za .rem .int v7 v9 λvH=>K (jk.fr a b c d e f v5 vH o s i l q p u v w y) h n:=by kernel_rfl
theorem jk.vk:IR.run jk.t3 C N O K (jk.fr a b c d e f g j o s i l q p u v w y) h n=za .lss .int j (I 0) λv1=>K (jk.fr a b c d e f g j o s i l q p u v v1 y) h n:=by kernel_rfl
theorem jk.nY:IR.run jk.t4 C N O K (jk.fr a b c d e f g j o s i l q p u v w y) h n=za .sub .int g (I 1) λv1=>zM 0 d λv2=>zH v2 h λv3=>za .add .int j v3 λv4=>K (jk.fr a b c d e f v1 v4 o s i l q p u v w y) h n:=by kernel_rfl
theorem jk.v16:Arg.ev (.t (.of 16)) ⟨(jk.fr a b c d e f g j o s i l q p u v w y),[]⟩=w:=by kernel_rfl
theorem jk.ng:IR.run jk.t7 C N O K (jk.fr a b c d e f g j o s i l q p u v w y) h n=gV [(I 0),.zb] [(0,1,g)] λv1=>gV [(I 0),.zb] [(0,1,j)] λv2=>yA 2 e v1 h n λv3 h4 n5=>yA 2 f v2 h4 n5 λv6 h7 n8=>K (jk.fr a b c d e f g j o s i l q p u v w y) h7 n8:=by kernel_rfl
theorem jk.v15:Arg.ev (.t (.of 15)) ⟨(jk.fr a b c d e f g j o s i l q p u v w y),[]⟩=v:=by kernel_rfl
theorem jk.go:zO tbl N C (.of 244) [a0,a1] h n K0=IR.run jk.t29 C N (fnO jk.res K0) (zf jk.res K0) (jk.fr a0 a1 .u .u .u .u .u .u .u .u .u .u .u .u .u .u .u .u) h n:=yE (F:=jk) (by kernel_rfl) (λ_=>by kernel_rfl) (by kernel_rfl)
theorem jk.ret:zf jk.res K0 (jk.fr a b c d e f g j o s i l q p u v w y) h n=zI 2 e h λv1=>zI 2 f h λv2=>K0 (.tup [v1,v2]) h n:=by kernel_rfl
theorem qa.zu:IR.run qa.t0 C N O K (qa.fr a b c d e f g) h n=qm a h n λv1 h2 n3=>qm b h2 n3 λv4 h5 n6=>yT [(I 0),.zb] h5 n6 λv7 h8 n9=>K (qa.fr a b v1 v4 v7 f g) h8 n9:=by kernel_rfl
theorem qa.zo:IR.run qa.t1 C N O K (qa.fr a b c d e f g) h n=zI 2 d h λv1=>C.fn 132 (.of 132) [v1] h n λv2 h3 n4=>za .lss .int v2 (I 0) λv5=>K (qa.fr a b c d e f v5) h3 n4:=by kernel_rfl
theorem qa.yt:IR.run qa.t2 C N O K (qa.fr a b c d e f g) h n=zI 2 c h λv1=>zI 2 d h λv2=>C.fn 135 (.of 135) [v1] h n λv3 h4 n5=>(zI 2 d h4 λvD=>zX vD v2 (C.fn 135 (.of 135) [v2] h4 n5 λv6 h7 n8=>yA 2 c v3 h7 n8 λv9 hA nA=>yA 2 d v6 hA nA λvA hO nP=>K (qa.fr a b c d e f g) hO nP)):=by kernel_rfl
theorem qa.v6:Arg.ev (.t (.of 6)) ⟨(qa.fr a b c d e f g),[]⟩=g:=by kernel_rfl
theorem qa.dz:IR.run qa.t5 C N O K (qa.fr a b c d e f g) h n=zI 2 c h λv1=>zI 2 d h λv2=>C.fn 244 (.of 244) [v1,v2] h n λv3 h4 n5=>di 0 v3 λv6=>di 1 v3 λv7=>yT [(I 0),.zb] h4 n5 λv8 h9 nH=>yT [(I 0),.zb] h9 nH λvI hH nI=>yA 2 v8 v6 hH nI λvC hB nB=>yA 2 vI v7 hB nB λvF hN nO=>K (qa.fr a b c d e v8 g) hN nO:=by kernel_rfl
theorem qa.uj:IR.run qa.t6 C N O K (qa.fr a b c d e f g) h n=zI 2 f h λv1=>yA 2 e v1 h n λv2 h3 n4=>K (qa.fr a b c d e f g) h3 n4:=by kernel_rfl
theorem qa.go:zO tbl N C (.of 192) [a0,a1] h n K0=IR.run qa.t10 C N (fnO qa.res K0) (zf qa.res K0) (qa.fr a0 a1 .u .u .u .u .u) h n:=yE (F:=qa) (by kernel_rfl) (λ_=>by kernel_rfl) (by kernel_rfl)
theorem qa.ret:zf qa.res K0 (qa.fr a b c d e f g) h n=zI 2 e h λv1=>K0 v1 h n:=by kernel_rfl
theorem uy.zu:IR.run uy.t0 C N O K (uy.fr a b c d e f g j o s i l q p u v w y z A B D E G H L M P Q) h n=K (uy.fr a b .zb .zb e f g j o s i l q p u v w y z A B D E G H L M P Q) h n:=by kernel_rfl
theorem uy.zo:IR.run uy.t1 C N O K (uy.fr a b c d e f g j o s i l q p u v w y z A B D E G H L M P Q) h n=C.fn 197 (.of 197) [a,b] h n λv1 h2 n3=>za .lss .int v1 (I 0) λv4=>K (uy.fr a b c d e f g j o s i l q p u v w y z A B v4 E G H L M P Q) h2 n3:=by kernel_rfl
theorem uy.yt:IR.run uy.t2 C N O K (uy.fr a b c d e f g j o s i l q p u v w y z A B D E G H L M P Q) h n=K (uy.fr a b .zb a e f g j o s i l q p u v w y z A B D E G H L M P Q) h n:=by kernel_rfl
theorem uy.v21:Arg.ev (.t (.of 21)) ⟨(uy.fr a b c d e f g j o s i l q p u v w y z A B D E G H L M P Q),[]⟩=D:=by kernel_rfl
theorem uy.uj:IR.run uy.t6 C N O K (uy.fr a b c d e f g j o s i l q p u v w y z A B D E G H L M P Q) h n=sLen b λv1=>za .eql .int v1 (I 1) λv2=>K (uy.fr a b c d e f g j o s i l q p u v w y z A B D v2 G H L M P Q) h n:=by kernel_rfl
theorem uy.ng:IR.run uy.t7 C N O K (uy.fr a b c d e f g j o s i l q p u v w y z A B D E G H L M P Q) h n=zN 1 b (I 0) λv1=>zH v1 h λv2=>C.fn 198 (.of 198) [a,v2] h n λv3 h4 n5=>di 0 v3 λv6=>di 1 v3 λv7=>K (uy.fr a b c d v6 v7 g j o s i l q p u v w y z A B D E G H L M P Q) h4 n5:=by kernel_rfl
theorem uy.rE:IR.run uy.t8 C N O K (uy.fr a b c d e f g j o s i l q p u v w y z A B D E G H L M P Q) h n=y3 1 1 [(I 0)] [(0,1,f)] h n λv1 h2 n3=>C.fn 199 (.of 199) [v1] h2 n3 λv4 h5 n6=>K (uy.fr a b e v4 e f g j o s i l q p u v w y z A B D E G H L M P Q) h5 n6:=by kernel_rfl
theorem uy.v22:Arg.ev (.t (.of 22)) ⟨(uy.fr a b c d e f g j o s i l q p u v w y z A B D E G H L M P Q),[]⟩=E:=by kernel_rfl
theorem uy.go:zO tbl N C (.of 139) [a0,a1] h n K0=IR.run uy.t109 C N (fnO uy.res K0) (zf uy.res K0) (uy.fr a0 a1 .u .u .u .u .u .u .u .u .u .u .u .u .u .u .u .u .u .u .u .u .u .u .u .u .u .u .u) h n:=yE (F:=uy) (by kernel_rfl) (λ_=>by kernel_rfl) (by kernel_rfl)
theorem uy.ret:zf uy.res K0 (uy.fr a b c d e f g j o s i l q p u v w y z A B D E G H L M P Q) h n=K0 (.tup [c,d]) h n:=by kernel_rfl
theorem nS.zu:IR.run nS.t0 C N O K (nS.fr a b c) h n=qm a h n λv1 h2 n3=>yT [(.bool false),.zb] h2 n3 λv4 h5 n6=>K (nS.fr a v1 v4) h5 n6:=by kernel_rfl
theorem nS.zo:IR.run nS.t1 C N O K (nS.fr a b c) h n=zM 0 b λv1=>zH v1 h λv2=>sNot v2 λv3=>zM 1 b λv4=>zH v4 h λv5=>C.fn 196 (.of 196) [v3,v5] h n λv6 h7 n8=>yA 2 c v6 h7 n8 λv9 hA nA=>K (nS.fr a b c) hA nA:=by kernel_rfl
theorem nS.go:zO tbl N C (.of 202) [a0] h n K0=IR.run nS.t3 C N (fnO nS.res K0) (zf nS.res K0) (nS.fr a0 .u .u) h n:=yE (F:=nS) (by kernel_rfl) (λ_=>by kernel_rfl) (by kernel_rfl)
theorem nS.ret:zf nS.res K0 (nS.fr a b c) h n=zI 2 c h λv1=>K0 v1 h n:=by kernel_rfl
theorem F84.zu:IR.run F84.t0 C N O K (F84.fr a b c d e) h n=K (F84.fr a b .zb d e) h n:=by kernel_rfl
theorem F84.zo:IR.run F84.t1 C N O K (F84.fr a b c d e) h n=sLen b λv1=>za .gtr .int v1 (I 0) λv2=>K (F84.fr a b c d v2) h n:=by kernel_rfl
theorem F84.v4:Arg.ev (.t (.of 4)) ⟨(F84.fr a b c d e),[]⟩=e:=by kernel_rfl
theorem F84.nY:IR.run F84.t4 C N O K (F84.fr a b c d e) h n=C.fn 139 (.of 139) [a,b] h n λv1 h2 n3=>di 0 v1 λv4=>di 1 v1 λv5=>K (F84.fr a b c v5 e) h2 n3:=by kernel_rfl
theorem F84.dz:IR.run F84.t5 C N O K (F84.fr a b c d e) h n=K (F84.fr b d c d e) h n:=by kernel_rfl
theorem F84.t9_L (Inv:Nat->AV->AV->T Blk->Pa->Prop) {m:Nat} (hm:m<N) (hi:Inv m a b h n)
  (step:∀ (m:Nat) (z0 z1 z3 z4:AV) (h:T Blk) (n:Pa) (R:Ks Prop),Inv m z0 z1 h n->(∀ (m':Nat) (w0 w1 w3 w4:AV) (h':T Blk) (n':Pa),m'<m->Inv m' w0 w1 h' n'->R (F84.fr w0 w1 c w3 w4) h' n'=.ok True)->IR.run F84.t8 C N O R (F84.fr z0 z1 c z3 z4) h n=.ok True) :
  IR.run F84.t9 C N O K (F84.fr a b c d e) h n=.ok True:=by
 rw [F84.t9];refine yB (λm tm h n=>∃ z0 z1 z3 z4,tm=(F84.fr z0 z1 c z3 z4)/\Inv m z0 z1 h n) ?_ hm ⟨_,_,_,_,rfl,hi⟩;rintro m _ h n R ⟨_,_,_,_,rfl,q⟩ p;exact step m _ _ _ _ h n R q λ_ _ _ _ _ _ _ x y=>p _ _ _ _ x ⟨_,_,_,_,rfl,y⟩
theorem F84.qz:IR.run F84.t11 C N O K (F84.fr a b c d e) h n=K (F84.fr a b a d e) h n:=by kernel_rfl
theorem F84.go:zO tbl N C (.of 84) [a0,a1] h n K0=IR.run F84.t14 C N (fnO F84.res K0) (zf F84.res K0) (F84.fr a0 a1 .u .u .u) h n:=yE (F:=F84) (by kernel_rfl) (λ_=>by kernel_rfl) (by kernel_rfl)
theorem F84.ret:zf F84.res K0 (F84.fr a b c d e) h n=K0 c h n:=by kernel_rfl
theorem kz.zu:IR.run kz.t0 C N O K (kz.fr a b c d) h n=K (kz.fr a b (I 0) d) h n:=by kernel_rfl
theorem kz.zo:IR.run kz.t1 C N O K (kz.fr a b c d) h n=za .gtr .int b (I 0) λv1=>K (kz.fr a b c v1) h n:=by kernel_rfl
theorem kz.v3:Arg.ev (.t (.of 3)) ⟨(kz.fr a b c d),[]⟩=d:=by kernel_rfl
theorem kz.nY:IR.run kz.t4 C N O K (kz.fr a b c d) h n=za .rem .int a b λv1=>K (kz.fr b v1 c d) h n:=by kernel_rfl
theorem kz.t7_L (Inv:Nat->AV->AV->T Blk->Pa->Prop) {m:Nat} (hm:m<N) (hi:Inv m a b h n)
  (step:∀ (m:Nat) (z0 z1 z3:AV) (h:T Blk) (n:Pa) (R:Ks Prop),Inv m z0 z1 h n->(∀ (m':Nat) (w0 w1 w3:AV) (h':T Blk) (n':Pa),m'<m->Inv m' w0 w1 h' n'->R (kz.fr w0 w1 c w3) h' n'=.ok True)->IR.run kz.t6 C N O R (kz.fr z0 z1 c z3) h n=.ok True) :
  IR.run kz.t7 C N O K (kz.fr a b c d) h n=.ok True:=by
 rw [kz.t7];refine yB (λm tm h n=>∃ z0 z1 z3,tm=(kz.fr z0 z1 c z3)/\Inv m z0 z1 h n) ?_ hm ⟨_,_,_,rfl,hi⟩;rintro m _ h n R ⟨_,_,_,rfl,q⟩ p;exact step m _ _ _ h n R q λ_ _ _ _ _ _ x y=>p _ _ _ _ x ⟨_,_,_,rfl,y⟩
theorem kz.rF:IR.run kz.t9 C N O K (kz.fr a b c d) h n=K (kz.fr a b a d) h n:=by kernel_rfl
theorem kz.go:zO tbl N C (.of 204) [a0,a1] h n K0=IR.run kz.t12 C N (fnO kz.res K0) (zf kz.res K0) (kz.fr a0 a1 .u .u) h n:=yE (F:=kz) (by kernel_rfl) (λ_=>by kernel_rfl) (by kernel_rfl)
theorem kz.ret:zf kz.res K0 (kz.fr a b c d) h n=K0 c h n:=by kernel_rfl
theorem yj.zu:IR.run yj.t0 C N O K (yj.fr a b c d e f g) h n=yT [(.bool false),.zb] h n λv1 h2 n3=>K (yj.fr a v1 c d e f g) h2 n3:=by kernel_rfl
theorem yj.zo:IR.run yj.t1 C N O K (yj.fr a b c d e f g) h n=K (yj.fr a b .zb d e f g) h n:=by kernel_rfl
theorem yj.yt:IR.run yj.t2 C N O K (yj.fr a b c d e f g) h n=za .lss .int a (I 0) λv1=>K (yj.fr a b c v1 e f g) h n:=by kernel_rfl
theorem yj.vk:IR.run yj.t3 C N O K (yj.fr a b c d e f g) h n=za .neq .int a (I 0) λv1=>K (yj.fr a b c d e v1 g) h n:=by kernel_rfl
theorem yj.v5:Arg.ev (.t (.of 5)) ⟨(yj.fr a b c d e f g),[]⟩=f:=by kernel_rfl
theorem yj.uj:IR.run yj.t6 C N O K (yj.fr a b c d e f g) h n=za .rem .int a (I 1000000000) λv1=>K (yj.fr a b c d v1 f g) h n:=by kernel_rfl
theorem yj.ng:IR.run yj.t7 C N O K (yj.fr a b c d e f g) h n=za .lss .int e (I 0) λv1=>K (yj.fr a b c d e f v1) h n:=by kernel_rfl
theorem yj.rE:IR.run yj.t8 C N O K (yj.fr a b c d e f g) h n=za .sub .int (I 0) e λv1=>K (yj.fr a b c d v1 f g) h n:=by kernel_rfl
theorem yj.v6:Arg.ev (.t (.of 6)) ⟨(yj.fr a b c d e f g),[]⟩=g:=by kernel_rfl
theorem yj.qz:IR.run yj.t11 C N O K (yj.fr a b c d e f g) h n=y3 1 1 [(I 0)] [(0,1,e)] h n λv1 h2 n3=>tJ 1 8 c v1 h2 n3 λv4 h5 n6=>K (yj.fr a b v4 d e f g) h5 n6:=by kernel_rfl
theorem yj.nZ:IR.run yj.t12 C N O K (yj.fr a b c d e f g) h n=za .quo .int a (I 1000000000) λv1=>K (yj.fr v1 b c d e f g) h n:=by kernel_rfl
theorem yj.zos (Inv:Nat->AV->AV->T Blk->Pa->Prop) {m:Nat} (hm:m<N) (hi:Inv m a c h n)
  (step:∀ (m:Nat) (z0 z2 z4 z5 z6:AV) (h:T Blk) (n:Pa) (R:Ks Prop),Inv m z0 z2 h n->(∀ (m':Nat) (w0 w2 w4 w5 w6:AV) (h':T Blk) (n':Pa),m'<m->Inv m' w0 w2 h' n'->R (yj.fr w0 b w2 d w4 w5 w6) h' n'=.ok True)->IR.run yj.t17 C N O R (yj.fr z0 b z2 d z4 z5 z6) h n=.ok True) :
  IR.run yj.t18 C N O K (yj.fr a b c d e f g) h n=.ok True:=by
 rw [yj.t18];refine yB (λm tm h n=>∃ z0 z2 z4 z5 z6,tm=(yj.fr z0 b z2 d z4 z5 z6)/\Inv m z0 z2 h n) ?_ hm ⟨_,_,_,_,_,rfl,hi⟩;rintro m _ h n R ⟨_,_,_,_,_,rfl,q⟩ p;exact step m _ _ _ _ _ h n R q λ_ _ _ _ _ _ _ _ x y=>p _ _ _ _ x ⟨_,_,_,_,_,rfl,y⟩
theorem yj.aI:IR.run yj.t20 C N O K (yj.fr a b c d e f g) h n=C.fn 196 (.of 196) [d,c] h n λv1 h2 n3=>yA 2 b v1 h2 n3 λv4 h5 n6=>K (yj.fr a b c d e f g) h5 n6:=by kernel_rfl
theorem yj.go:zO tbl N C (.of 138) [a0] h n K0=IR.run yj.t25 C N (fnO yj.res K0) (zf yj.res K0) (yj.fr a0 .u .u .u .u .u .u) h n:=yE (F:=yj) (by kernel_rfl) (λ_=>by kernel_rfl) (by kernel_rfl)
theorem yj.ret:zf yj.res K0 (yj.fr a b c d e f g) h n=zI 2 b h λv1=>K0 v1 h n:=by kernel_rfl
theorem yx.zu:IR.run yx.t0 C N O K (yx.fr a b c d e) h n=K (yx.fr a b (.str []) d e) h n:=by kernel_rfl
theorem yx.zo:IR.run yx.t1 C N O K (yx.fr a b c d e) h n=K (yx.fr a b c (.str []) e) h n:=by kernel_rfl
theorem yx.yt:IR.run yx.t2 C N O K tm h n=zZ yx.r2_0 C ⟨tm,[]⟩ h n (λtm h n=>K tm.v h n):=jJ ..
theorem yx.zx9:zZ (yx.zwo []) C ⟨(yx.fr a b c d e),[]⟩ h n Kt=za .gtr .int a (I 0) λv1=>sG v1 false (λk=>k d) λv2=>sG v1 false (λk=>uO v2 k) λv3=>sG v1 false (λk=>k b) λv4=>sG v1 false (λk=>za .lss .int v3 v4 k) λv5=>yO v1 (.bool true) v5 λv6=>Kt ⟨(yx.fr a b c d v6),v5::v4::v3::v2::v1::v1::a::[]⟩ h n:=by kernel_rfl
theorem yx.v4:Arg.ev (.t (.of 4)) ⟨(yx.fr a b c d e),[]⟩=e:=by kernel_rfl
theorem yx.dz:IR.run yx.t5 C N O K (yx.fr a b c d e) h n=za .rem .int a (I 10) λv1=>za .rem .int a (I 10) λv2=>za .add .int v2 (I 1) λv3=>j4 (.str [48,49,50,51,52,53,54,55,56,57]) (some v1) (some v3) λv4=>za .add .str v4 d λv5=>K (yx.fr a b c v5 e) h n:=by kernel_rfl
theorem yx.uj:IR.run yx.t6 C N O K (yx.fr a b c d e) h n=za .quo .int a (I 10) λv1=>K (yx.fr v1 b c d e) h n:=by kernel_rfl
theorem yx.zot (Inv:Nat->AV->AV->T Blk->Pa->Prop) {m:Nat} (hm:m<N) (hi:Inv m a d h n)
  (step:∀ (m:Nat) (z0 z3 z4:AV) (h:T Blk) (n:Pa) (R:Ks Prop),Inv m z0 z3 h n->(∀ (m':Nat) (w0 w3 w4:AV) (h':T Blk) (n':Pa),m'<m->Inv m' w0 w3 h' n'->R (yx.fr w0 b c w3 w4) h' n'=.ok True)->IR.run yx.t9 C N O R (yx.fr z0 b c z3 z4) h n=.ok True) :
  IR.run yx.t10 C N O K (yx.fr a b c d e) h n=.ok True:=by
 rw [yx.t10];refine yB (λm tm h n=>∃ z0 z3 z4,tm=(yx.fr z0 b c z3 z4)/\Inv m z0 z3 h n) ?_ hm ⟨_,_,_,rfl,hi⟩;rintro m _ h n R ⟨_,_,_,rfl,q⟩ p;exact step m _ _ _ h n R q λ_ _ _ _ _ _ x y=>p _ _ _ _ x ⟨_,_,_,rfl,y⟩
theorem yx.nZ:IR.run yx.t12 C N O K (yx.fr a b c d e) h n=K (yx.fr a b d d e) h n:=by kernel_rfl
theorem yx.go:zO tbl N C (.of 205) [a0,a1] h n K0=IR.run yx.t16 C N (fnO yx.res K0) (zf yx.res K0) (yx.fr a0 a1 .u .u .u) h n:=yE (F:=yx) (by kernel_rfl) (λ_=>by kernel_rfl) (by kernel_rfl)
theorem yx.ret:zf yx.res K0 (yx.fr a b c d e) h n=K0 c h n:=by kernel_rfl
theorem yo.zu:IR.run yo.t0 C N O K (yo.fr a b c d e f g j) h n=qm a h n λv1 h2 n3=>K (yo.fr a v1 (.str []) d e f g j) h2 n3:=by kernel_rfl
theorem yo.zo:IR.run yo.t1 C N O K (yo.fr a b c d e f g j) h n=zM 1 b λv1=>zH v1 h λv2=>sLen v2 λv3=>za .eql .int v3 (I 0) λv4=>K (yo.fr a b c d e v4 g j) h n:=by kernel_rfl
theorem yo.yt:IR.run yo.t2 C N O K (yo.fr a b c d e f g j) h n=K (yo.fr a b (.str [48]) d e f g j) h n:=by kernel_rfl
theorem yo.v5:Arg.ev (.t (.of 5)) ⟨(yo.fr a b c d e f g j),[]⟩=f:=by kernel_rfl
theorem yo.uj:IR.run yo.t6 C N O K (yo.fr a b c d e f g j) h n=zM 1 b λv1=>zH v1 h λv2=>zM 1 b λv3=>zH v3 h λv4=>sLen v4 λv5=>za .sub .int v5 (I 1) λv6=>zN 1 v2 v6 λv7=>zH v7 h λv8=>C.fn 205 (.of 205) [v8,(I 1)] h n λv9 hA nA=>K (yo.fr a b c v9 e f g j) hA nA:=by kernel_rfl
theorem yo.ng:IR.run yo.t7 C N O K (yo.fr a b c d e f g j) h n=zM 1 b λv1=>zH v1 h λv2=>sLen v2 λv3=>za .sub .int v3 (I 2) λv4=>K (yo.fr a b c d v4 f g j) h n:=by kernel_rfl
theorem yo.rE:IR.run yo.t8 C N O K (yo.fr a b c d e f g j) h n=za .geq .int e (I 0) λv1=>K (yo.fr a b c d e f v1 j) h n:=by kernel_rfl
theorem yo.v6:Arg.ev (.t (.of 6)) ⟨(yo.fr a b c d e f g j),[]⟩=g:=by kernel_rfl
theorem yo.qz:IR.run yo.t11 C N O K (yo.fr a b c d e f g j) h n=zM 1 b λv1=>zH v1 h λv2=>zN 1 v2 e λv3=>zH v3 h λv4=>C.fn 205 (.of 205) [v4,(I 9)] h n λv5 h6 n7=>za .add .str d v5 λv8=>K (yo.fr a b c v8 e f g j) h6 n7:=by kernel_rfl
theorem yo.rX:IR.run yo.t13 C N O K (yo.fr a b c d e f g j) h n=za .sub .int e (I 1) λv1=>K (yo.fr a b c d v1 f g j) h n:=by kernel_rfl
theorem yo.eT (Inv:Nat->AV->AV->T Blk->Pa->Prop) {m:Nat} (hm:m<N) (hi:Inv m d e h n)
  (step:∀ (m:Nat) (z3 z4 z6:AV) (h:T Blk) (n:Pa) (R:Ks Prop),Inv m z3 z4 h n->(∀ (m':Nat) (w3 w4 w6:AV) (h':T Blk) (n':Pa),m'<m->Inv m' w3 w4 h' n'->R (yo.fr a b c w3 w4 f w6 j) h' n'=.ok True)->IR.run yo.t15 C N O R (yo.fr a b c z3 z4 f z6 j) h n=.ok True) :
  IR.run yo.t16 C N O K (yo.fr a b c d e f g j) h n=.ok True:=by
 rw [yo.t16];refine yB (λm tm h n=>∃ z3 z4 z6,tm=(yo.fr a b c z3 z4 f z6 j)/\Inv m z3 z4 h n) ?_ hm ⟨_,_,_,rfl,hi⟩;rintro m _ h n R ⟨_,_,_,rfl,q⟩ p;exact step m _ _ _ h n R q λ_ _ _ _ _ _ x y=>p _ _ _ _ x ⟨_,_,_,rfl,y⟩
theorem yo.rY:IR.run yo.t19 C N O K (yo.fr a b c d e f g j) h n=zM 0 b λv1=>zH v1 h λv2=>K (yo.fr a b c d e f g v2) h n:=by kernel_rfl
theorem yo.aI:IR.run yo.t20 C N O K (yo.fr a b c d e f g j) h n=za .add .str (.str [45]) d λv1=>K (yo.fr a b v1 d e f g j) h n:=by kernel_rfl
theorem yo.v7:Arg.ev (.t (.of 7)) ⟨(yo.fr a b c d e f g j),[]⟩=j:=by kernel_rfl
theorem yo.zad:IR.run yo.t24 C N O K (yo.fr a b c d e f g j) h n=K (yo.fr a b d d e f g j) h n:=by kernel_rfl
theorem yo.go:zO tbl N C (.of 203) [a0] h n K0=IR.run yo.t30 C N (fnO yo.res K0) (zf yo.res K0) (yo.fr a0 .u .u .u .u .u .u .u) h n:=yE (F:=yo) (by kernel_rfl) (λ_=>by kernel_rfl) (by kernel_rfl)
theorem yo.ret:zf yo.res K0 (yo.fr a b c d e f g j) h n=K0 c h n:=by kernel_rfl
theorem jq.zu:IR.run jq.t0 C N O K (jq.fr a b c d e) h n=K (jq.fr a (I 0) c d e) h n:=by kernel_rfl
theorem jq.zo:IR.run jq.t1 C N O K (jq.fr a b c d e) h n=K (jq.fr a b (I 0) d e) h n:=by kernel_rfl
theorem jq.yt:IR.run jq.t2 C N O K (jq.fr a b c d e) h n=K (jq.fr a b c (I 0) e) h n:=by kernel_rfl
theorem jq.vk:IR.run jq.t3 C N O K (jq.fr a b c d e) h n=uO a λv1=>za .lss .int d v1 λv2=>K (jq.fr a b c d v2) h n:=by kernel_rfl
theorem jq.v4:Arg.ev (.t (.of 4)) ⟨(jq.fr a b c d e),[]⟩=e:=by kernel_rfl
theorem jq.uj:IR.run jq.t6 C N O K (jq.fr a b c d e) h n=za .mul .int (I 10) c λv1=>wU a d λv2=>wW .i64 v2 λv3=>za .add .int v1 v3 λv4=>za .sub .int v4 (I 48) λv5=>K (jq.fr a b v5 d e) h n:=by kernel_rfl
theorem jq.rE:IR.run jq.t8 C N O K (jq.fr a b c d e) h n=za .add .int d (I 1) λv1=>K (jq.fr a b c v1 e) h n:=by kernel_rfl
theorem jq.zou (Inv:Nat->AV->AV->T Blk->Pa->Prop) {m:Nat} (hm:m<N) (hi:Inv m c d h n)
  (step:∀ (m:Nat) (z2 z3 z4:AV) (h:T Blk) (n:Pa) (R:Ks Prop),Inv m z2 z3 h n->(∀ (m':Nat) (w2 w3 w4:AV) (h':T Blk) (n':Pa),m'<m->Inv m' w2 w3 h' n'->R (jq.fr a b w2 w3 w4) h' n'=.ok True)->IR.run jq.t10 C N O R (jq.fr a b z2 z3 z4) h n=.ok True) :
  IR.run jq.t11 C N O K (jq.fr a b c d e) h n=.ok True:=by
 rw [jq.t11];refine yB (λm tm h n=>∃ z2 z3 z4,tm=(jq.fr a b z2 z3 z4)/\Inv m z2 z3 h n) ?_ hm ⟨_,_,_,rfl,hi⟩;rintro m _ h n R ⟨_,_,_,rfl,q⟩ p;exact step m _ _ _ h n R q λ_ _ _ _ _ _ x y=>p _ _ _ _ x ⟨_,_,_,rfl,y⟩
theorem jq.tF:IR.run jq.t14 C N O K (jq.fr a b c d e) h n=K (jq.fr a c c d e) h n:=by kernel_rfl
theorem jq.go:zO tbl N C (.of 195) [a0] h n K0=IR.run jq.t18 C N (fnO jq.res K0) (zf jq.res K0) (jq.fr a0 .u .u .u .u) h n:=yE (F:=jq) (by kernel_rfl) (λ_=>by kernel_rfl) (by kernel_rfl)
theorem jq.ret:zf jq.res K0 (jq.fr a b c d e) h n=K0 b h n:=by kernel_rfl
theorem yw.zu:IR.run yw.t0 C N O K (yw.fr a b c d e f) h n=yT [(.bool false),.zb] h n λv1 h2 n3=>K (yw.fr a v1 c d e f) h2 n3:=by kernel_rfl
theorem yw.zo:IR.run yw.t1 C N O K (yw.fr a b c d e f) h n=uO a λv1=>za .gtr .int v1 (I 0) λv2=>sG v2 true (λk=>k a) λv3=>sG v2 true (λk=>wU v3 (I 0) k) λv4=>sG v2 true (λk=>za .eql .int v4 (.int .u8 45) k) λv5=>yO v2 v5 (.bool false) λv6=>K (yw.fr a b v6 d e f) h n:=by kernel_rfl
theorem yw.yt:IR.run yw.t2 C N O K (yw.fr a b c d e f) h n=K (yw.fr a b c d c f) h n:=by kernel_rfl
theorem yw.vk:IR.run yw.t3 C N O K (yw.fr a b c d e f) h n=j4 a (some (I 1)) none λv1=>K (yw.fr v1 b c d e f) h n:=by kernel_rfl
theorem yw.v4:Arg.ev (.t (.of 4)) ⟨(yw.fr a b c d e f),[]⟩=e:=by kernel_rfl
theorem yw.uj:IR.run yw.t6 C N O K (yw.fr a b c d e f) h n=K (yw.fr a b c .zb e f) h n:=by kernel_rfl
theorem yw.ng:IR.run yw.t7 C N O K (yw.fr a b c d e f) h n=uO a λv1=>za .gtr .int v1 (I 9) λv2=>K (yw.fr a b c d e v2) h n:=by kernel_rfl
theorem yw.v5:Arg.ev (.t (.of 5)) ⟨(yw.fr a b c d e f),[]⟩=f:=by kernel_rfl
theorem yw.rC:IR.run yw.t10 C N O K (yw.fr a b c d e f) h n=uO a λv1=>za .sub .int v1 (I 9) λv2=>j4 a (some v2) none λv3=>C.fn 195 (.of 195) [v3] h n λv4 h5 n6=>y3 1 1 [(I 0)] [(0,1,v4)] h5 n6 λv7 h8 n9=>tJ 1 8 d v7 h8 n9 λvH hC nC=>K (yw.fr a b c vH e f) hC nC:=by kernel_rfl
theorem yw.qz:IR.run yw.t11 C N O K (yw.fr a b c d e f) h n=uO a λv1=>za .sub .int v1 (I 9) λv2=>j4 a none (some v2) λv3=>K (yw.fr v3 b c d e f) h n:=by kernel_rfl
theorem yw.zgg (Inv:Nat->AV->AV->T Blk->Pa->Prop) {m:Nat} (hm:m<N) (hi:Inv m a d h n)
  (step:∀ (m:Nat) (z0 z3 z5:AV) (h:T Blk) (n:Pa) (R:Ks Prop),Inv m z0 z3 h n->(∀ (m':Nat) (w0 w3 w5:AV) (h':T Blk) (n':Pa),m'<m->Inv m' w0 w3 h' n'->R (yw.fr w0 b c w3 e w5) h' n'=.ok True)->IR.run yw.t14 C N O R (yw.fr z0 b c z3 e z5) h n=.ok True) :
  IR.run yw.t15 C N O K (yw.fr a b c d e f) h n=.ok True:=by
 rw [yw.t15];refine yB (λm tm h n=>∃ z0 z3 z5,tm=(yw.fr z0 b c z3 e z5)/\Inv m z0 z3 h n) ?_ hm ⟨_,_,_,rfl,hi⟩;rintro m _ h n R ⟨_,_,_,rfl,q⟩ p;exact step m _ _ _ h n R q λ_ _ _ _ _ _ x y=>p _ _ _ _ x ⟨_,_,_,rfl,y⟩
theorem yw.rG:IR.run yw.t17 C N O K (yw.fr a b c d e f) h n=C.fn 195 (.of 195) [a] h n λv1 h2 n3=>y3 1 1 [(I 0)] [(0,1,v1)] h2 n3 λv4 h5 n6=>tJ 1 8 d v4 h5 n6 λv7 h8 n9=>C.fn 196 (.of 196) [c,v7] h8 n9 λvH hC nC=>yA 2 b vH hC nC λvB hD nD=>K (yw.fr a b c d e f) hD nD:=by kernel_rfl
theorem yw.go:zO tbl N C (.of 137) [a0] h n K0=IR.run yw.t23 C N (fnO yw.res K0) (zf yw.res K0) (yw.fr a0 .u .u .u .u .u) h n:=yE (F:=yw) (by kernel_rfl) (λ_=>by kernel_rfl) (by kernel_rfl)
theorem yw.ret:zf yw.res K0 (yw.fr a b c d e f) h n=zI 2 b h λv1=>K0 v1 h n:=by kernel_rfl
theorem F81.zu:IR.run F81.t0 C N O K (F81.fr a b c d e) h n=K (F81.fr a (I 0) c d e) h n:=by kernel_rfl
theorem F81.zo:IR.run F81.t1 C N O K (F81.fr a b c d e) h n=K (F81.fr a b (I 0) d e) h n:=by kernel_rfl
theorem F81.yt:IR.run F81.t2 C N O K (F81.fr a b c d e) h n=uO a λv1=>za .lss .int c v1 λv2=>K (F81.fr a b c v2 e) h n:=by kernel_rfl
theorem F81.v3:Arg.ev (.t (.of 3)) ⟨(F81.fr a b c d e),[]⟩=d:=by kernel_rfl
theorem F81.dz:IR.run F81.t5 C N O K (F81.fr a b c d e) h n=wU a c λv1=>za .eql .int v1 (.int .u8 47) λv2=>K (F81.fr a b c d v2) h n:=by kernel_rfl
theorem F81.uj:IR.run F81.t6 C N O K (F81.fr a b c d e) h n=K (F81.fr a c c d e) h n:=by kernel_rfl
theorem F81.v4:Arg.ev (.t (.of 4)) ⟨(F81.fr a b c d e),[]⟩=e:=by kernel_rfl
theorem F81.qz:IR.run F81.t11 C N O K (F81.fr a b c d e) h n=za .add .int c (I 1) λv1=>K (F81.fr a b v1 d e) h n:=by kernel_rfl
theorem F81.zae (Inv:Nat->AV->T Blk->Pa->Prop) {m:Nat} (hm:m<N) (hi:Inv m c h n)
  (step:∀ (m:Nat) (z1 z2 z3 z4:AV) (h:T Blk) (n:Pa) (R:Ks Prop),Inv m z2 h n->(∀ (m':Nat) (w1 w2 w3 w4:AV) (h':T Blk) (n':Pa),m'<m->Inv m' w2 h' n'->R (F81.fr a w1 w2 w3 w4) h' n'=.ok True)->IR.run F81.t13 C N O R (F81.fr a z1 z2 z3 z4) h n=.ok True) :
  IR.run F81.t14 C N O K (F81.fr a b c d e) h n=.ok True:=by
 rw [F81.t14];refine yB (λm tm h n=>∃ z1 z2 z3 z4,tm=(F81.fr a z1 z2 z3 z4)/\Inv m z2 h n) ?_ hm ⟨_,_,_,_,rfl,hi⟩;rintro m _ h n R ⟨_,_,_,_,rfl,q⟩ p;exact step m _ _ _ _ h n R q λ_ _ _ _ _ _ _ x y=>p _ _ _ _ x ⟨_,_,_,_,rfl,y⟩
theorem F81.rG:IR.run F81.t17 C N O K (F81.fr a b c d e) h n=uO a λv1=>K (F81.fr a v1 c d e) h n:=by kernel_rfl
theorem F81.go:zO tbl N C (.of 81) [a0] h n K0=IR.run F81.t20 C N (fnO F81.res K0) (zf F81.res K0) (F81.fr a0 .u .u .u .u) h n:=yE (F:=F81) (by kernel_rfl) (λ_=>by kernel_rfl) (by kernel_rfl)
theorem F81.ret:zf F81.res K0 (F81.fr a b c d e) h n=K0 b h n:=by kernel_rfl
theorem F83.zu:IR.run F83.t0 C N O K (F83.fr a b c d e f) h n=yT [(.bool false),.zb] h n λv1 h2 n3=>yT [(.bool false),.zb] h2 n3 λv4 h5 n6=>K (F83.fr a v1 v4 d e f) h5 n6:=by kernel_rfl
theorem F83.zo:IR.run F83.t1 C N O K (F83.fr a b c d e f) h n=K (F83.fr a b c a e f) h n:=by kernel_rfl
theorem F83.yt:IR.run F83.t2 C N O K (F83.fr a b c d e f) h n=C.fn 81 (.of 81) [d] h n λv1 h2 n3=>K (F83.fr a b c d v1 f) h2 n3:=by kernel_rfl
theorem F83.vk:IR.run F83.t3 C N O K (F83.fr a b c d e f) h n=uO d λv1=>za .eql .int e v1 λv2=>K (F83.fr a b c d e v2) h n:=by kernel_rfl
theorem F83.nY:IR.run F83.t4 C N O K (F83.fr a b c d e f) h n=C.fn 137 (.of 137) [d] h n λv1 h2 n3=>C.fn 138 (.of 138) [(I 1)] h2 n3 λv4 h5 n6=>yA 2 b v1 h5 n6 λv7 h8 n9=>yA 2 c v4 h8 n9 λvH hC nC=>K (F83.fr a b c d e f) hC nC:=by kernel_rfl
theorem F83.v5:Arg.ev (.t (.of 5)) ⟨(F83.fr a b c d e f),[]⟩=f:=by kernel_rfl
theorem F83.rE:IR.run F83.t8 C N O K (F83.fr a b c d e f) h n=j4 d none (some e) λv1=>za .add .int e (I 1) λv2=>j4 d (some v2) none λv3=>C.fn 137 (.of 137) [v1] h n λv4 h5 n6=>(j4 d (some v2) none λvF=>zX vF v3 ((za .add .int e (I 1) λvE=>zX vE v2 (zX e e (zX d d (C.fn 137 (.of 137) [v3] h5 n6 λv7 h8 n9=>yA 2 b v4 h8 n9 λvH hC nC=>yA 2 c v7 hC nC λvB hD nD=>K (F83.fr a b c d e f) hD nD)))))):=by kernel_rfl
theorem F83.go:zO tbl N C (.of 83) [a0] h n K0=IR.run F83.t13 C N (fnO F83.res K0) (zf F83.res K0) (F83.fr a0 .u .u .u .u .u) h n:=yE (F:=F83) (by kernel_rfl) (λ_=>by kernel_rfl) (by kernel_rfl)
theorem F83.ret:zf F83.res K0 (F83.fr a b c d e f) h n=zI 2 b h λv1=>zI 2 c h λv2=>K0 (.tup [v1,v2]) h n:=by kernel_rfl
theorem zm.zu:IR.run zm.t0 C N O K (zm.fr a b c d e f g j o s i l q p) h n=K (zm.fr a (I 0) (I 0) (.bool false) e f g j o s i l q p) h n:=by kernel_rfl
theorem zm.zo:IR.run zm.t1 C N O K (zm.fr a b c d e f g j o s i l q p) h n=K (zm.fr a b c d a f g j o s i l q p) h n:=by kernel_rfl
theorem zm.yt:IR.run zm.t2 C N O K (zm.fr a b c d e f g j o s i l q p) h n=uO e λv1=>za .gtr .int v1 (I 20) λv2=>K (zm.fr a b c d e f g j o v2 i l q p) h n:=by kernel_rfl
theorem zm.v9:Arg.ev (.t (.of 9)) ⟨(zm.fr a b c d e f g j o s i l q p),[]⟩=s:=by kernel_rfl
theorem zm.ng:IR.run zm.t7 C N O K (zm.fr a b c d e f g j o s i l q p) h n=uO e λv1=>za .gtr .int v1 (I 0) λv2=>sG v2 true (λk=>k e) λv3=>sG v2 true (λk=>wU v3 (I 0) k) λv4=>sG v2 true (λk=>za .eql .int v4 (.int .u8 45) k) λv5=>yO v2 v5 (.bool false) λv6=>K (zm.fr a b c d e v6 g j o s i l q p) h n:=by kernel_rfl
theorem zm.rE:IR.run zm.t8 C N O K (zm.fr a b c d e f g j o s i l q p) h n=K (zm.fr a b c d e f g j o s f l q p) h n:=by kernel_rfl
theorem zm.rF:IR.run zm.t9 C N O K (zm.fr a b c d e f g j o s i l q p) h n=j4 e (some (I 1)) none λv1=>K (zm.fr a b c d v1 f g j o s i l q p) h n:=by kernel_rfl
theorem zm.v10:Arg.ev (.t (.of 10)) ⟨(zm.fr a b c d e f g j o s i l q p),[]⟩=i:=by kernel_rfl
theorem zm.nZ:IR.run zm.t12 C N O K (zm.fr a b c d e f g j o s i l q p) h n=C.fn 81 (.of 81) [e] h n λv1 h2 n3=>K (zm.fr a b c d e f v1 j o s i l q p) h2 n3:=by kernel_rfl
theorem zm.rX:IR.run zm.t13 C N O K tm h n=zZ zm.r8_0 C ⟨tm,[]⟩ h n (λtm h n=>K tm.v h n):=jJ ..
theorem zm.zya:zZ (zm.zwp r) C ⟨(zm.fr a b c d e f g j o s i l q p),[]⟩ h n Kt=za .gtr .int g (I 9) λv1=>sG v1 false (λk=>k e) λv2=>sG v1 false (λk=>uO v2 k) λv3=>sG v1 false (λk=>k g) λv4=>sG v1 false (λk=>za .sub .int v3 v4 k) λv5=>sG v1 false (λk=>za .gtr .int v5 (I 10) k) λv6=>zZ r C ⟨(zm.fr a b c d e f g j o s i l q p),v6::v5::v4::v3::v2::v1::v1::g::[]⟩ h n Kt:=by kernel_rfl
theorem zm.zyb:zZ (zm.zwq []) C ⟨(zm.fr a b c d e f g j o s i l q p),s0::s1::s2::s3::s4::s5::sT⟩ h n Kt=yO s5 (.bool true) s0 λv1=>Kt ⟨(zm.fr a b c d e f g j o s i v1 q p),s0::s1::s2::s3::s4::s5::sT⟩ h n:=by kernel_rfl
theorem zm.v11:Arg.ev (.t (.of 11)) ⟨(zm.fr a b c d e f g j o s i l q p),[]⟩=l:=by kernel_rfl
theorem zm.zgh:IR.run zm.t18 C N O K (zm.fr a b c d e f g j o s i l q p) h n=j4 e none (some g) λv1=>C.fn 195 (.of 195) [v1] h n λv2 h3 n4=>K (zm.fr a b c d e f g v2 (I 1) s i l q p) h3 n4:=by kernel_rfl
theorem zm.rY:IR.run zm.t19 C N O K (zm.fr a b c d e f g j o s i l q p) h n=uO e λv1=>za .lss .int g v1 λv2=>K (zm.fr a b c d e f g j o s i l v2 p) h n:=by kernel_rfl
theorem zm.aI:IR.run zm.t20 C N O K (zm.fr a b c d e f g j o s i l q p) h n=za .add .int g (I 1) λv1=>j4 e (some v1) none λv2=>C.fn 195 (.of 195) [v2] h n λv3 h4 n5=>K (zm.fr a b c d e f g j v3 s i l q p) h4 n5:=by kernel_rfl
theorem zm.v12:Arg.ev (.t (.of 12)) ⟨(zm.fr a b c d e f g j o s i l q p),[]⟩=q:=by kernel_rfl
theorem zm.zgi:IR.run zm.t23 C N O K (zm.fr a b c d e f g j o s i l q p) h n=K (zm.fr a b c d e f g j o s i l q f) h n:=by kernel_rfl
theorem zm.zad:IR.run zm.t24 C N O K (zm.fr a b c d e f g j o s i l q p) h n=za .sub .int (I 0) j λv1=>K (zm.fr a b c d e f g v1 o s i l q p) h n:=by kernel_rfl
theorem zm.v13:Arg.ev (.t (.of 13)) ⟨(zm.fr a b c d e f g j o s i l q p),[]⟩=p:=by kernel_rfl
theorem zm.zc6:IR.run zm.t27 C N O K (zm.fr a b c d e f g j o s i l q p) h n=K (zm.fr a j o (.bool true) e f g j o s i l q p) h n:=by kernel_rfl
theorem zm.go:zO tbl N C (.of 141) [a0] h n K0=IR.run zm.t38 C N (fnO zm.res K0) (zf zm.res K0) (zm.fr a0 .u .u .u .u .u .u .u .u .u .u .u .u .u) h n:=yE (F:=zm) (by kernel_rfl) (λ_=>by kernel_rfl) (by kernel_rfl)
theorem zm.ret:zf zm.res K0 (zm.fr a b c d e f g j o s i l q p) h n=K0 (.tup [b,c,d]) h n:=by kernel_rfl
theorem zw.zu:IR.run zw.t0 C N O K (zw.fr a b c d e f g j o) h n=K (zw.fr a b (.str []) d e f g j o) h n:=by kernel_rfl
theorem zw.zo:IR.run zw.t1 C N O K tm h n=zZ zw.sH C ⟨tm,[]⟩ h n (λtm h n=>K tm.v h n):=jJ ..
theorem zw.sJ:zZ (zw.rR r) C ⟨(zw.fr a b c d e f g j o),[]⟩ h n Kt=za .lss .int a (I (-4000000000000000000)) λv1=>sG v1 false (λk=>k a) λv2=>sG v1 false (λk=>za .gtr .int v2 (I 4000000000000000000) k) λv3=>yO v1 (.bool true) v3 λv4=>sG v4 false (λk=>k b) λv5=>zZ r C ⟨(zw.fr a b c d e f g j o),v5::v4::v4::v3::v2::v1::v1::a::[]⟩ h n Kt:=by kernel_rfl
theorem zw.rM:zZ (zw.rT []) C ⟨(zw.fr a b c d e f g j o),s0::s1::sT⟩ h n Kt=sG s1 false (λk=>za .lss .int s0 (I (-4000000000000000000)) k) λv1=>yO s1 (.bool true) v1 λv2=>sG v2 false (λk=>k b) λv3=>sG v2 false (λk=>za .gtr .int v3 (I 4000000000000000000) k) λv4=>yO v2 (.bool true) v4 λv5=>Kt ⟨(zw.fr a b c d e v5 g j o),v4::v3::v2::v2::v1::s0::s1::sT⟩ h n:=by kernel_rfl
theorem zw.v5:Arg.ev (.t (.of 5)) ⟨(zw.fr a b c d e f g j o),[]⟩=f:=by kernel_rfl
theorem zw.uj:IR.run zw.t6 C N O K (zw.fr a b c d e f g j o) h n=za .lss .int b (I 0) λv1=>K (zw.fr a b c d e f v1 j o) h n:=by kernel_rfl
theorem zw.v6:Arg.ev (.t (.of 6)) ⟨(zw.fr a b c d e f g j o),[]⟩=g:=by kernel_rfl
theorem zw.rC:IR.run zw.t10 C N O K (zw.fr a b c d e f g j o) h n=za .sub .int (I 0) a λv1=>sMin true a [v1] λv2=>C.fn 204 (.of 204) [v2,b] h n λv3 h4 n5=>K (zw.fr a b c v3 e f g j o) h4 n5:=by kernel_rfl
theorem zw.qz:IR.run zw.t11 C N O K (zw.fr a b c d e f g j o) h n=za .quo .int a d λv1=>za .quo .int b d λv2=>K (zw.fr v1 v2 c d e f g j o) h n:=by kernel_rfl
theorem zw.nZ:IR.run zw.t12 C N O K (zw.fr a b c d e f g j o) h n=K (zw.fr a b c d (.str []) f g j o) h n:=by kernel_rfl
theorem zw.rX:IR.run zw.t13 C N O K (zw.fr a b c d e f g j o) h n=za .lss .int a (I 0) λv1=>K (zw.fr a b c d e f g v1 o) h n:=by kernel_rfl
theorem zw.tF:IR.run zw.t14 C N O K (zw.fr a b c d e f g j o) h n=K (zw.fr a b c d (.str [45]) f g j o) h n:=by kernel_rfl
theorem zw.v7:Arg.ev (.t (.of 7)) ⟨(zw.fr a b c d e f g j o),[]⟩=j:=by kernel_rfl
theorem zw.rG:IR.run zw.t17 C N O K (zw.fr a b c d e f g j o) h n=za .sub .int (I 0) a λv1=>sMin true a [v1] λv2=>C.fn 205 (.of 205) [v2,(I 1)] h n λv3 h4 n5=>za .add .str e v3 λv6=>K (zw.fr a b c d v6 f g j o) h4 n5:=by kernel_rfl
theorem zw.zgh:IR.run zw.t18 C N O K (zw.fr a b c d e f g j o) h n=za .gtr .int b (I 1) λv1=>K (zw.fr a b c d e f g j v1) h n:=by kernel_rfl
theorem zw.rY:IR.run zw.t19 C N O K (zw.fr a b c d e f g j o) h n=za .add .str e (.str [47]) λv1=>C.fn 205 (.of 205) [b,(I 1)] h n λv2 h3 n4=>za .add .str v1 v2 λv5=>K (zw.fr a b c d v5 f g j o) h3 n4:=by kernel_rfl
theorem zw.v8:Arg.ev (.t (.of 8)) ⟨(zw.fr a b c d e f g j o),[]⟩=o:=by kernel_rfl
theorem zw.tT:IR.run zw.t22 C N O K (zw.fr a b c d e f g j o) h n=K (zw.fr a b e d e f g j o) h n:=by kernel_rfl
theorem zw.go:zO tbl N C (.of 142) [a0,a1] h n K0=IR.run zw.t32 C N (fnO zw.res K0) (zf zw.res K0) (zw.fr a0 a1 .u .u .u .u .u .u .u) h n:=yE (F:=zw) (by kernel_rfl) (λ_=>by kernel_rfl) (by kernel_rfl)
theorem zw.ret:zf zw.res K0 (zw.fr a b c d e f g j o) h n=K0 c h n:=by kernel_rfl
theorem ve.zu:IR.run ve.t0 C N O K (ve.fr a b c d) h n=qm a h n λv1 h2 n3=>yT [(I 0),.zb] h2 n3 λv4 h5 n6=>K (ve.fr a v1 v4 d) h5 n6:=by kernel_rfl
theorem ve.zo:IR.run ve.t1 C N O K (ve.fr a b c d) h n=zM 0 b λv1=>zH v1 h λv2=>za .lss .int v2 (I 0) λv3=>K (ve.fr a b c v3) h n:=by kernel_rfl
theorem ve.yt:IR.run ve.t2 C N O K (ve.fr a b c d) h n=zI 2 b h λv1=>C.fn 135 (.of 135) [v1] h n λv2 h3 n4=>yA 2 c v2 h3 n4 λv5 h6 n7=>K (ve.fr a b c d) h6 n7:=by kernel_rfl
theorem ve.v3:Arg.ev (.t (.of 3)) ⟨(ve.fr a b c d),[]⟩=d:=by kernel_rfl
theorem ve.uj:IR.run ve.t6 C N O K (ve.fr a b c d) h n=zI 2 b h λv1=>yA 2 c v1 h n λv2 h3 n4=>K (ve.fr a b c d) h3 n4:=by kernel_rfl
theorem ve.go:zO tbl N C (.of 243) [a0] h n K0=IR.run ve.t9 C N (fnO ve.res K0) (zf ve.res K0) (ve.fr a0 .u .u .u) h n:=yE (F:=ve) (by kernel_rfl) (λ_=>by kernel_rfl) (by kernel_rfl)
theorem ve.ret:zf ve.res K0 (ve.fr a b c d) h n=zI 2 c h λv1=>K0 v1 h n:=by kernel_rfl
theorem gu.zu:IR.run gu.t0 C N O K (gu.fr a b c d e f g) h n=qm a h n λv1 h2 n3=>qm b h2 n3 λv4 h5 n6=>yT [(I 0),.zb] h5 n6 λv7 h8 n9=>K (gu.fr a b v1 v4 v7 f g) h8 n9:=by kernel_rfl
theorem gu.zo:IR.run gu.t1 C N O K (gu.fr a b c d e f g) h n=zI 2 c h λv1=>zI 2 d h λv2=>C.fn 243 (.of 243) [v1] h n λv3 h4 n5=>(zI 2 d h4 λvD=>zX vD v2 (C.fn 243 (.of 243) [v2] h4 n5 λv6 h7 n8=>yA 2 c v3 h7 n8 λv9 hA nA=>yA 2 d v6 hA nA λvA hO nP=>K (gu.fr a b c d e f g) hO nP)):=by kernel_rfl
theorem gu.yt:IR.run gu.t2 C N O K (gu.fr a b c d e f g) h n=zI 2 d h λv1=>C.fn 132 (.of 132) [v1] h n λv2 h3 n4=>za .neq .int v2 (I 0) λv5=>K (gu.fr a b c d e f v5) h3 n4:=by kernel_rfl
theorem gu.v6:Arg.ev (.t (.of 6)) ⟨(gu.fr a b c d e f g),[]⟩=g:=by kernel_rfl
theorem gu.dz:IR.run gu.t5 C N O K (gu.fr a b c d e f g) h n=zI 2 c h λv1=>zI 2 d h λv2=>C.fn 244 (.of 244) [v1,v2] h n λv3 h4 n5=>di 0 v3 λv6=>di 1 v3 λv7=>yT [(I 0),.zb] h4 n5 λv8 h9 nH=>yT [(I 0),.zb] h9 nH λvI hH nI=>yA 2 v8 v6 hH nI λvC hB nB=>yA 2 vI v7 hB nB λvF hN nO=>K (gu.fr a b c d e vI g) hN nO:=by kernel_rfl
theorem gu.uj:IR.run gu.t6 C N O K (gu.fr a b c d e f g) h n=zI 2 d h λv1=>zI 2 f h λv2=>yA 2 c v1 h n λv3 h4 n5=>(zI 2 f h4 λv9=>zX v9 v2 (yA 2 d v2 h4 n5 λv6 h7 n8=>K (gu.fr a b c d e f g) h7 n8)):=by kernel_rfl
theorem gu.zot (Inv:Nat->T Blk->Pa->Prop) {m:Nat} (hm:m<N) (hi:Inv m h n)
  (step:∀ (m:Nat) (z5 z6:AV) (h:T Blk) (n:Pa) (R:Ks Prop),Inv m h n->(∀ (m':Nat) (w5 w6:AV) (h':T Blk) (n':Pa),m'<m->Inv m' h' n'->R (gu.fr a b c d e w5 w6) h' n'=.ok True)->IR.run gu.t9 C N O R (gu.fr a b c d e z5 z6) h n=.ok True) :
  IR.run gu.t10 C N O K (gu.fr a b c d e f g) h n=.ok True:=by
 rw [gu.t10];refine yB (λm tm h n=>∃ z5 z6,tm=(gu.fr a b c d e z5 z6)/\Inv m h n) ?_ hm ⟨_,_,rfl,hi⟩;rintro m _ h n R ⟨_,_,rfl,q⟩ p;exact step m _ _ h n R q λ_ _ _ _ _ x y=>p _ _ _ _ x ⟨_,_,rfl,y⟩
theorem gu.nZ:IR.run gu.t12 C N O K (gu.fr a b c d e f g) h n=zI 2 c h λv1=>yA 2 e v1 h n λv2 h3 n4=>K (gu.fr a b c d e f g) h3 n4:=by kernel_rfl
theorem gu.go:zO tbl N C (.of 191) [a0,a1] h n K0=IR.run gu.t16 C N (fnO gu.res K0) (zf gu.res K0) (gu.fr a0 a1 .u .u .u .u .u) h n:=yE (F:=gu) (by kernel_rfl) (λ_=>by kernel_rfl) (by kernel_rfl)
theorem gu.ret:zf gu.res K0 (gu.fr a b c d e f g) h n=zI 2 e h λv1=>K0 v1 h n:=by kernel_rfl
theorem xq.zu:IR.run xq.t0 C N O K (xq.fr a b c) h n=qm a h n λv1 h2 n3=>K (xq.fr a v1 (.bool false)) h2 n3:=by kernel_rfl
theorem xq.zo:IR.run xq.t1 C N O K tm h n=zZ xq.sH C ⟨tm,[]⟩ h n (λtm h n=>K tm.v h n):=jJ ..
theorem xq.sJ:zZ (xq.rR r) C ⟨(xq.fr a b c),[]⟩ h n Kt=zM 2 b λv1=>zM 1 v1 λv2=>zH v2 h λv3=>za .eql (.nil .sl) v3 .zb λv4=>sG v4 true (λk=>zM 2 b k) λv5=>sG v4 true (λk=>zM 0 v5 k) λv6=>sG v4 true (λk=>zH v6 h k) λv7=>zZ r C ⟨(xq.fr a b c),v7::v6::v5::v4::v4::v3::v2::v1::[]⟩ h n Kt:=by kernel_rfl
theorem xq.rM:zZ (xq.rT []) C ⟨(xq.fr a b c),s0::s1::s2::s3::sT⟩ h n Kt=sG s3 true (λk=>za .eql .int s0 (I 1) k) λv1=>yO s3 v1 (.bool false) λv2=>Kt ⟨(xq.fr a b v2),v2::v1::s0::s1::s2::s3::sT⟩ h n:=by kernel_rfl
theorem xq.go:zO tbl N C (.of 188) [a0] h n K0=IR.run xq.t3 C N (fnO xq.res K0) (zf xq.res K0) (xq.fr a0 .u .u) h n:=yE (F:=xq) (by kernel_rfl) (λ_=>by kernel_rfl) (by kernel_rfl)
theorem xq.ret:zf xq.res K0 (xq.fr a b c) h n=K0 c h n:=by kernel_rfl
theorem nT.zu:IR.run nT.t0 C N O K (nT.fr a b c) h n=qm a h n λv1 h2 n3=>yT [(I 0),.zb,(I 0),.zb] h2 n3 λv4 h5 n6=>K (nT.fr a v1 v4) h5 n6:=by kernel_rfl
theorem nT.zo:IR.run nT.t1 C N O K (nT.fr a b c) h n=zI 2 b h λv1=>C.fn 131 (.of 131) [(I 1)] h n λv2 h3 n4=>(zI 2 b h3 λv9=>zX v9 v1 (gV [(I 0),.zb,(I 0),.zb] [(0,2,v1),(2,2,v2)] λv5=>yA 4 c v5 h3 n4 λv6 h7 n8=>K (nT.fr a b c) h7 n8)):=by kernel_rfl
theorem nT.go:zO tbl N C (.of 130) [a0] h n K0=IR.run nT.t3 C N (fnO nT.res K0) (zf nT.res K0) (nT.fr a0 .u .u) h n:=yE (F:=nT) (by kernel_rfl) (λ_=>by kernel_rfl) (by kernel_rfl)
theorem nT.ret:zf nT.res K0 (nT.fr a b c) h n=zI 4 c h λv1=>K0 v1 h n:=by kernel_rfl
theorem F74.zu:IR.run F74.t0 C N O K (F74.fr a b) h n=yT [(I 0),.zb,(I 0),.zb] h n λv1 h2 n3=>K (F74.fr a v1) h2 n3:=by kernel_rfl
theorem F74.zo:IR.run F74.t1 C N O K (F74.fr a b) h n=C.fn 131 (.of 131) [a] h n λv1 h2 n3=>C.fn 130 (.of 130) [v1] h2 n3 λv4 h5 n6=>yA 4 b v4 h5 n6 λv7 h8 n9=>K (F74.fr a b) h8 n9:=by kernel_rfl
theorem F74.go:zO tbl N C (.of 74) [a0] h n K0=IR.run F74.t3 C N (fnO F74.res K0) (zf F74.res K0) (F74.fr a0 .u) h n:=yE (F:=F74) (by kernel_rfl) (λ_=>by kernel_rfl) (by kernel_rfl)
theorem F74.ret:zf F74.res K0 (F74.fr a b) h n=zI 4 b h λv1=>K0 v1 h n:=by kernel_rfl
theorem jh.zu:IR.run jh.t0 C N O K (jh.fr a b c d e f g j) h n=qm a h n λv1 h2 n3=>qm b h2 n3 λv4 h5 n6=>yT [(I 0),.zb,(I 0),.zb] h5 n6 λv7 h8 n9=>K (jh.fr a b v1 v4 v7 f g j) h8 n9:=by kernel_rfl
theorem jh.zo:IR.run jh.t1 C N O K (jh.fr a b c d e f g j) h n=zI 2 d h λv1=>C.fn 132 (.of 132) [v1] h n λv2 h3 n4=>za .lss .int v2 (I 0) λv5=>K (jh.fr a b c d e f v5 j) h3 n4:=by kernel_rfl
theorem jh.yt:IR.run jh.t2 C N O K (jh.fr a b c d e f g j) h n=zI 2 c h λv1=>zI 2 d h λv2=>C.fn 135 (.of 135) [v1] h n λv3 h4 n5=>(zI 2 d h4 λvD=>zX vD v2 (C.fn 135 (.of 135) [v2] h4 n5 λv6 h7 n8=>yA 2 c v3 h7 n8 λv9 hA nA=>yA 2 d v6 hA nA λvA hO nP=>K (jh.fr a b c d e f g j) hO nP)):=by kernel_rfl
theorem jh.v6:Arg.ev (.t (.of 6)) ⟨(jh.fr a b c d e f g j),[]⟩=g:=by kernel_rfl
theorem jh.dz:IR.run jh.t5 C N O K (jh.fr a b c d e f g j) h n=zM 1 d λv1=>zH v1 h λv2=>za .eql (.nil .sl) v2 .zb λv3=>sG v3 true (λk=>zM 0 d k) λv4=>sG v3 true (λk=>zH v4 h k) λv5=>sG v3 true (λk=>za .eql .int v5 (I 1) k) λv6=>yO v3 v6 (.bool false) λv7=>K (jh.fr a b c d e f g v7) h n:=by kernel_rfl
theorem jh.uj:IR.run jh.t6 C N O K (jh.fr a b c d e f g j) h n=zI 2 c h λv1=>zI 2 d h λv2=>gV [(I 0),.zb,(I 0),.zb] [(0,2,v1),(2,2,v2)] λv3=>yA 4 e v3 h n λv4 h5 n6=>K (jh.fr a b c d e f g j) h5 n6:=by kernel_rfl
theorem jh.v7:Arg.ev (.t (.of 7)) ⟨(jh.fr a b c d e f g j),[]⟩=j:=by kernel_rfl
theorem jh.rC:IR.run jh.t10 C N O K (jh.fr a b c d e f g j) h n=zI 2 c h λv1=>zI 2 d h λv2=>C.fn 191 (.of 191) [v1,v2] h n λv3 h4 n5=>yT [(I 0),.zb] h4 n5 λv6 h7 n8=>yA 2 v6 v3 h7 n8 λv9 hA nA=>K (jh.fr a b c d e v6 g j) hA nA:=by kernel_rfl
theorem jh.qz:IR.run jh.t11 C N O K (jh.fr a b c d e f g j) h n=zI 2 c h λv1=>zI 2 f h λv2=>zI 2 d h λv3=>zI 2 f h λv4=>C.fn 192 (.of 192) [v1,v2] h n λv5 h6 n7=>(zI 2 f h6 λvE=>zX vE v4 ((zI 2 d h6 λvD=>zX vD v3 (C.fn 192 (.of 192) [v3,v4] h6 n7 λv8 h9 nH=>gV [(I 0),.zb,(I 0),.zb] [(0,2,v5),(2,2,v8)] λvI=>yA 4 e vI h9 nH λvA hO nP=>K (jh.fr a b c d e f g j) hO nP)))):=by kernel_rfl
theorem jh.go:zO tbl N C (.of 133) [a0,a1] h n K0=IR.run jh.t16 C N (fnO jh.res K0) (zf jh.res K0) (jh.fr a0 a1 .u .u .u .u .u .u) h n:=yE (F:=jh) (by kernel_rfl) (λ_=>by kernel_rfl) (by kernel_rfl)
theorem jh.ret:zf jh.res K0 (jh.fr a b c d e f g j) h n=zI 4 e h λv1=>K0 v1 h n:=by kernel_rfl
theorem F75.zu:IR.run F75.t0 C N O K (F75.fr a b c) h n=qm a h n λv1 h2 n3=>K (F75.fr a v1 (I 0)) h2 n3:=by kernel_rfl
theorem F75.zo:IR.run F75.t1 C N O K (F75.fr a b c) h n=zM 0 b λv1=>zI 2 v1 h λv2=>C.fn 132 (.of 132) [v2] h n λv3 h4 n5=>K (F75.fr a b v3) h4 n5:=by kernel_rfl
theorem F75.go:zO tbl N C (.of 75) [a0] h n K0=IR.run F75.t3 C N (fnO F75.res K0) (zf F75.res K0) (F75.fr a0 .u .u) h n:=yE (F:=F75) (by kernel_rfl) (λ_=>by kernel_rfl) (by kernel_rfl)
theorem F75.ret:zf F75.res K0 (F75.fr a b c) h n=K0 c h n:=by kernel_rfl
theorem F80.zu:IR.run F80.t0 C N O K (F80.fr a b c) h n=qm a h n λv1 h2 n3=>yT [(I 0),.zb,(I 0),.zb] h2 n3 λv4 h5 n6=>K (F80.fr a v1 v4) h5 n6:=by kernel_rfl
theorem F80.zo:IR.run F80.t1 C N O K (F80.fr a b c) h n=zM 0 b λv1=>zI 2 v1 h λv2=>zM 2 b λv3=>zI 2 v3 h λv4=>C.fn 135 (.of 135) [v2] h n λv5 h6 n7=>(zI 2 v3 h6 λvB=>zX vB v4 ((zM 2 b λvA=>zX vA v3 (gV [(I 0),.zb,(I 0),.zb] [(0,2,v5),(2,2,v4)] λv8=>yA 4 c v8 h6 n7 λv9 hA nA=>K (F80.fr a b c) hA nA)))):=by kernel_rfl
theorem F80.go:zO tbl N C (.of 80) [a0] h n K0=IR.run F80.t3 C N (fnO F80.res K0) (zf F80.res K0) (F80.fr a0 .u .u) h n:=yE (F:=F80) (by kernel_rfl) (λ_=>by kernel_rfl) (by kernel_rfl)
theorem F80.ret:zf F80.res K0 (F80.fr a b c) h n=zI 4 c h λv1=>K0 v1 h n:=by kernel_rfl
theorem F77.zu:IR.run F77.t0 C N O K (F77.fr a b c) h n=qm a h n λv1 h2 n3=>yT [(I 0),.zb,(I 0),.zb] h2 n3 λv4 h5 n6=>K (F77.fr a v1 v4) h5 n6:=by kernel_rfl
theorem F77.zo:IR.run F77.t1 C N O K (F77.fr a b c) h n=zM 2 b λv1=>zI 2 v1 h λv2=>zM 0 b λv3=>zI 2 v3 h λv4=>C.fn 133 (.of 133) [v2,v4] h n λv5 h6 n7=>yA 4 c v5 h6 n7 λv8 h9 nH=>K (F77.fr a b c) h9 nH:=by kernel_rfl
theorem F77.go:zO tbl N C (.of 77) [a0] h n K0=IR.run F77.t3 C N (fnO F77.res K0) (zf F77.res K0) (F77.fr a0 .u .u) h n:=yE (F:=F77) (by kernel_rfl) (λ_=>by kernel_rfl) (by kernel_rfl)
theorem F77.ret:zf F77.res K0 (F77.fr a b c) h n=zI 4 c h λv1=>K0 v1 h n:=by kernel_rfl
theorem nU.zu:IR.run nU.t0 C N O K (nU.fr a b c d e) h n=qm a h n λv1 h2 n3=>qm b h2 n3 λv4 h5 n6=>yT [(I 0),.zb,(I 0),.zb] h5 n6 λv7 h8 n9=>K (nU.fr a b v1 v4 v7) h8 n9:=by kernel_rfl
theorem nU.zo:IR.run nU.t1 C N O K (nU.fr a b c d e) h n=zM 0 c λv1=>zI 2 v1 h λv2=>zM 0 d λv3=>zI 2 v3 h λv4=>zM 2 c λv5=>zI 2 v5 h λv6=>zM 2 d λv7=>zI 2 v7 h λv8=>C.fn 190 (.of 190) [v2,v4] h n λv9 hA nA=>(zI 2 v7 hA λv24=>zX v24 v8 ((zM 2 d λvZ=>zX vZ v7 ((zI 2 v5 hA λvU=>zX vU v6 ((zM 2 c λvL=>zX vL v5 (C.fn 190 (.of 190) [v6,v8] hA nA λvA hO nP=>C.fn 133 (.of 133) [v9,vA] hO nP λvD hP nQ=>yA 4 e vD hP nQ λvG hQ nR=>K (nU.fr a b c d e) hQ nR)))))))):=by kernel_rfl
theorem nU.go:zO tbl N C (.of 129) [a0,a1] h n K0=IR.run nU.t3 C N (fnO nU.res K0) (zf nU.res K0) (nU.fr a0 a1 .u .u .u) h n:=yE (F:=nU) (by kernel_rfl) (λ_=>by kernel_rfl) (by kernel_rfl)
theorem nU.ret:zf nU.res K0 (nU.fr a b c d e) h n=zI 4 e h λv1=>K0 v1 h n:=by kernel_rfl
theorem qp.zu:IR.run qp.t0 C N O K (qp.fr a b c d e f) h n=qm a h n λv1 h2 n3=>qm b h2 n3 λv4 h5 n6=>yT [(I 0),.zb,(I 0),.zb] h5 n6 λv7 h8 n9=>K (qp.fr a b v1 v4 v7 f) h8 n9:=by kernel_rfl
theorem qp.zo:IR.run qp.t1 C N O K (qp.fr a b c d e f) h n=zI 4 c h λv1=>C.fn 188 (.of 188) [v1] h n λv2 h3 n4=>sG v2 true (λk=>zI 4 d h3 k) λv5=>sGW v2 true (λk=>C.fn 188 (.of 188) [v5] h3 n4 k) h3 n4 λv6 h7 n8=>yO v2 v6 (.bool false) λv9=>K (qp.fr a b c d e v9) h7 n8:=by kernel_rfl
theorem qp.yt:IR.run qp.t2 C N O K (qp.fr a b c d e f) h n=zM 0 c λv1=>zI 2 v1 h λv2=>zM 0 d λv3=>zI 2 v3 h λv4=>C.fn 170 (.of 170) [v2,v4] h n λv5 h6 n7=>C.fn 130 (.of 130) [v5] h6 n7 λv8 h9 nH=>yA 4 e v8 h9 nH λvI hH nI=>K (qp.fr a b c d e f) hH nI:=by kernel_rfl
theorem qp.v5:Arg.ev (.t (.of 5)) ⟨(qp.fr a b c d e f),[]⟩=f:=by kernel_rfl
theorem qp.uj:IR.run qp.t6 C N O K (qp.fr a b c d e f) h n=zM 0 c λv1=>zI 2 v1 h λv2=>zM 2 d λv3=>zI 2 v3 h λv4=>zM 0 d λv5=>zI 2 v5 h λv6=>zM 2 c λv7=>zI 2 v7 h λv8=>zM 2 c λv9=>zI 2 v9 h λvH=>zM 2 d λvI=>zI 2 vI h λvA=>C.fn 190 (.of 190) [v2,v4] h n λvB hD nD=>(zI 2 vI hD λv46=>zX v46 vA ((zM 2 d λv45=>zX v45 vI ((zI 2 v9 hD λv44=>zX v44 vH ((zM 2 c λv43=>zX v43 v9 ((zI 2 v7 hD λv42=>zX v42 v8 ((zM 2 c λv41=>zX v41 v7 ((zI 2 v5 hD λv40=>zX v40 v6 ((zM 0 d λv39=>zX v39 v5 (C.fn 190 (.of 190) [v6,v8] hD nD λvE hE nE=>(zI 2 vI hE λv38=>zX v38 vA ((zM 2 d λv37=>zX v37 vI ((zI 2 v9 hE λvM=>zX vM vH ((zM 2 c λvN=>zX vN v9 (C.fn 170 (.of 170) [vB,vE] hE nE λvJ hF nF=>(zI 2 vI hF λvO=>zX vO vA ((zM 2 d λvP=>zX vP vI ((zI 2 v9 hF λvQ=>zX vQ vH ((zM 2 c λvR=>zX vR v9 (C.fn 190 (.of 190) [vH,vA] hF nF λvU hG nG=>C.fn 133 (.of 133) [vJ,vU] hG nG λvV hI nJ=>yA 4 e vV hI nJ λvY hJ nK=>K (qp.fr a b c d e f) hJ nK)))))))))))))))))))))))))))))))):=by kernel_rfl
theorem qp.go:zO tbl N C (.of 189) [a0,a1] h n K0=IR.run qp.t9 C N (fnO qp.res K0) (zf qp.res K0) (qp.fr a0 a1 .u .u .u .u) h n:=yE (F:=qp) (by kernel_rfl) (λ_=>by kernel_rfl) (by kernel_rfl)
theorem qp.ret:zf qp.res K0 (qp.fr a b c d e f) h n=zI 4 e h λv1=>K0 v1 h n:=by kernel_rfl
theorem nV.zu:IR.run nV.t0 C N O K (nV.fr a b c d e) h n=qm a h n λv1 h2 n3=>qm b h2 n3 λv4 h5 n6=>yT [(I 0),.zb,(I 0),.zb] h5 n6 λv7 h8 n9=>K (nV.fr a b v1 v4 v7) h8 n9:=by kernel_rfl
theorem nV.zo:IR.run nV.t1 C N O K (nV.fr a b c d e) h n=zI 4 c h λv1=>zI 4 d h λv2=>C.fn 80 (.of 80) [v2] h n λv3 h4 n5=>(zI 4 c h4 λvA=>zX vA v1 (C.fn 189 (.of 189) [v1,v3] h4 n5 λv6 h7 n8=>yA 4 e v6 h7 n8 λv9 hA nA=>K (nV.fr a b c d e) hA nA)):=by kernel_rfl
theorem nV.go:zO tbl N C (.of 128) [a0,a1] h n K0=IR.run nV.t3 C N (fnO nV.res K0) (zf nV.res K0) (nV.fr a0 a1 .u .u .u) h n:=yE (F:=nV) (by kernel_rfl) (λ_=>by kernel_rfl) (by kernel_rfl)
theorem nV.ret:zf nV.res K0 (nV.fr a b c d e) h n=zI 4 e h λv1=>K0 v1 h n:=by kernel_rfl
theorem qx.zu:IR.run qx.t0 C N O K (qx.fr a b c d e f g j o s i l q p) h n=K (qx.fr a b (.str []) d e f g j o s i l q p) h n:=by kernel_rfl
theorem qx.zo:IR.run qx.t1 C N O K (qx.fr a b c d e f g j o s i l q p) h n=C.fn 141 (.of 141) [a] h n λv1 h2 n3=>di 0 v1 λv4=>di 1 v1 λv5=>di 2 v1 λv6=>K (qx.fr a b c v4 v5 v6 g j o s i l q p) h2 n3:=by kernel_rfl
theorem qx.yt:IR.run qx.t2 C N O K (qx.fr a b c d e f g j o s i l q p) h n=C.fn 141 (.of 141) [b] h n λv1 h2 n3=>di 0 v1 λv4=>di 1 v1 λv5=>di 2 v1 λv6=>K (qx.fr a b c d e f v4 v5 v6 s i l q p) h2 n3:=by kernel_rfl
theorem qx.vk:IR.run qx.t3 C N O K (qx.fr a b c d e f g j o s i l q p) h n=sG f true (λk=>k o) λv1=>yO f v1 (.bool false) λv2=>K (qx.fr a b c d e f g j o s i l q v2) h n:=by kernel_rfl
theorem qx.nY:IR.run qx.t4 C N O K (qx.fr a b c d e f g j o s i l q p) h n=za .mul .int d j λv1=>za .mul .int g e λv2=>za .add .int v1 v2 λv3=>za .mul .int e j λv4=>C.fn 142 (.of 142) [v3,v4] h n λv5 h6 n7=>K (qx.fr a b v5 d e f g j o s i l q p) h6 n7:=by kernel_rfl
theorem qx.v13:Arg.ev (.t (.of 13)) ⟨(qx.fr a b c d e f g j o s i l q p),[]⟩=p:=by kernel_rfl
theorem qx.go:zO tbl N C (.of 144) [a0,a1] h n K0=IR.run qx.t17 C N (fnO qx.res K0) (zf qx.res K0) (qx.fr a0 a1 .u .u .u .u .u .u .u .u .u .u .u .u) h n:=yE (F:=qx) (by kernel_rfl) (λ_=>by kernel_rfl) (by kernel_rfl)
theorem qx.ret:zf qx.res K0 (qx.fr a b c d e f g j o s i l q p) h n=K0 c h n:=by kernel_rfl
theorem F89.zu:IR.run F89.t0 C N O K (F89.fr a b c d e f g j o s i l q p) h n=K (F89.fr a b (.str []) d e f g j o s i l q p) h n:=by kernel_rfl
theorem F89.zo:IR.run F89.t1 C N O K (F89.fr a b c d e f g j o s i l q p) h n=C.fn 141 (.of 141) [a] h n λv1 h2 n3=>di 0 v1 λv4=>di 1 v1 λv5=>di 2 v1 λv6=>K (F89.fr a b c v4 v5 v6 g j o s i l q p) h2 n3:=by kernel_rfl
theorem F89.yt:IR.run F89.t2 C N O K (F89.fr a b c d e f g j o s i l q p) h n=C.fn 141 (.of 141) [b] h n λv1 h2 n3=>di 0 v1 λv4=>di 1 v1 λv5=>di 2 v1 λv6=>K (F89.fr a b c d e f v4 v5 v6 s i l q p) h2 n3:=by kernel_rfl
theorem F89.vk:IR.run F89.t3 C N O K (F89.fr a b c d e f g j o s i l q p) h n=sG f true (λk=>k o) λv1=>yO f v1 (.bool false) λv2=>K (F89.fr a b c d e f g j o s i l q v2) h n:=by kernel_rfl
theorem F89.nY:IR.run F89.t4 C N O K (F89.fr a b c d e f g j o s i l q p) h n=za .mul .int d g λv1=>za .mul .int e j λv2=>C.fn 142 (.of 142) [v1,v2] h n λv3 h4 n5=>K (F89.fr a b v3 d e f g j o s i l q p) h4 n5:=by kernel_rfl
theorem F89.v13:Arg.ev (.t (.of 13)) ⟨(F89.fr a b c d e f g j o s i l q p),[]⟩=p:=by kernel_rfl
theorem F89.go:zO tbl N C (.of 89) [a0,a1] h n K0=IR.run F89.t17 C N (fnO F89.res K0) (zf F89.res K0) (F89.fr a0 a1 .u .u .u .u .u .u .u .u .u .u .u .u) h n:=yE (F:=F89) (by kernel_rfl) (λ_=>by kernel_rfl) (by kernel_rfl)
theorem F89.ret:zf F89.res K0 (F89.fr a b c d e f g j o s i l q p) h n=K0 c h n:=by kernel_rfl
theorem yg.zu:IR.run yg.t0 C N O K (yg.fr a b c d e f g j o s i) h n=qm a h n λv1 h2 n3=>qm b h2 n3 λv4 h5 n6=>K (yg.fr a b v1 v4 (.str []) f g j o s i) h5 n6:=by kernel_rfl
theorem yg.zo:IR.run yg.t1 C N O K (yg.fr a b c d e f g j o s i) h n=zM 0 d λv1=>zH v1 h λv2=>K (yg.fr a b c d e f g j o v2 i) h n:=by kernel_rfl
theorem yg.yt:IR.run yg.t2 C N O K (yg.fr a b c d e f g j o s i) h n=zI 2 c h λv1=>zI 2 d h λv2=>C.fn 202 (.of 202) [v1] h n λv3 h4 n5=>(zI 2 d h4 λvD=>zX vD v2 (C.fn 202 (.of 202) [v2] h4 n5 λv6 h7 n8=>yA 2 c v3 h7 n8 λv9 hA nA=>yA 2 d v6 hA nA λvA hO nP=>K (yg.fr a b c d e f g j o s i) hO nP)):=by kernel_rfl
theorem yg.v9:Arg.ev (.t (.of 9)) ⟨(yg.fr a b c d e f g j o s i),[]⟩=s:=by kernel_rfl
theorem yg.dz:IR.run yg.t5 C N O K (yg.fr a b c d e f g j o s i) h n=zM 1 c λv1=>zH v1 h λv2=>zM 1 d λv3=>zH v3 h λv4=>C.fn 84 (.of 84) [v2,v4] h n λv5 h6 n7=>K (yg.fr a b c d e v5 g j o s i) h6 n7:=by kernel_rfl
theorem yg.uj:IR.run yg.t6 C N O K (yg.fr a b c d e f g j o s i) h n=zM 1 c λv1=>zH v1 h λv2=>C.fn 139 (.of 139) [v2,f] h n λv3 h4 n5=>di 0 v3 λv6=>di 1 v3 λv7=>K (yg.fr a b c d e f v6 j o s i) h4 n5:=by kernel_rfl
theorem yg.ng:IR.run yg.t7 C N O K (yg.fr a b c d e f g j o s i) h n=zM 1 d λv1=>zH v1 h λv2=>C.fn 139 (.of 139) [v2,f] h n λv3 h4 n5=>di 0 v3 λv6=>di 1 v3 λv7=>K (yg.fr a b c d e f g v6 o s i) h4 n5:=by kernel_rfl
theorem yg.rE:IR.run yg.t8 C N O K (yg.fr a b c d e f g j o s i) h n=zM 0 c λv1=>zH v1 h λv2=>C.fn 196 (.of 196) [v2,g] h n λv3 h4 n5=>C.fn 203 (.of 203) [v3] h4 n5 λv6 h7 n8=>K (yg.fr a b c d e f g j v6 s i) h7 n8:=by kernel_rfl
theorem yg.rF:IR.run yg.t9 C N O K tm h n=zZ yg.r6_0 C ⟨tm,[]⟩ h n (λtm h n=>K tm.v h n):=jJ ..
theorem yg.zeq:zZ (yg.zgj r) C ⟨(yg.fr a b c d e f g j o s i),[]⟩ h n Kt=sLen j λv1=>za .eql .int v1 (I 1) λv2=>sG v2 true (λk=>k j) λv3=>sG v2 true (λk=>zN 1 v3 (I 0) k) λv4=>sG v2 true (λk=>zH v4 h k) λv5=>sG v2 true (λk=>za .eql .int v5 (I 1) k) λv6=>zZ r C ⟨(yg.fr a b c d e f g j o s i),v6::v5::v4::v3::v2::v2::v1::j::[]⟩ h n Kt:=by kernel_rfl
theorem yg.oC:zZ (yg.zgk []) C ⟨(yg.fr a b c d e f g j o s i),s0::s1::s2::s3::s4::sT⟩ h n Kt=yO s4 s0 (.bool false) λv1=>Kt ⟨(yg.fr a b c d e f g j o s v1),s0::s1::s2::s3::s4::sT⟩ h n:=by kernel_rfl
theorem yg.rC:IR.run yg.t10 C N O K (yg.fr a b c d e f g j o s i) h n=K (yg.fr a b c d o f g j o s i) h n:=by kernel_rfl
theorem yg.v10:Arg.ev (.t (.of 10)) ⟨(yg.fr a b c d e f g j o s i),[]⟩=i:=by kernel_rfl
theorem yg.tF:IR.run yg.t14 C N O K (yg.fr a b c d e f g j o s i) h n=za .add .str o (.str [47]) λv1=>C.fn 196 (.of 196) [(.bool false),j] h n λv2 h3 n4=>C.fn 203 (.of 203) [v2] h3 n4 λv5 h6 n7=>za .add .str v1 v5 λv8=>K (yg.fr a b c d v8 f g j o s i) h6 n7:=by kernel_rfl
theorem yg.go:zO tbl N C (.of 140) [a0,a1] h n K0=IR.run yg.t22 C N (fnO yg.res K0) (zf yg.res K0) (yg.fr a0 a1 .u .u .u .u .u .u .u .u .u) h n:=yE (F:=yg) (by kernel_rfl) (λ_=>by kernel_rfl) (by kernel_rfl)
theorem yg.ret:zf yg.res K0 (yg.fr a b c d e f g j o s i) h n=K0 e h n:=by kernel_rfl
theorem F90.zu:IR.run F90.t0 C N O K (F90.fr a b c) h n=K (F90.fr a b (.str [])) h n:=by kernel_rfl
theorem F90.zo:IR.run F90.t1 C N O K (F90.fr a b c) h n=C.fn 145 (.of 145) [b] h n λv1 h2 n3=>C.fn 144 (.of 144) [a,v1] h2 n3 λv4 h5 n6=>K (F90.fr a b v4) h5 n6:=by kernel_rfl
theorem F90.go:zO tbl N C (.of 90) [a0,a1] h n K0=IR.run F90.t3 C N (fnO F90.res K0) (zf F90.res K0) (F90.fr a0 a1 .u) h n:=yE (F:=F90) (by kernel_rfl) (λ_=>by kernel_rfl) (by kernel_rfl)
theorem F90.ret:zf F90.res K0 (F90.fr a b c) h n=K0 c h n:=by kernel_rfl
theorem uq.zu:IR.run uq.t0 C N O K (uq.fr a b c d) h n=K (uq.fr a (.str []) c d) h n:=by kernel_rfl
theorem uq.zo:IR.run uq.t1 C N O K (uq.fr a b c d) h n=C.fn 207 (.of 207) [a] h n λv1 h2 n3=>za .lss .int v1 (I 0) λv4=>K (uq.fr a b v4 d) h2 n3:=by kernel_rfl
theorem uq.yt:IR.run uq.t2 C N O K (uq.fr a b c d) h n=j4 a (some (I 1)) none λv1=>K (uq.fr a v1 c d) h n:=by kernel_rfl
theorem uq.v2:Arg.ev (.t (.of 2)) ⟨(uq.fr a b c d),[]⟩=c:=by kernel_rfl
theorem uq.uj:IR.run uq.t6 C N O K (uq.fr a b c d) h n=C.fn 207 (.of 207) [a] h n λv1 h2 n3=>za .eql .int v1 (I 0) λv4=>K (uq.fr a b c v4) h2 n3:=by kernel_rfl
theorem uq.ng:IR.run uq.t7 C N O K (uq.fr a b c d) h n=K (uq.fr a a c d) h n:=by kernel_rfl
theorem uq.v3:Arg.ev (.t (.of 3)) ⟨(uq.fr a b c d),[]⟩=d:=by kernel_rfl
theorem uq.qz:IR.run uq.t11 C N O K (uq.fr a b c d) h n=za .add .str (.str [45]) a λv1=>K (uq.fr a v1 c d) h n:=by kernel_rfl
theorem uq.go:zO tbl N C (.of 145) [a0] h n K0=IR.run uq.t15 C N (fnO uq.res K0) (zf uq.res K0) (uq.fr a0 .u .u .u) h n:=yE (F:=uq) (by kernel_rfl) (λ_=>by kernel_rfl) (by kernel_rfl)
theorem uq.ret:zf uq.res K0 (uq.fr a b c d) h n=K0 b h n:=by kernel_rfl
theorem F88.zu:IR.run F88.t0 C N O K (F88.fr a b c d) h n=K (F88.fr a (.str []) c d) h n:=by kernel_rfl
theorem F88.zo:IR.run F88.t1 C N O K (F88.fr a b c d) h n=C.fn 83 (.of 83) [a] h n λv1 h2 n3=>di 0 v1 λv4=>di 1 v1 λv5=>yT [(.bool false),.zb] h2 n3 λv6 h7 n8=>yT [(.bool false),.zb] h7 n8 λv9 hA nA=>yA 2 v6 v4 hA nA λvA hO nP=>yA 2 v9 v5 hO nP λvD hP nQ=>K (F88.fr a b v6 v9) hP nQ:=by kernel_rfl
theorem F88.yt:IR.run F88.t2 C N O K (F88.fr a b c d) h n=zI 2 d h λv1=>zI 2 c h λv2=>C.fn 140 (.of 140) [v1,v2] h n λv3 h4 n5=>K (F88.fr a v3 c d) h4 n5:=by kernel_rfl
theorem F88.go:zO tbl N C (.of 88) [a0] h n K0=IR.run F88.t5 C N (fnO F88.res K0) (zf F88.res K0) (F88.fr a0 .u .u .u) h n:=yE (F:=F88) (by kernel_rfl) (λ_=>by kernel_rfl) (by kernel_rfl)
theorem F88.ret:zf F88.res K0 (F88.fr a b c d) h n=K0 b h n:=by kernel_rfl
theorem uo.zu:IR.run uo.t0 C N O K (uo.fr a b c d) h n=K (uo.fr a (I 0) c d) h n:=by kernel_rfl
theorem uo.zo:IR.run uo.t1 C N O K (uo.fr a b c d) h n=za .eql .str a (.str [48]) λv1=>K (uo.fr a b v1 d) h n:=by kernel_rfl
theorem uo.yt:IR.run uo.t2 C N O K (uo.fr a b c d) h n=K (uo.fr a (I 0) c d) h n:=by kernel_rfl
theorem uo.v2:Arg.ev (.t (.of 2)) ⟨(uo.fr a b c d),[]⟩=c:=by kernel_rfl
theorem uo.uj:IR.run uo.t6 C N O K (uo.fr a b c d) h n=uO a λv1=>za .gtr .int v1 (I 0) λv2=>sG v2 true (λk=>k a) λv3=>sG v2 true (λk=>wU v3 (I 0) k) λv4=>sG v2 true (λk=>za .eql .int v4 (.int .u8 45) k) λv5=>yO v2 v5 (.bool false) λv6=>K (uo.fr a b c v6) h n:=by kernel_rfl
theorem uo.ng:IR.run uo.t7 C N O K (uo.fr a b c d) h n=K (uo.fr a (I (-1)) c d) h n:=by kernel_rfl
theorem uo.v3:Arg.ev (.t (.of 3)) ⟨(uo.fr a b c d),[]⟩=d:=by kernel_rfl
theorem uo.qz:IR.run uo.t11 C N O K (uo.fr a b c d) h n=K (uo.fr a (I 1) c d) h n:=by kernel_rfl
theorem uo.go:zO tbl N C (.of 207) [a0] h n K0=IR.run uo.t15 C N (fnO uo.res K0) (zf uo.res K0) (uo.fr a0 .u .u .u) h n:=yE (F:=uo) (by kernel_rfl) (λ_=>by kernel_rfl) (by kernel_rfl)
theorem uo.ret:zf uo.res K0 (uo.fr a b c d) h n=K0 b h n:=by kernel_rfl
theorem F87.zu:IR.run F87.t0 C N O K (F87.fr a b) h n=K (F87.fr a (.bool false)) h n:=by kernel_rfl
theorem F87.zo:IR.run F87.t1 C N O K (F87.fr a b) h n=za .eql .str a (.str [48]) λv1=>K (F87.fr a v1) h n:=by kernel_rfl
theorem F87.go:zO tbl N C (.of 87) [a0] h n K0=IR.run F87.t3 C N (fnO F87.res K0) (zf F87.res K0) (F87.fr a0 .u) h n:=yE (F:=F87) (by kernel_rfl) (λ_=>by kernel_rfl) (by kernel_rfl)
theorem F87.ret:zf F87.res K0 (F87.fr a b) h n=K0 b h n:=by kernel_rfl
theorem F85.zu:IR.run F85.t0 C N O K (F85.fr a b c d e) h n=K (F85.fr a .zb c d e) h n:=by kernel_rfl
theorem F85.zo:IR.run F85.t1 C N O K (F85.fr a b c d e) h n=K (F85.fr a b .zb d e) h n:=by kernel_rfl
theorem F85.yt:IR.run F85.t2 C N O K (F85.fr a b c d e) h n=K (F85.fr a b c (I 0) e) h n:=by kernel_rfl
theorem F85.vk:IR.run F85.t3 C N O K (F85.fr a b c d e) h n=sLen a λv1=>za .lss .int d v1 λv2=>K (F85.fr a b c d v2) h n:=by kernel_rfl
theorem F85.v4:Arg.ev (.t (.of 4)) ⟨(F85.fr a b c d e),[]⟩=e:=by kernel_rfl
theorem F85.uj:IR.run F85.t6 C N O K (F85.fr a b c d e) h n=y3 1 0 [(.str [])] [] h n λv1 h2 n3=>zN 1 a d λv4=>zH v4 h2 λv5=>tJ 1 16 v1 v5 h2 n3 λv6 h7 n8=>y3 1 1 [.zb] [(0,1,v6)] h7 n8 λv9 hA nA=>tJ 1 24 c v9 hA nA λvA hO nP=>K (F85.fr a b vA d e) hO nP:=by kernel_rfl
theorem F85.rE:IR.run F85.t8 C N O K (F85.fr a b c d e) h n=za .add .int d (I 1) λv1=>K (F85.fr a b c v1 e) h n:=by kernel_rfl
theorem F85.zou (Inv:Nat->AV->AV->T Blk->Pa->Prop) {m:Nat} (hm:m<N) (hi:Inv m c d h n)
  (step:∀ (m:Nat) (z2 z3 z4:AV) (h:T Blk) (n:Pa) (R:Ks Prop),Inv m z2 z3 h n->(∀ (m':Nat) (w2 w3 w4:AV) (h':T Blk) (n':Pa),m'<m->Inv m' w2 w3 h' n'->R (F85.fr a b w2 w3 w4) h' n'=.ok True)->IR.run F85.t10 C N O R (F85.fr a b z2 z3 z4) h n=.ok True) :
  IR.run F85.t11 C N O K (F85.fr a b c d e) h n=.ok True:=by
 rw [F85.t11];refine yB (λm tm h n=>∃ z2 z3 z4,tm=(F85.fr a b z2 z3 z4)/\Inv m z2 z3 h n) ?_ hm ⟨_,_,_,rfl,hi⟩;rintro m _ h n R ⟨_,_,_,rfl,q⟩ p;exact step m _ _ _ h n R q λ_ _ _ _ _ _ x y=>p _ _ _ _ x ⟨_,_,_,rfl,y⟩
theorem F85.tF:IR.run F85.t14 C N O K (F85.fr a b c d e) h n=K (F85.fr a c c d e) h n:=by kernel_rfl
theorem F85.go:zO tbl N C (.of 85) [a0] h n K0=IR.run F85.t18 C N (fnO F85.res K0) (zf F85.res K0) (F85.fr a0 .u .u .u .u) h n:=yE (F:=F85) (by kernel_rfl) (λ_=>by kernel_rfl) (by kernel_rfl)
theorem F85.ret:zf F85.res K0 (F85.fr a b c d e) h n=K0 b h n:=by kernel_rfl
theorem F86.zu:IR.run F86.t0 C N O K (F86.fr a b c) h n=K (F86.fr a (I 0) c) h n:=by kernel_rfl
theorem F86.zo:IR.run F86.t1 C N O K (F86.fr a b c) h n=sLen a λv1=>za .eql .int v1 (I 0) λv2=>K (F86.fr a b v2) h n:=by kernel_rfl
theorem F86.yt:IR.run F86.t2 C N O K (F86.fr a b c) h n=K (F86.fr a (I 0) c) h n:=by kernel_rfl
theorem F86.v2:Arg.ev (.t (.of 2)) ⟨(F86.fr a b c),[]⟩=c:=by kernel_rfl
theorem F86.uj:IR.run F86.t6 C N O K (F86.fr a b c) h n=zN 1 a (I 0) λv1=>zH v1 h λv2=>sLen v2 λv3=>K (F86.fr a v3 c) h n:=by kernel_rfl
theorem F86.go:zO tbl N C (.of 86) [a0] h n K0=IR.run F86.t9 C N (fnO F86.res K0) (zf F86.res K0) (F86.fr a0 .u .u) h n:=yE (F:=F86) (by kernel_rfl) (λ_=>by kernel_rfl) (by kernel_rfl)
theorem F86.ret:zf F86.res K0 (F86.fr a b c) h n=K0 b h n:=by kernel_rfl
theorem F40.zu:IR.run F40.t0 C N O K (F40.fr a b c d e f g) h n=K (F40.fr a b (.bool false) d e f g) h n:=by kernel_rfl
theorem F40.zo:IR.run F40.t1 C N O K (F40.fr a b c d e f g) h n=sLen a λv1=>sLen b λv2=>za .neq .int v1 v2 λv3=>K (F40.fr a b c d v3 f g) h n:=by kernel_rfl
theorem F40.yt:IR.run F40.t2 C N O K (F40.fr a b c d e f g) h n=K (F40.fr a b (.bool false) d e f g) h n:=by kernel_rfl
theorem F40.v4:Arg.ev (.t (.of 4)) ⟨(F40.fr a b c d e f g),[]⟩=e:=by kernel_rfl
theorem F40.uj:IR.run F40.t6 C N O K (F40.fr a b c d e f g) h n=K (F40.fr a b c (I 0) e f g) h n:=by kernel_rfl
theorem F40.ng:IR.run F40.t7 C N O K (F40.fr a b c d e f g) h n=sLen a λv1=>za .lss .int d v1 λv2=>K (F40.fr a b c d e v2 g) h n:=by kernel_rfl
theorem F40.v5:Arg.ev (.t (.of 5)) ⟨(F40.fr a b c d e f g),[]⟩=f:=by kernel_rfl
theorem F40.rC:IR.run F40.t10 C N O K (F40.fr a b c d e f g) h n=zN 1 a d λv1=>zH v1 h λv2=>zN 1 b d λv3=>zH v3 h λv4=>za .neq .str v2 v4 λv5=>K (F40.fr a b c d e f v5) h n:=by kernel_rfl
theorem F40.qz:IR.run F40.t11 C N O K (F40.fr a b c d e f g) h n=K (F40.fr a b (.bool false) d e f g) h n:=by kernel_rfl
theorem F40.v6:Arg.ev (.t (.of 6)) ⟨(F40.fr a b c d e f g),[]⟩=g:=by kernel_rfl
theorem F40.rU:IR.run F40.t16 C N O K (F40.fr a b c d e f g) h n=za .add .int d (I 1) λv1=>K (F40.fr a b c v1 e f g) h n:=by kernel_rfl
theorem F40.zgl (Inv:Nat->AV->T Blk->Pa->Prop) {m:Nat} (hm:m<N) (hi:Inv m d h n)
  (step:∀ (m:Nat) (z2 z3 z5 z6:AV) (h:T Blk) (n:Pa) (R:Ks Prop),Inv m z3 h n->(∀ (m':Nat) (w2 w3 w5 w6:AV) (h':T Blk) (n':Pa),m'<m->Inv m' w3 h' n'->R (F40.fr a b w2 w3 e w5 w6) h' n'=.ok True)->IR.run F40.t18 C N O R (F40.fr a b z2 z3 e z5 z6) h n=.ok True) :
  IR.run F40.t19 C N O K (F40.fr a b c d e f g) h n=.ok True:=by
 rw [F40.t19];refine yB (λm tm h n=>∃ z2 z3 z5 z6,tm=(F40.fr a b z2 z3 e z5 z6)/\Inv m z3 h n) ?_ hm ⟨_,_,_,_,rfl,hi⟩;rintro m _ h n R ⟨_,_,_,_,rfl,q⟩ p;exact step m _ _ _ _ h n R q λ_ _ _ _ _ _ _ x y=>p _ _ _ _ x ⟨_,_,_,_,rfl,y⟩
theorem F40.tT:IR.run F40.t22 C N O K (F40.fr a b c d e f g) h n=K (F40.fr a b (.bool true) d e f g) h n:=by kernel_rfl
theorem F40.go:zO tbl N C (.of 40) [a0,a1] h n K0=IR.run F40.t26 C N (fnO F40.res K0) (zf F40.res K0) (F40.fr a0 a1 .u .u .u .u .u) h n:=yE (F:=F40) (by kernel_rfl) (λ_=>by kernel_rfl) (by kernel_rfl)
theorem F40.ret:zf F40.res K0 (F40.fr a b c d e f g) h n=K0 c h n:=by kernel_rfl
theorem F13.zu:IR.run F13.t0 C N O K (F13.fr a b c d e f g) h n=K (F13.fr a b (.bool false) d e f g) h n:=by kernel_rfl
theorem F13.zo:IR.run F13.t1 C N O K (F13.fr a b c d e f g) h n=sLen a λv1=>sLen b λv2=>za .neq .int v1 v2 λv3=>K (F13.fr a b c d v3 f g) h n:=by kernel_rfl
theorem F13.yt:IR.run F13.t2 C N O K (F13.fr a b c d e f g) h n=K (F13.fr a b (.bool false) d e f g) h n:=by kernel_rfl
theorem F13.v4:Arg.ev (.t (.of 4)) ⟨(F13.fr a b c d e f g),[]⟩=e:=by kernel_rfl
theorem F13.uj:IR.run F13.t6 C N O K (F13.fr a b c d e f g) h n=K (F13.fr a b c (I 0) e f g) h n:=by kernel_rfl
theorem F13.ng:IR.run F13.t7 C N O K (F13.fr a b c d e f g) h n=sLen a λv1=>za .lss .int d v1 λv2=>K (F13.fr a b c d e v2 g) h n:=by kernel_rfl
theorem F13.v5:Arg.ev (.t (.of 5)) ⟨(F13.fr a b c d e f g),[]⟩=f:=by kernel_rfl
theorem F13.rC:IR.run F13.t10 C N O K (F13.fr a b c d e f g) h n=zN 1 a d λv1=>zH v1 h λv2=>zN 1 b d λv3=>zH v3 h λv4=>C.fn 40 (.of 40) [v2,v4] h n λv5 h6 n7=>sNot v5 λv8=>K (F13.fr a b c d e f v8) h6 n7:=by kernel_rfl
theorem F13.qz:IR.run F13.t11 C N O K (F13.fr a b c d e f g) h n=K (F13.fr a b (.bool false) d e f g) h n:=by kernel_rfl
theorem F13.v6:Arg.ev (.t (.of 6)) ⟨(F13.fr a b c d e f g),[]⟩=g:=by kernel_rfl
theorem F13.rU:IR.run F13.t16 C N O K (F13.fr a b c d e f g) h n=za .add .int d (I 1) λv1=>K (F13.fr a b c v1 e f g) h n:=by kernel_rfl
theorem F13.zgl (Inv:Nat->AV->T Blk->Pa->Prop) {m:Nat} (hm:m<N) (hi:Inv m d h n)
  (step:∀ (m:Nat) (z2 z3 z5 z6:AV) (h:T Blk) (n:Pa) (R:Ks Prop),Inv m z3 h n->(∀ (m':Nat) (w2 w3 w5 w6:AV) (h':T Blk) (n':Pa),m'<m->Inv m' w3 h' n'->R (F13.fr a b w2 w3 e w5 w6) h' n'=.ok True)->IR.run F13.t18 C N O R (F13.fr a b z2 z3 e z5 z6) h n=.ok True) :
  IR.run F13.t19 C N O K (F13.fr a b c d e f g) h n=.ok True:=by
 rw [F13.t19];refine yB (λm tm h n=>∃ z2 z3 z5 z6,tm=(F13.fr a b z2 z3 e z5 z6)/\Inv m z3 h n) ?_ hm ⟨_,_,_,_,rfl,hi⟩;rintro m _ h n R ⟨_,_,_,_,rfl,q⟩ p;exact step m _ _ _ _ h n R q λ_ _ _ _ _ _ _ x y=>p _ _ _ _ x ⟨_,_,_,_,rfl,y⟩
theorem F13.tT:IR.run F13.t22 C N O K (F13.fr a b c d e f g) h n=K (F13.fr a b (.bool true) d e f g) h n:=by kernel_rfl
theorem F13.go:zO tbl N C (.of 13) [a0,a1] h n K0=IR.run F13.t26 C N (fnO F13.res K0) (zf F13.res K0) (F13.fr a0 a1 .u .u .u .u .u) h n:=yE (F:=F13) (by kernel_rfl) (λ_=>by kernel_rfl) (by kernel_rfl)
theorem F13.ret:zf F13.res K0 (F13.fr a b c d e f g) h n=K0 c h n:=by kernel_rfl
theorem F41.zu:IR.run F41.t0 C N O K (F41.fr a b c d e f g j o s i l q p u v w y z) h n=K (F41.fr a .zb .zb d e f g j o s i l q p u v w y z) h n:=by kernel_rfl
theorem F41.zo:IR.run F41.t1 C N O K (F41.fr a b c d e f g j o s i l q p u v w y z) h n=C.fn 85 (.of 85) [a] h n λv1 h2 n3=>K (F41.fr v1 b c d e f g j o s i l q p u v w y z) h2 n3:=by kernel_rfl
theorem F41.yt:IR.run F41.t2 C N O K (F41.fr a b c d e f g j o s i l q p u v w y z) h n=K (F41.fr a b c .zb e f g j o s i l q p u v w y z) h n:=by kernel_rfl
theorem F41.vk:IR.run F41.t3 C N O K (F41.fr a b c d e f g j o s i l q p u v w y z) h n=K (F41.fr a b c d (I 0) f g j o s i l q p u v w y z) h n:=by kernel_rfl
theorem F41.nY:IR.run F41.t4 C N O K tm h n=zZ F41.r4_0 C ⟨tm,[]⟩ h n (λtm h n=>K tm.v h n):=jJ ..
theorem F41.zes:zZ (F41.zgm r) C ⟨(F41.fr a b c d e f g j o s i l q p u v w y z),[]⟩ h n Kt=C.fn 86 (.of 86) [a] h n λv1 h2 n3=>zZ r C ⟨(F41.fr a b c d e f g j o s i l q p u v w y z),v1::a::e::[]⟩ h2 n3 Kt:=by kernel_rfl
theorem F41.zet:zZ (F41.zgn []) C ⟨(F41.fr a b c d e f g j o s i l q p u v w y z),s0::s1::s2::[]⟩ h n Kt=za .lss .int s2 s0 λv1=>sG v1 true (λk=>k d) λv2=>sG v1 true (λk=>sLen v2 k) λv3=>sG v1 true (λk=>k a) λv4=>sG v1 true (λk=>sLen v4 k) λv5=>sG v1 true (λk=>za .lss .int v3 v5 k) λv6=>yO v1 v6 (.bool false) λv7=>Kt ⟨(F41.fr a b c d e f g j o s i l v7 p u v w y z),v6::v5::v4::v3::v2::v1::v1::s0::s1::s2::[]⟩ h n:=by kernel_rfl
theorem F41.v12:Arg.ev (.t (.of 12)) ⟨(F41.fr a b c d e f g j o s i l q p u v w y z),[]⟩=q:=by kernel_rfl
theorem F41.ng:IR.run F41.t7 C N O K (F41.fr a b c d e f g j o s i l q p u v w y z) h n=sLen d λv1=>K (F41.fr a b c d e v1 g j o s i l q p u v w y z) h n:=by kernel_rfl
theorem F41.rE:IR.run F41.t8 C N O K tm h n=zZ F41.r6_0 C ⟨tm,[]⟩ h n (λtm h n=>K tm.v h n):=jJ ..
theorem F41.zeq:zZ (F41.zgj r) C ⟨(F41.fr a b c d e f g j o s i l q p u v w y z),[]⟩ h n Kt=sLen a λv1=>za .lss .int f v1 λv2=>sG v2 true (λk=>k a) λv3=>sG v2 true (λk=>k f) λv4=>sG v2 true (λk=>zN 1 v3 v4 k) λv5=>zZ r C ⟨(F41.fr a b c d e f g j o s i l q p u v w y z),v5::v4::v3::v2::v2::v1::a::f::[]⟩ h n Kt:=by kernel_rfl
theorem F41.oC:zZ (F41.zgk r) C ⟨(F41.fr a b c d e f g j o s i l q p u v w y z),s0::s1::s2::s3::sT⟩ h n Kt=sG s3 true (λk=>zH s0 h k) λv1=>sG s3 true (λk=>k e) λv2=>sG s3 true (λk=>zN 1 v1 v2 k) λv3=>sG s3 true (λk=>zH v3 h k) λv4=>sGW s3 true (λk=>C.fn 87 (.of 87) [v4] h n k) h n λv5 h6 n7=>zZ r C ⟨(F41.fr a b c d e f g j o s i l q p u v w y z),v5::v4::v3::v2::v1::s0::s1::s2::s3::sT⟩ h6 n7 Kt:=by kernel_rfl
theorem F41.zov:zZ (F41.zwr []) C ⟨(F41.fr a b c d e f g j o s i l q p u v w y z),s0::s1::s2::s3::s4::s5::s6::s7::s8::sT⟩ h n Kt=yO s8 s0 (.bool false) λv1=>Kt ⟨(F41.fr a b c d e f g j o s i l q v1 u v w y z),s0::s1::s2::s3::s4::s5::s6::s7::s8::sT⟩ h n:=by kernel_rfl
theorem F41.v13:Arg.ev (.t (.of 13)) ⟨(F41.fr a b c d e f g j o s i l q p u v w y z),[]⟩=p:=by kernel_rfl
theorem F41.qz:IR.run F41.t11 C N O K (F41.fr a b c d e f g j o s i l q p u v w y z) h n=za .add .int f (I 1) λv1=>K (F41.fr a b c d e v1 g j o s i l q p u v w y z) h n:=by kernel_rfl
theorem F41.zae (Inv:Nat->AV->T Blk->Pa->Prop) {m:Nat} (hm:m<N) (hi:Inv m f h n)
  (step:∀ (m:Nat) (z5 zD:AV) (h:T Blk) (n:Pa) (R:Ks Prop),Inv m z5 h n->(∀ (m':Nat) (w5 wD:AV) (h':T Blk) (n':Pa),m'<m->Inv m' w5 h' n'->R (F41.fr a b c d e w5 g j o s i l q wD u v w y z) h' n'=.ok True)->IR.run F41.t13 C N O R (F41.fr a b c d e z5 g j o s i l q zD u v w y z) h n=.ok True) :
  IR.run F41.t14 C N O K (F41.fr a b c d e f g j o s i l q p u v w y z) h n=.ok True:=by
 rw [F41.t14];refine yB (λm tm h n=>∃ z5 zD,tm=(F41.fr a b c d e z5 g j o s i l q zD u v w y z)/\Inv m z5 h n) ?_ hm ⟨_,_,rfl,hi⟩;rintro m _ h n R ⟨_,_,rfl,q⟩ p;exact step m _ _ h n R q λ_ _ _ _ _ x y=>p _ _ _ _ x ⟨_,_,rfl,y⟩
theorem F41.rU:IR.run F41.t16 C N O K (F41.fr a b c d e f g j o s i l q p u v w y z) h n=sLen a λv1=>za .eql .int f v1 λv2=>K (F41.fr a b c d e f g j o s i l q p v2 v w y z) h n:=by kernel_rfl
theorem F41.v14:Arg.ev (.t (.of 14)) ⟨(F41.fr a b c d e f g j o s i l q p u v w y z),[]⟩=u:=by kernel_rfl
theorem F41.rY:IR.run F41.t19 C N O K (F41.fr a b c d e f g j o s i l q p u v w y z) h n=sLen d λv1=>K (F41.fr a b c d e f v1 j o s i l q p u v w y z) h n:=by kernel_rfl
theorem F41.aI:IR.run F41.t20 C N O K (F41.fr a b c d e f g j o s i l q p u v w y z) h n=zN 1 a g λv1=>zH v1 h λv2=>zN 1 a f λv3=>zH v3 h λv4=>zN 1 a f λv5=>yA 1 v5 v2 h n λv6 h7 n8=>zX g g (zX a a (zN 1 a g λv9=>yA 1 v9 v4 h7 n8 λvH hC nC=>K (F41.fr a b c d e f g j o s i l q p u v w y z) hC nC)):=by kernel_rfl
theorem F41.eO:IR.run F41.t21 C N O K (F41.fr a b c d e f g j o s i l q p u v w y z) h n=zN 1 a g λv1=>zH v1 h λv2=>zN 1 v2 e λv3=>zH v3 h λv4=>C.fn 88 (.of 88) [v4] h n λv5 h6 n7=>K (F41.fr a b c d e f g v5 o s i l q p u v w y z) h6 n7:=by kernel_rfl
theorem F41.tT:IR.run F41.t22 C N O K (F41.fr a b c d e f g j o s i l q p u v w y z) h n=K (F41.fr a b c d e f g j (I 0) s i l q p u v w y z) h n:=by kernel_rfl
theorem F41.zgi:IR.run F41.t23 C N O K (F41.fr a b c d e f g j o s i l q p u v w y z) h n=zN 1 a g λv1=>zH v1 h λv2=>sLen v2 λv3=>za .lss .int o v3 λv4=>K (F41.fr a b c d e f g j o s i l q p u v4 w y z) h n:=by kernel_rfl
theorem F41.v15:Arg.ev (.t (.of 15)) ⟨(F41.fr a b c d e f g j o s i l q p u v w y z),[]⟩=v:=by kernel_rfl
theorem F41.zow:IR.run F41.t26 C N O K (F41.fr a b c d e f g j o s i l q p u v w y z) h n=zN 1 a g λv1=>zH v1 h λv2=>zN 1 a g λv3=>zH v3 h λv4=>zN 1 v4 o λv5=>zH v5 h λv6=>C.fn 89 (.of 89) [v6,j] h n λv7 h8 n9=>zX o o ((zH v1 h8 λvD=>zX vD v2 ((zN 1 a g λvC=>zX vC v1 (zX g g (zX a a (zN 1 v2 o λvH=>yA 1 vH v7 h8 n9 λvI hH nI=>K (F41.fr a b c d e f g j o s i l q p u v w y z) hH nI))))))):=by kernel_rfl
theorem F41.zac:IR.run F41.t28 C N O K (F41.fr a b c d e f g j o s i l q p u v w y z) h n=za .add .int o (I 1) λv1=>K (F41.fr a b c d e f g j v1 s i l q p u v w y z) h n:=by kernel_rfl
theorem F41.zgf (Inv:Nat->AV->T Blk->Pa->Prop) {m:Nat} (hm:m<N) (hi:Inv m o h n)
  (step:∀ (m:Nat) (z8 zE:AV) (h:T Blk) (n:Pa) (R:Ks Prop),Inv m z8 h n->(∀ (m':Nat) (w8 wE:AV) (h':T Blk) (n':Pa),m'<m->Inv m' w8 h' n'->R (F41.fr a b c d e f g j w8 s i l q p u wE w y z) h' n'=.ok True)->IR.run F41.t30 C N O R (F41.fr a b c d e f g j z8 s i l q p u zE w y z) h n=.ok True) :
  IR.run F41.t31 C N O K (F41.fr a b c d e f g j o s i l q p u v w y z) h n=.ok True:=by
 rw [F41.t31];refine yB (λm tm h n=>∃ z8 zE,tm=(F41.fr a b c d e f g j z8 s i l q p u zE w y z)/\Inv m z8 h n) ?_ hm ⟨_,_,rfl,hi⟩;rintro m _ h n R ⟨_,_,rfl,q⟩ p;exact step m _ _ h n R q λ_ _ _ _ _ x y=>p _ _ _ _ x ⟨_,_,rfl,y⟩
theorem F41.zc5:IR.run F41.t34 C N O K (F41.fr a b c d e f g j o s i l q p u v w y z) h n=K (F41.fr a b c d e f g j o (I 0) i l q p u v w y z) h n:=by kernel_rfl
theorem F41.qau:IR.run F41.t35 C N O K (F41.fr a b c d e f g j o s i l q p u v w y z) h n=sLen a λv1=>za .lss .int s v1 λv2=>K (F41.fr a b c d e f g j o s i l q p u v v2 y z) h n:=by kernel_rfl
theorem F41.v16:Arg.ev (.t (.of 16)) ⟨(F41.fr a b c d e f g j o s i l q p u v w y z),[]⟩=w:=by kernel_rfl
theorem F41.zgo:IR.run F41.t38 C N O K (F41.fr a b c d e f g j o s i l q p u v w y z) h n=zN 1 a s λv1=>zH v1 h λv2=>zN 1 v2 e λv3=>zH v3 h λv4=>K (F41.fr a b c d e f g j o s v4 l q p u v w y z) h n:=by kernel_rfl
theorem F41.qav:IR.run F41.t39 C N O K (F41.fr a b c d e f g j o s i l q p u v w y z) h n=za .eql .int s g λv1=>sG v1 false (λk=>k i) λv2=>sGW v1 false (λk=>C.fn 87 (.of 87) [v2] h n k) h n λv3 h4 n5=>yO v1 (.bool true) v3 λv6=>K (F41.fr a b c d e f g j o s i l q p u v w v6 z) h4 n5:=by kernel_rfl
theorem F41.v17:Arg.ev (.t (.of 17)) ⟨(F41.fr a b c d e f g j o s i l q p u v w y z),[]⟩=y:=by kernel_rfl
theorem F41.qaw:IR.run F41.t42 C N O K (F41.fr a b c d e f g j o s i l q p u v w y z) h n=K (F41.fr a b c d e f g j o s i (I 0) q p u v w y z) h n:=by kernel_rfl
theorem F41.qax:IR.run F41.t43 C N O K (F41.fr a b c d e f g j o s i l q p u v w y z) h n=zN 1 a s λv1=>zH v1 h λv2=>sLen v2 λv3=>za .lss .int l v3 λv4=>K (F41.fr a b c d e f g j o s i l q p u v w y v4) h n:=by kernel_rfl
theorem F41.v18:Arg.ev (.t (.of 18)) ⟨(F41.fr a b c d e f g j o s i l q p u v w y z),[]⟩=z:=by kernel_rfl
theorem F41.qay:IR.run F41.t46 C N O K (F41.fr a b c d e f g j o s i l q p u v w y z) h n=zN 1 a s λv1=>zH v1 h λv2=>zN 1 a s λv3=>zH v3 h λv4=>zN 1 v4 l λv5=>zH v5 h λv6=>zN 1 a g λv7=>zH v7 h λv8=>zN 1 v8 l λv9=>zH v9 h λvH=>C.fn 89 (.of 89) [i,vH] h n λvI hH nI=>(zH v5 hH λvY=>zX vY v6 ((zN 1 v4 l λvX=>zX vX v5 (zX l l ((zH v3 hH λvW=>zX vW v4 ((zN 1 a s λvV=>zX vV v3 (zX s s (zX a a (zX l l ((zH v1 hH λv24=>zX v24 v2 ((zN 1 a s λvZ=>zX vZ v1 (zX s s (zX a a (C.fn 90 (.of 90) [v6,vI] hH nI λvC hB nB=>zX l l ((zH v1 hB λvU=>zX vU v2 ((zN 1 a s λvL=>zX vL v1 (zX s s (zX a a (zN 1 v2 l λvF=>yA 1 vF vC hB nB λvG hQ nR=>K (F41.fr a b c d e f g j o s i l q p u v w y z) hQ nR))))))))))))))))))))))))):=by kernel_rfl
theorem F41.qaz:IR.run F41.t48 C N O K (F41.fr a b c d e f g j o s i l q p u v w y z) h n=za .add .int l (I 1) λv1=>K (F41.fr a b c d e f g j o s i v1 q p u v w y z) h n:=by kernel_rfl
theorem F41.qa0 (Inv:Nat->AV->T Blk->Pa->Prop) {m:Nat} (hm:m<N) (hi:Inv m l h n)
  (step:∀ (m:Nat) (zB zF:AV) (h:T Blk) (n:Pa) (R:Ks Prop),Inv m zB h n->(∀ (m':Nat) (wB wF:AV) (h':T Blk) (n':Pa),m'<m->Inv m' wB h' n'->R (F41.fr a b c d e f g j o s i wB q p u v w y wF) h' n'=.ok True)->IR.run F41.t50 C N O R (F41.fr a b c d e f g j o s i zB q p u v w y zF) h n=.ok True) :
  IR.run F41.t51 C N O K (F41.fr a b c d e f g j o s i l q p u v w y z) h n=.ok True:=by
 rw [F41.t51];refine yB (λm tm h n=>∃ zB zF,tm=(F41.fr a b c d e f g j o s i zB q p u v w y zF)/\Inv m zB h n) ?_ hm ⟨_,_,rfl,hi⟩;rintro m _ h n R ⟨_,_,rfl,q⟩ p;exact step m _ _ h n R q λ_ _ _ _ _ x y=>p _ _ _ _ x ⟨_,_,rfl,y⟩
theorem F41.zox:IR.run F41.t57 C N O K (F41.fr a b c d e f g j o s i l q p u v w y z) h n=za .add .int s (I 1) λv1=>K (F41.fr a b c d e f g j o v1 i l q p u v w y z) h n:=by kernel_rfl
theorem F41.qa1 (Inv:Nat->AV->T Blk->Pa->Prop) {m:Nat} (hm:m<N) (hi:Inv m s h n)
  (step:∀ (m:Nat) (z9 zA zB zG zJ zF:AV) (h:T Blk) (n:Pa) (R:Ks Prop),Inv m z9 h n->(∀ (m':Nat) (w9 wA wB wG wH wF:AV) (h':T Blk) (n':Pa),m'<m->Inv m' w9 h' n'->R (F41.fr a b c d e f g j o w9 wA wB q p u v wG wH wF) h' n'=.ok True)->IR.run F41.t59 C N O R (F41.fr a b c d e f g j o z9 zA zB q p u v zG zJ zF) h n=.ok True) :
  IR.run F41.t60 C N O K (F41.fr a b c d e f g j o s i l q p u v w y z) h n=.ok True:=by
 rw [F41.t60];refine yB (λm tm h n=>∃ z9 zA zB zG zJ zF,tm=(F41.fr a b c d e f g j o z9 zA zB q p u v zG zJ zF)/\Inv m z9 h n) ?_ hm ⟨_,_,_,_,_,_,rfl,hi⟩;rintro m _ h n R ⟨_,_,_,_,_,_,rfl,q⟩ p;exact step m _ _ _ _ _ _ h n R q λ_ _ _ _ _ _ _ _ _ x y=>p _ _ _ _ x ⟨_,_,_,_,_,_,rfl,y⟩
theorem F41.qa2:IR.run F41.t63 C N O K (F41.fr a b c d e f g j o s i l q p u v w y z) h n=y3 1 1 [(I 0)] [(0,1,e)] h n λv1 h2 n3=>tJ 1 8 d v1 h2 n3 λv4 h5 n6=>K (F41.fr a b c v4 e f g j o s i l q p u v w y z) h5 n6:=by kernel_rfl
theorem F41.zws:IR.run F41.t73 C N O K (F41.fr a b c d e f g j o s i l q p u v w y z) h n=za .add .int e (I 1) λv1=>K (F41.fr a b c d v1 f g j o s i l q p u v w y z) h n:=by kernel_rfl
theorem F41.zwt (Inv:Nat->AV->AV->T Blk->Pa->Prop) {m:Nat} (hm:m<N) (hi:Inv m d e h n)
  (step:∀ (m:Nat) (z3 z4 z5 z6 z7 z8 z9 zA zB zC zD zK zE zG zJ zF:AV) (h:T Blk) (n:Pa) (R:Ks Prop),Inv m z3 z4 h n->(∀ (m':Nat) (w3 w4 w5 w6 w7 w8 w9 wA wB wC wD wI wE wG wH wF:AV) (h':T Blk) (n':Pa),m'<m->Inv m' w3 w4 h' n'->R (F41.fr a b c w3 w4 w5 w6 w7 w8 w9 wA wB wC wD wI wE wG wH wF) h' n'=.ok True)->IR.run F41.t75 C N O R (F41.fr a b c z3 z4 z5 z6 z7 z8 z9 zA zB zC zD zK zE zG zJ zF) h n=.ok True) :
  IR.run F41.t76 C N O K (F41.fr a b c d e f g j o s i l q p u v w y z) h n=.ok True:=by
 rw [F41.t76];refine yB (λm tm h n=>∃ z3 z4 z5 z6 z7 z8 z9 zA zB zC zD zK zE zG zJ zF,tm=(F41.fr a b c z3 z4 z5 z6 z7 z8 z9 zA zB zC zD zK zE zG zJ zF)/\Inv m z3 z4 h n) ?_ hm ⟨_,_,_,_,_,_,_,_,_,_,_,_,_,_,_,_,rfl,hi⟩;rintro m _ h n R ⟨_,_,_,_,_,_,_,_,_,_,_,_,_,_,_,_,rfl,q⟩ p;exact step m _ _ _ _ _ _ _ _ _ _ _ _ _ _ _ _ h n R q λ_ _ _ _ _ _ _ _ _ _ _ _ _ _ _ _ _ _ _ x y=>p _ _ _ _ x ⟨_,_,_,_,_,_,_,_,_,_,_,_,_,_,_,_,rfl,y⟩
theorem F41.zwu:IR.run F41.t79 C N O K (F41.fr a b c d e f g j o s i l q p u v w y z) h n=sLen d λv1=>xI 1 a none (some v1) none λv2=>K (F41.fr a v2 d d e f g j o s i l q p u v w y z) h n:=by kernel_rfl
theorem F41.go:zO tbl N C (.of 41) [a0] h n K0=IR.run F41.t84 C N (fnO F41.res K0) (zf F41.res K0) (F41.fr a0 .u .u .u .u .u .u .u .u .u .u .u .u .u .u .u .u .u .u) h n:=yE (F:=F41) (by kernel_rfl) (λ_=>by kernel_rfl) (by kernel_rfl)
theorem F41.ret:zf F41.res K0 (F41.fr a b c d e f g j o s i l q p u v w y z) h n=K0 (.tup [b,c]) h n:=by kernel_rfl
theorem F72.zu:IR.run F72.t0 C N O K (F72.fr a b c d e f g j o) h n=K (F72.fr a b .zb d e f g j o) h n:=by kernel_rfl
theorem F72.zo:IR.run F72.t1 C N O K (F72.fr a b c d e f g j o) h n=C.fn 79 (.of 79) [a] h n λv1 h2 n3=>K (F72.fr a b c v1 e f g j o) h2 n3:=by kernel_rfl
theorem F72.yt:IR.run F72.t2 C N O K (F72.fr a b c d e f g j o) h n=sLen b λv1=>K (F72.fr a b c d e b v1 (I 0) o) h n:=by kernel_rfl
theorem F72.vk:IR.run F72.t3 C N O K (F72.fr a b c d e f g j o) h n=za .lss .int j g λv1=>K (F72.fr a b c d e f g j v1) h n:=by kernel_rfl
theorem F72.v8:Arg.ev (.t (.of 8)) ⟨(F72.fr a b c d e f g j o),[]⟩=o:=by kernel_rfl
theorem F72.dz:IR.run F72.t5 C N O K (F72.fr a b c d e f g j o) h n=zN 1 f j λv1=>zH v1 h λv2=>K (F72.fr a b c d v2 f g j o) h n:=by kernel_rfl
theorem F72.uj:IR.run F72.t6 C N O K (F72.fr a b c d e f g j o) h n=C.fn 74 (.of 74) [(I 1)] h n λv1 h2 n3=>zN 4 d e λv4=>yA 4 v4 v1 h2 n3 λv5 h6 n7=>K (F72.fr a b c d e f g j o) h6 n7:=by kernel_rfl
theorem F72.rF:IR.run F72.t9 C N O K (F72.fr a b c d e f g j o) h n=za .add .int j (I 1) λv1=>K (F72.fr a b c d e f g v1 o) h n:=by kernel_rfl
theorem F72.eU (Inv:Nat->AV->T Blk->Pa->Prop) {m:Nat} (hm:m<N) (hi:Inv m j h n)
  (step:∀ (m:Nat) (z4 z7 z8:AV) (h:T Blk) (n:Pa) (R:Ks Prop),Inv m z7 h n->(∀ (m':Nat) (w4 w7 w8:AV) (h':T Blk) (n':Pa),m'<m->Inv m' w7 h' n'->R (F72.fr a b c d w4 f g w7 w8) h' n'=.ok True)->IR.run F72.t12 C N O R (F72.fr a b c d z4 f g z7 z8) h n=.ok True) :
  IR.run F72.t13 C N O K (F72.fr a b c d e f g j o) h n=.ok True:=by
 rw [F72.t13];refine yB (λm tm h n=>∃ z4 z7 z8,tm=(F72.fr a b c d z4 f g z7 z8)/\Inv m z7 h n) ?_ hm ⟨_,_,_,rfl,hi⟩;rintro m _ h n R ⟨_,_,_,rfl,q⟩ p;exact step m _ _ _ h n R q λ_ _ _ _ _ _ x y=>p _ _ _ _ x ⟨_,_,_,rfl,y⟩
theorem F72.rU:IR.run F72.t16 C N O K (F72.fr a b c d e f g j o) h n=K (F72.fr a b d d e f g j o) h n:=by kernel_rfl
theorem F72.go:zO tbl N C (.of 72) [a0,a1] h n K0=IR.run F72.t20 C N (fnO F72.res K0) (zf F72.res K0) (F72.fr a0 a1 .u .u .u .u .u .u .u) h n:=yE (F:=F72) (by kernel_rfl) (λ_=>by kernel_rfl) (by kernel_rfl)
theorem F72.ret:zf F72.res K0 (F72.fr a b c d e f g j o) h n=K0 c h n:=by kernel_rfl
theorem F79.zu:IR.run F79.t0 C N O K (F79.fr a b c d e f g) h n=K (F79.fr a .zb c d e f g) h n:=by kernel_rfl
theorem F79.zo:IR.run F79.t1 C N O K (F79.fr a b c d e f g) h n=uG 4 64 [(I 0),.zb,(I 0),.zb] a a h n λv1 h2 n3=>K (F79.fr a b v1 d e f g) h2 n3:=by kernel_rfl
theorem F79.yt:IR.run F79.t2 C N O K (F79.fr a b c d e f g) h n=sLen c λv1=>K (F79.fr a b c d v1 (I 0) g) h n:=by kernel_rfl
theorem F79.vk:IR.run F79.t3 C N O K (F79.fr a b c d e f g) h n=za .lss .int f e λv1=>K (F79.fr a b c d e f v1) h n:=by kernel_rfl
theorem F79.v6:Arg.ev (.t (.of 6)) ⟨(F79.fr a b c d e f g),[]⟩=g:=by kernel_rfl
theorem F79.dz:IR.run F79.t5 C N O K (F79.fr a b c d e f g) h n=K (F79.fr a b c f e f g) h n:=by kernel_rfl
theorem F79.uj:IR.run F79.t6 C N O K (F79.fr a b c d e f g) h n=C.fn 74 (.of 74) [(I 0)] h n λv1 h2 n3=>zN 4 c d λv4=>yA 4 v4 v1 h2 n3 λv5 h6 n7=>K (F79.fr a b c d e f g) h6 n7:=by kernel_rfl
theorem F79.rF:IR.run F79.t9 C N O K (F79.fr a b c d e f g) h n=za .add .int f (I 1) λv1=>K (F79.fr a b c d e v1 g) h n:=by kernel_rfl
theorem F79.eU (Inv:Nat->AV->T Blk->Pa->Prop) {m:Nat} (hm:m<N) (hi:Inv m f h n)
  (step:∀ (m:Nat) (z3 z5 z6:AV) (h:T Blk) (n:Pa) (R:Ks Prop),Inv m z5 h n->(∀ (m':Nat) (w3 w5 w6:AV) (h':T Blk) (n':Pa),m'<m->Inv m' w5 h' n'->R (F79.fr a b c w3 e w5 w6) h' n'=.ok True)->IR.run F79.t12 C N O R (F79.fr a b c z3 e z5 z6) h n=.ok True) :
  IR.run F79.t13 C N O K (F79.fr a b c d e f g) h n=.ok True:=by
 rw [F79.t13];refine yB (λm tm h n=>∃ z3 z5 z6,tm=(F79.fr a b c z3 e z5 z6)/\Inv m z5 h n) ?_ hm ⟨_,_,_,rfl,hi⟩;rintro m _ h n R ⟨_,_,_,rfl,q⟩ p;exact step m _ _ _ h n R q λ_ _ _ _ _ _ x y=>p _ _ _ _ x ⟨_,_,_,rfl,y⟩
theorem F79.rU:IR.run F79.t16 C N O K (F79.fr a b c d e f g) h n=K (F79.fr a c c d e f g) h n:=by kernel_rfl
theorem F79.go:zO tbl N C (.of 79) [a0] h n K0=IR.run F79.t20 C N (fnO F79.res K0) (zf F79.res K0) (F79.fr a0 .u .u .u .u .u .u) h n:=yE (F:=F79) (by kernel_rfl) (λ_=>by kernel_rfl) (by kernel_rfl)
theorem F79.ret:zf F79.res K0 (F79.fr a b c d e f g) h n=K0 b h n:=by kernel_rfl
theorem F73.zu:IR.run F73.t0 C N O K (F73.fr a b c d e f g j o s i) h n=qm b h n λv1 h2 n3=>K (F73.fr a b c v1 e f g j o s i) h2 n3:=by kernel_rfl
theorem F73.zo:IR.run F73.t1 C N O K (F73.fr a b c d e f g j o s i) h n=sLen c λv1=>K (F73.fr a b c d e f c v1 (I 0) s i) h n:=by kernel_rfl
theorem F73.yt:IR.run F73.t2 C N O K (F73.fr a b c d e f g j o s i) h n=za .lss .int o j λv1=>K (F73.fr a b c d e f g j o v1 i) h n:=by kernel_rfl
theorem F73.v9:Arg.ev (.t (.of 9)) ⟨(F73.fr a b c d e f g j o s i),[]⟩=s:=by kernel_rfl
theorem F73.nY:IR.run F73.t4 C N O K (F73.fr a b c d e f g j o s i) h n=zN 4 g o λv1=>zI 4 v1 h λv2=>yT [(I 0),.zb,(I 0),.zb] h n λv3 h4 n5=>yA 4 v3 v2 h4 n5 λv6 h7 n8=>K (F73.fr a b c d o v3 g j o s i) h7 n8:=by kernel_rfl
theorem F73.dz:IR.run F73.t5 C N O K (F73.fr a b c d e f g j o s i) h n=zI 4 f h λv1=>C.fn 75 (.of 75) [v1] h n λv2 h3 n4=>za .neq .int v2 (I 0) λv5=>K (F73.fr a b c d e f g j o s v5) h3 n4:=by kernel_rfl
theorem F73.uj:IR.run F73.t6 C N O K (F73.fr a b c d e f g j o s i) h n=zN 4 a e λv1=>zI 4 v1 h λv2=>zI 4 d h λv3=>zI 4 f h λv4=>C.fn 129 (.of 129) [v3,v4] h n λv5 h6 n7=>(zI 4 v1 h6 λvE=>zX vE v2 ((zN 4 a e λvD=>zX vD v1 (zX e e (zX a a (zX e e (zX a a (C.fn 128 (.of 128) [v2,v5] h6 n7 λv8 h9 nH=>zX e e (zX a a (zN 4 a e λvI=>yA 4 vI v8 h9 nH λvA hO nP=>K (F73.fr a b c d e f g j o s i) hO nP)))))))))):=by kernel_rfl
theorem F73.v10:Arg.ev (.t (.of 10)) ⟨(F73.fr a b c d e f g j o s i),[]⟩=i:=by kernel_rfl
theorem F73.qz:IR.run F73.t11 C N O K (F73.fr a b c d e f g j o s i) h n=za .add .int o (I 1) λv1=>K (F73.fr a b c d e f g j v1 s i) h n:=by kernel_rfl
theorem F73.zgg (Inv:Nat->AV->T Blk->Pa->Prop) {m:Nat} (hm:m<N) (hi:Inv m o h n)
  (step:∀ (m:Nat) (z4 z5 z8 z9 zA:AV) (h:T Blk) (n:Pa) (R:Ks Prop),Inv m z8 h n->(∀ (m':Nat) (w4 w5 w8 w9 wA:AV) (h':T Blk) (n':Pa),m'<m->Inv m' w8 h' n'->R (F73.fr a b c d w4 w5 g j w8 w9 wA) h' n'=.ok True)->IR.run F73.t14 C N O R (F73.fr a b c d z4 z5 g j z8 z9 zA) h n=.ok True) :
  IR.run F73.t15 C N O K (F73.fr a b c d e f g j o s i) h n=.ok True:=by
 rw [F73.t15];refine yB (λm tm h n=>∃ z4 z5 z8 z9 zA,tm=(F73.fr a b c d z4 z5 g j z8 z9 zA)/\Inv m z8 h n) ?_ hm ⟨_,_,_,_,_,rfl,hi⟩;rintro m _ h n R ⟨_,_,_,_,_,rfl,q⟩ p;exact step m _ _ _ _ _ h n R q λ_ _ _ _ _ _ _ _ x y=>p _ _ _ _ x ⟨_,_,_,_,_,rfl,y⟩
theorem F73.go:zO tbl N C (.of 73) [a0,a1,a2] h n K0=IR.run F73.t18 C N (fnO F73.res K0) (zf F73.res K0) (F73.fr a0 a1 a2 .u .u .u .u .u .u .u .u) h n:=yE (F:=F73) (by kernel_rfl) (λ_=>by kernel_rfl) (by kernel_rfl)
theorem F73.ret:zf F73.res K0 (F73.fr a b c d e f g j o s i) h n=K0 (.tup []) h n:=by kernel_rfl
theorem F76.zu:IR.run F76.t0 C N O K (F76.fr a b c d e f g j o s) h n=qm b h n λv1 h2 n3=>K (F76.fr a b v1 d e f g j o s) h2 n3:=by kernel_rfl
theorem F76.zo:IR.run F76.t1 C N O K (F76.fr a b c d e f g j o s) h n=sLen a λv1=>K (F76.fr a b c d e a v1 (I 0) o s) h n:=by kernel_rfl
theorem F76.yt:IR.run F76.t2 C N O K (F76.fr a b c d e f g j o s) h n=za .lss .int j g λv1=>K (F76.fr a b c d e f g j v1 s) h n:=by kernel_rfl
theorem F76.v8:Arg.ev (.t (.of 8)) ⟨(F76.fr a b c d e f g j o s),[]⟩=o:=by kernel_rfl
theorem F76.nY:IR.run F76.t4 C N O K (F76.fr a b c d e f g j o s) h n=zN 4 f j λv1=>zI 4 v1 h λv2=>yT [(I 0),.zb,(I 0),.zb] h n λv3 h4 n5=>yA 4 v3 v2 h4 n5 λv6 h7 n8=>K (F76.fr a b c j v3 f g j o s) h7 n8:=by kernel_rfl
theorem F76.dz:IR.run F76.t5 C N O K (F76.fr a b c d e f g j o s) h n=zI 4 e h λv1=>C.fn 75 (.of 75) [v1] h n λv2 h3 n4=>za .neq .int v2 (I 0) λv5=>K (F76.fr a b c d e f g j o v5) h3 n4:=by kernel_rfl
theorem F76.uj:IR.run F76.t6 C N O K (F76.fr a b c d e f g j o s) h n=zI 4 e h λv1=>zI 4 c h λv2=>C.fn 129 (.of 129) [v1,v2] h n λv3 h4 n5=>zN 4 a d λv6=>yA 4 v6 v3 h4 n5 λv7 h8 n9=>K (F76.fr a b c d e f g j o s) h8 n9:=by kernel_rfl
theorem F76.v9:Arg.ev (.t (.of 9)) ⟨(F76.fr a b c d e f g j o s),[]⟩=s:=by kernel_rfl
theorem F76.qz:IR.run F76.t11 C N O K (F76.fr a b c d e f g j o s) h n=za .add .int j (I 1) λv1=>K (F76.fr a b c d e f g v1 o s) h n:=by kernel_rfl
theorem F76.zgg (Inv:Nat->AV->T Blk->Pa->Prop) {m:Nat} (hm:m<N) (hi:Inv m j h n)
  (step:∀ (m:Nat) (z3 z4 z7 z8 z9:AV) (h:T Blk) (n:Pa) (R:Ks Prop),Inv m z7 h n->(∀ (m':Nat) (w3 w4 w7 w8 w9:AV) (h':T Blk) (n':Pa),m'<m->Inv m' w7 h' n'->R (F76.fr a b c w3 w4 f g w7 w8 w9) h' n'=.ok True)->IR.run F76.t14 C N O R (F76.fr a b c z3 z4 f g z7 z8 z9) h n=.ok True) :
  IR.run F76.t15 C N O K (F76.fr a b c d e f g j o s) h n=.ok True:=by
 rw [F76.t15];refine yB (λm tm h n=>∃ z3 z4 z7 z8 z9,tm=(F76.fr a b c z3 z4 f g z7 z8 z9)/\Inv m z7 h n) ?_ hm ⟨_,_,_,_,_,rfl,hi⟩;rintro m _ h n R ⟨_,_,_,_,_,rfl,q⟩ p;exact step m _ _ _ _ _ h n R q λ_ _ _ _ _ _ _ _ x y=>p _ _ _ _ x ⟨_,_,_,_,_,rfl,y⟩
theorem F76.go:zO tbl N C (.of 76) [a0,a1] h n K0=IR.run F76.t18 C N (fnO F76.res K0) (zf F76.res K0) (F76.fr a0 a1 .u .u .u .u .u .u .u .u) h n:=yE (F:=F76) (by kernel_rfl) (λ_=>by kernel_rfl) (by kernel_rfl)
theorem F76.ret:zf F76.res K0 (F76.fr a b c d e f g j o s) h n=K0 (.tup []) h n:=by kernel_rfl
theorem F78.zu:IR.run F78.t0 C N O K (F78.fr a b c) h n=K (F78.fr a b (.bool false)) h n:=by kernel_rfl
theorem F78.zo:IR.run F78.t1 C N O K (F78.fr a b c) h n=C.fn 134 (.of 134) [a,b] h n λv1 h2 n3=>za .geq .int v1 (I 0) λv4=>K (F78.fr a b v4) h2 n3:=by kernel_rfl
theorem F78.go:zO tbl N C (.of 78) [a0,a1] h n K0=IR.run F78.t3 C N (fnO F78.res K0) (zf F78.res K0) (F78.fr a0 a1 .u) h n:=yE (F:=F78) (by kernel_rfl) (λ_=>by kernel_rfl) (by kernel_rfl)
theorem F78.ret:zf F78.res K0 (F78.fr a b c) h n=K0 c h n:=by kernel_rfl
theorem jf.zu:IR.run jf.t0 C N O K (jf.fr a b c d e f g j) h n=K (jf.fr a b (I 0) d e f g j) h n:=by kernel_rfl
theorem jf.zo:IR.run jf.t1 C N O K (jf.fr a b c d e f g j) h n=sLen a λv1=>K (jf.fr a b c d v1 (I 0) g j) h n:=by kernel_rfl
theorem jf.yt:IR.run jf.t2 C N O K (jf.fr a b c d e f g j) h n=za .lss .int f e λv1=>K (jf.fr a b c d e f v1 j) h n:=by kernel_rfl
theorem jf.v6:Arg.ev (.t (.of 6)) ⟨(jf.fr a b c d e f g j),[]⟩=g:=by kernel_rfl
theorem jf.nY:IR.run jf.t4 C N O K (jf.fr a b c d e f g j) h n=K (jf.fr a b c f e f g j) h n:=by kernel_rfl
theorem jf.dz:IR.run jf.t5 C N O K (jf.fr a b c d e f g j) h n=zN 1 a d λv1=>zH v1 h λv2=>za .eql .int b v2 λv3=>K (jf.fr a b c d e f g v3) h n:=by kernel_rfl
theorem jf.uj:IR.run jf.t6 C N O K (jf.fr a b c d e f g j) h n=K (jf.fr a b d d e f g j) h n:=by kernel_rfl
theorem jf.v7:Arg.ev (.t (.of 7)) ⟨(jf.fr a b c d e f g j),[]⟩=j:=by kernel_rfl
theorem jf.nZ:IR.run jf.t12 C N O K (jf.fr a b c d e f g j) h n=za .add .int f (I 1) λv1=>K (jf.fr a b c d e v1 g j) h n:=by kernel_rfl
theorem jf.eT (Inv:Nat->AV->T Blk->Pa->Prop) {m:Nat} (hm:m<N) (hi:Inv m f h n)
  (step:∀ (m:Nat) (z2 z3 z5 z6 z7:AV) (h:T Blk) (n:Pa) (R:Ks Prop),Inv m z5 h n->(∀ (m':Nat) (w2 w3 w5 w6 w7:AV) (h':T Blk) (n':Pa),m'<m->Inv m' w5 h' n'->R (jf.fr a b w2 w3 e w5 w6 w7) h' n'=.ok True)->IR.run jf.t15 C N O R (jf.fr a b z2 z3 e z5 z6 z7) h n=.ok True) :
  IR.run jf.t16 C N O K (jf.fr a b c d e f g j) h n=.ok True:=by
 rw [jf.t16];refine yB (λm tm h n=>∃ z2 z3 z5 z6 z7,tm=(jf.fr a b z2 z3 e z5 z6 z7)/\Inv m z5 h n) ?_ hm ⟨_,_,_,_,_,rfl,hi⟩;rintro m _ h n R ⟨_,_,_,_,_,rfl,q⟩ p;exact step m _ _ _ _ _ h n R q λ_ _ _ _ _ _ _ _ x y=>p _ _ _ _ x ⟨_,_,_,_,_,rfl,y⟩
theorem jf.rY:IR.run jf.t19 C N O K (jf.fr a b c d e f g j) h n=K (jf.fr a b (I (-1)) d e f g j) h n:=by kernel_rfl
theorem jf.go:zO tbl N C (.of 134) [a0,a1] h n K0=IR.run jf.t22 C N (fnO jf.res K0) (zf jf.res K0) (jf.fr a0 a1 .u .u .u .u .u .u) h n:=yE (F:=jf) (by kernel_rfl) (λ_=>by kernel_rfl) (by kernel_rfl)
theorem jf.ret:zf jf.res K0 (jf.fr a b c d e f g j) h n=K0 c h n:=by kernel_rfl
end
end Go.Ev
