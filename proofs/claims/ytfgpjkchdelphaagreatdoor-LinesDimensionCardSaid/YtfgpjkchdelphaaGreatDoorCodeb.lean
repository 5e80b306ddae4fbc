import Derived.Test.YtfgpjkchdelphaaGreatDoorIrT
import Derived.KernelRfl
import Derived.Test.YtfgpjkchdelphaaGreatDoorEvD
set_option linter.unusedSimpArgs false
set_option linter.unusedVariables false
namespace Go.Ev
open Go Go.Proofs
set_option maxRecDepth 100000
section
variable {N:Nat} {C:Calls Prop} {K0:Kw Prop} {K R:Ks Prop} {h:T Blk} {nx:Pa} {A z B D E V Z x7 x8 x9 a d b c a0 a1 e q p f g i j w s l o u v y G H L M P Q U W s0 s1 s2 s3 s4 s5 s6 s7 s8 s9 s10 s11 s12 s13 s14 s15 s16 s17 s18 s19 s20 s21 s22 s23 s24 s25 s26 s27 s28 s29 s30 s31 s32 s33 s34 s35 s36 s37 s38 s39 s40 s41 s42 s43 s44 s45 s46 s47 s48 s49 s50 s51 s52 s53 s54 s55 s56 s57 s58 s59 a2 x36:AV} {O:fC Prop} {tm:T AV} {Kt:KTm} {r:List RO} {sT:List AV}
theorem F89.ah (X3:IR) (C:Calls Prop) (N:Nat) (O:fC Prop) (K:Ks Prop) (A z B D E V Z x7 x8 x9 a d b c:AV) (h:T Blk) (nx:Pa):IR.run (F89.g2 X3) C N O K (F89.fr A z B D E V Z x7 x8 x9 a d b c) h nx =
 IR.run X3 C N (O.blk 0 K) K (F89.fr A z B D E V Z x7 x8 x9 a d b c) h nx:=by kernel_rfl
theorem F89.tab:T.get none (.of 89) tbl=some F89:=by kernel_rfl
theorem F89.go:zQ tbl N C (.of 89) [a0,a1] h nx K0 =
 dh a0 h nx λv1 h2 n3=>zK 1 v1 λv4=>zI v4 h2 λv5=>zN 1 v5 a1 λv6=>zI v6 h2 λv7=>yR [.zb] h2 n3 λv8 h9 nA=>zT 1 v8 v7 h9 nA λvA hA nB=>zI v8 hA λvB=>sLen vB λvC=>za .eql .int vC (I 0) λvD=>yN vD (K0 (I 12) hA nB) (zI v8 hA λvE=>sLen vE λvF=>IR.run F89.b2 C N (fnO F89.res K0) (IR.run F89.b9 C N (fnO F89.res K0) (zi F89.res K0)) (F89.fr a0 a1 v1 (I 0) v8 .u .u .u vD vE vF (I 0) .u .u) hA nB):=by
 rw [jH F89.tab];kernel_rfl
theorem F89.e2:IR.run F89.b4 C N ((fnO F89.res K0).blk 0 K) R (F89.fr A z B D E V Z x7 x8 x9 a d b c) h nx =
 za .lss .int d a λv1=>yN v1 (zN 1 x9 d λv2=>zI v2 h λv3=>za .lss .int v3 (I 0) λv4=>sG v4 false (λk=>k v3) λv5=>sG v4 false (λk=>zK 0 B k) λv6=>sG v4 false (λk=>zI v6 h k) λv7=>sG v4 false (λk=>za .geq .int v5 v7 k) λv8=>yP v4 (.bool true) v8 λv9=>C.fn 88 (.of 88) [v9,(I 10)] h nx λvG hB nC=>za .gtr .int d (I 0) λvH=>sG vH true (λk=>zI E hB k) λvB=>sG vH true (λk=>k d) λvC=>sG vH true (λk=>za .sub .int vC (I 1) k) λvD=>sG vH true (λk=>zN 1 vB vD k) λvE=>sG vH true (λk=>zI vE hB k) λvF=>sG vH true (λk=>k v3) λvI=>sG vH true (λk=>za .geq .int vF vI k) λvJ=>yP vH vJ (.bool false) λvK=>C.fn 88 (.of 88) [vK,(I 11)] hB nC λvL hC nD=>jM 1 2 [(I 0)] [(0,1,vG),(1,1,vL)] hC nD λvM hD nE=>C.fn 86 (.of 86) [vM] hD nE λvN hE nF=>za .neq .int vN (I 0) λvO=>yN vO (K0 vN hE nF) (za .add .int d (I 1) λvP=>R (F89.fr A z B D E d v3 vN x8 x9 a vP v1 vO) hE nF)) (K (F89.fr A z B D E V Z x7 x8 x9 a d v1 c) h nx):=by kernel_rfl
theorem F89.L2 (Inv:Nat->AV->T Blk->Pa->Prop) {m:Nat} (hm:m<N) (hi:Inv m d h nx)
  (step:∀ (m:Nat) (z3 z5 z6 z7 zA zB zC:AV) (h:T Blk) (nx:Pa) (R:Ks Prop),Inv m zA h nx->(∀ (m':Nat) (w3 w5 w6 w7 wA wB wC:AV) (h':T Blk) (nx':Pa),m'<m->Inv m' wA h' nx'->R (F89.fr A z B w3 E w5 w6 w7 x8 x9 a wA wB wC) h' nx'=.ok True) ->
   (za .lss .int zA a λv1=>yN v1 (zN 1 x9 zA λv2=>zI v2 h λv3=>za .lss .int v3 (I 0) λv4=>sG v4 false (λk=>k v3) λv5=>sG v4 false (λk=>zK 0 B k) λv6=>sG v4 false (λk=>zI v6 h k) λv7=>sG v4 false (λk=>za .geq .int v5 v7 k) λv8=>yP v4 (.bool true) v8 λv9=>C.fn 88 (.of 88) [v9,(I 10)] h nx λvG hB nC=>za .gtr .int zA (I 0) λvH=>sG vH true (λk=>zI E hB k) λvB=>sG vH true (λk=>k zA) λvC=>sG vH true (λk=>za .sub .int vC (I 1) k) λvD=>sG vH true (λk=>zN 1 vB vD k) λvE=>sG vH true (λk=>zI vE hB k) λvF=>sG vH true (λk=>k v3) λvI=>sG vH true (λk=>za .geq .int vF vI k) λvJ=>yP vH vJ (.bool false) λvK=>C.fn 88 (.of 88) [vK,(I 11)] hB nC λvL hC nD=>jM 1 2 [(I 0)] [(0,1,vG),(1,1,vL)] hC nD λvM hD nE=>C.fn 86 (.of 86) [vM] hD nE λvN hE nF=>za .neq .int vN (I 0) λvO=>yN vO (K0 vN hE nF) (za .add .int zA (I 1) λvP=>R (F89.fr A z B z3 E zA v3 vN x8 x9 a vP v1 vO) hE nF)) (K (F89.fr A z B z3 E z5 z6 z7 x8 x9 a zA v1 zC) h nx))=.ok True) :
  IR.run F89.b2 C N (fnO F89.res K0) K (F89.fr A z B D E V Z x7 x8 x9 a d b c) h nx=.ok True:=by
 rw [F89.b2,F89.ah,F89.b3];refine yC (λm tm h nx=>∃ z3 z5 z6 z7 zA zB zC,tm=(F89.fr A z B z3 E z5 z6 z7 x8 x9 a zA zB zC)/\Inv m zA h nx) ?_ hm ⟨_,_,_,_,_,_,_,rfl,hi⟩;rintro m tm h nx R ⟨z3,z5,z6,z7,zA,zB,zC,rfl,hi⟩ hR;rw [F89.e2];exact step m z3 z5 z6 z7 zA zB zC h nx R hi λm' w3 w5 w6 w7 wA wB wC h' nx' hlt hi'=>hR m' _ h' nx' hlt ⟨_,_,_,_,_,_,_,rfl,hi'⟩
theorem F89.k9:IR.run F89.b9 C N (fnO F89.res K0) K (F89.fr A z B D E V Z x7 x8 x9 a d b c) h nx =
 zK 1 B λv1=>zI v1 h λv2=>xS 1 v2 none (some z) none λv3=>C.fn 175 (.of 175) [v3,(.fn 176 (.of 176) [E])] h nx λv4 h5 n6=>C.fn 88 (.of 88) [v4,(I 9)] h5 n6 λv7 h8 n9=>K0 v7 h8 n9:=by kernel_rfl
theorem F93.zx:IR.run F93.t0 C N O K (F93.fr A z B D E V Z x7 x8 x9 a d b c e q p f g i j w s l o u v y G H L M P Q U W) h nx =
 dh A h nx λv1 h2 n3=>yR [.zb,.zb] h2 n3 λv4 h5 n6=>K (F93.fr A v1 v4 D E V Z x7 x8 x9 a d b c e q p f g i j w s l o u v y G H L M P Q U W) h5 n6:=by kernel_rfl
theorem F93.zu:IR.run F93.t1 C N O K (F93.fr A z B D E V Z x7 x8 x9 a d b c e q p f g i j w s l o u v y G H L M P Q U W) h nx =
 zK 0 z λv1=>zI v1 h λv2=>K (F93.fr A z B v2 E V Z x7 x8 x9 a d b c e q p f g i j w s l o u v y G H L M P Q U W) h nx:=by kernel_rfl
theorem F93.je:IR.run F93.t2 C N O K (F93.fr A z B D E V Z x7 x8 x9 a d b c e q p f g i j w s l o u v y G H L M P Q U W) h nx =
 K (F93.fr A z B D .zb V Z x7 x8 x9 a d b c e q p f g i j w s l o u v y G H L M P Q U W) h nx:=by kernel_rfl
theorem F93.bq:IR.run F93.t3 C N O K (F93.fr A z B D E V Z x7 x8 x9 a d b c e q p f g i j w s l o u v y G H L M P Q U W) h nx =
 K (F93.fr A z B D E .zb Z x7 x8 x9 a d b c e q p f g i j w s l o u v y G H L M P Q U W) h nx:=by kernel_rfl
theorem F93.fD:IR.run F93.t4 C N O K (F93.fr A z B D E V Z x7 x8 x9 a d b c e q p f g i j w s l o u v y G H L M P Q U W) h nx =
 K (F93.fr A z B D E V (I 1) x7 x8 x9 a d b c e q p f g i j w s l o u v y G H L M P Q U W) h nx:=by kernel_rfl
theorem F93.mg:IR.run F93.t5 C N O K (F93.fr A z B D E V Z x7 x8 x9 a d b c e q p f g i j w s l o u v y G H L M P Q U W) h nx =
 zK 1 z λv1=>zI v1 h λv2=>sLen v2 λv3=>za .lss .int Z v3 λv4=>K (F93.fr A z B D E V Z x7 x8 x9 a d b c e q p v4 g i j w s l o u v y G H L M P Q U W) h nx:=by kernel_rfl
theorem F93.v17:Arg.ev (.t (.of 17)) ⟨(F93.fr A z B D E V Z x7 x8 x9 a d b c e q p f g i j w s l o u v y G H L M P Q U W),[]⟩=f:=by kernel_rfl
theorem F93.fQ:IR.run F93.t8 C N O K (F93.fr A z B D E V Z x7 x8 x9 a d b c e q p f g i j w s l o u v y G H L M P Q U W) h nx =
 zK 1 z λv1=>zI v1 h λv2=>zN 1 v2 Z λv3=>zI v3 h λv4=>C.fn 104 (.of 104) [D,v4] h nx λv5 h6 n7=>K (F93.fr A z B D E V Z v5 x8 x9 a d b c e q p f g i j w s l o u v y G H L M P Q U W) h6 n7:=by kernel_rfl
theorem F93.nu:IR.run F93.t9 C N O K (F93.fr A z B D E V Z x7 x8 x9 a d b c e q p f g i j w s l o u v y G H L M P Q U W) h nx =
 zK 1 z λv1=>zI v1 h λv2=>zN 1 v2 (I 0) λv3=>zI v3 h λv4=>C.fn 96 (.of 96) [(I 1)] h nx λv5 h6 n7=>(zI v3 h6 λvE=>zR vE v4 ((zN 1 v2 (I 0) λvD=>zR vD v3 ((zI v1 h6 λvC=>zR vC v2 ((zK 1 z λvB=>zR vB v1 (zR D D (zR x7 x7 (C.fn 104 (.of 104) [D,v4] h6 n7 λv8 h9 nA=>zR x7 x7 (C.fn 106 (.of 106) [x7,v5,v8] h9 nA λvA hA nB=>K (F93.fr A z B D E V Z x7 x8 x9 a d b c e q p f g i j w s l o u v y G H L M P Q U W) hA nB))))))))))):=by kernel_rfl
theorem F93.rH:IR.run F93.t10 C N O K (F93.fr A z B D E V Z x7 x8 x9 a d b c e q p f g i j w s l o u v y G H L M P Q U W) h nx =
 sLen V λv1=>K (F93.fr A z B D E V Z x7 x8 x9 a d b c e q p f V v1 (I 0) w s l o u v y G H L M P Q U W) h nx:=by kernel_rfl
theorem F93.mh:IR.run F93.t11 C N O K (F93.fr A z B D E V Z x7 x8 x9 a d b c e q p f g i j w s l o u v y G H L M P Q U W) h nx =
 za .lss .int j i λv1=>K (F93.fr A z B D E V Z x7 x8 x9 a d b c e q p f g i j v1 s l o u v y G H L M P Q U W) h nx:=by kernel_rfl
theorem F93.v21:Arg.ev (.t (.of 21)) ⟨(F93.fr A z B D E V Z x7 x8 x9 a d b c e q p f g i j w s l o u v y G H L M P Q U W),[]⟩=w:=by kernel_rfl
theorem F93.fK:IR.run F93.t13 C N O K (F93.fr A z B D E V Z x7 x8 x9 a d b c e q p f g i j w s l o u v y G H L M P Q U W) h nx =
 zN 1 g j λv1=>zI v1 h λv2=>K (F93.fr A z B D E V Z x7 j v2 a d b c e q p f g i j w s l o u v y G H L M P Q U W) h nx:=by kernel_rfl
theorem F93.rJ:IR.run F93.t14 C N O K (F93.fr A z B D E V Z x7 x8 x9 a d b c e q p f g i j w s l o u v y G H L M P Q U W) h nx =
 zN 4 x7 x9 λv1=>zG 4 v1 h λv2=>zN 1 E x8 λv3=>zI v3 h λv4=>C.fn 106 (.of 106) [x7,v2,v4] h nx λv5 h6 n7=>K (F93.fr A z B D E V Z x7 x8 x9 a d b c e q p f g i j w s l o u v y G H L M P Q U W) h6 n7:=by kernel_rfl
theorem F93.nV:IR.run F93.t17 C N O K (F93.fr A z B D E V Z x7 x8 x9 a d b c e q p f g i j w s l o u v y G H L M P Q U W) h nx =
 za .add .int j (I 1) λv1=>K (F93.fr A z B D E V Z x7 x8 x9 a d b c e q p f g i v1 w s l o u v y G H L M P Q U W) h nx:=by kernel_rfl
theorem F93.zwx (Inv:Nat->AV->T Blk->Pa->Prop) {m:Nat} (hm:m<N) (hi:Inv m j h nx)
  (step:∀ (m:Nat) (z8 z9 zD zE:AV) (h:T Blk) (nx:Pa) (R:Ks Prop),Inv m zD h nx->(∀ (m':Nat) (w8 w9 wD wE:AV) (h':T Blk) (nx':Pa),m'<m->Inv m' wD h' nx'->R (F93.fr A z B D E V Z x7 w8 w9 a d b c e q p f g i wD wE s l o u v y G H L M P Q U W) h' nx'=.ok True)->IR.run F93.t20 C N O R (F93.fr A z B D E V Z x7 z8 z9 a d b c e q p f g i zD zE s l o u v y G H L M P Q U W) h nx=.ok True) :
  IR.run F93.t21 C N O K (F93.fr A z B D E V Z x7 x8 x9 a d b c e q p f g i j w s l o u v y G H L M P Q U W) h nx=.ok True:=by
 rw [F93.t21];refine yC (λm tm h nx=>∃ z8 z9 zD zE,tm=(F93.fr A z B D E V Z x7 z8 z9 a d b c e q p f g i zD zE s l o u v y G H L M P Q U W)/\Inv m zD h nx) ?_ hm ⟨_,_,_,_,rfl,hi⟩;rintro m tm h nx R ⟨z8,z9,zD,zE,rfl,hi⟩ hR;exact step m z8 z9 zD zE h nx R hi λm' w8 w9 wD wE h' nx' hlt hi'=>hR m' _ h' nx' hlt ⟨_,_,_,_,rfl,hi'⟩
theorem F93.aQ:IR.run F93.t24 C N O K (F93.fr A z B D E V Z x7 x8 x9 a d b c e q p f g i j w s l o u v y G H L M P Q U W) h nx =
 za .sub .int D (I 1) λv1=>K (F93.fr A z B D E V Z x7 x8 x9 v1 d b c e q p f g i j w s l o u v y G H L M P Q U W) h nx:=by kernel_rfl
theorem F93.zlf:IR.run F93.t25 C N O K tm h nx=zS F93.zlj C ⟨tm,[]⟩ h nx (λtm h nx=>K tm.v h nx):=jC ..
theorem F93.zqb:zS (F93.zlk r) C ⟨(F93.fr A z B D E V Z x7 x8 x9 a d b c e q p f g i j w s l o u v y G H L M P Q U W),[]⟩ h nx Kt =
 za .geq .int a (I 0) λv1=>sG v1 true (λk=>k x7) λv2=>sG v1 true (λk=>k a) λv3=>sG v1 true (λk=>zN 4 v2 v3 k) λv4=>sG v1 true (λk=>zG 4 v4 h k) λv5=>sGW v1 true (λk=>C.fn 110 (.of 110) [v5] h nx k) h nx λv6 h7 n8=>zS r C ⟨(F93.fr A z B D E V Z x7 x8 x9 a d b c e q p f g i j w s l o u v y G H L M P Q U W),v6::v5::v4::v3::v2::v1::v1::a::[]⟩ h7 n8 Kt:=by kernel_rfl
theorem F93.zhz:zS (F93.zll []) C ⟨(F93.fr A z B D E V Z x7 x8 x9 a d b c e q p f g i j w s l o u v y G H L M P Q U W),s0::s1::s2::s3::s4::s5::sT⟩ h nx Kt =
 sG s5 true (λk=>za .eql .int s0 (I 0) k) λv1=>yP s5 v1 (.bool false) λv2=>Kt ⟨(F93.fr A z B D E V Z x7 x8 x9 a d b c e q p f g i j w v2 l o u v y G H L M P Q U W),v1::s0::s1::s2::s3::s4::s5::sT⟩ h nx:=by kernel_rfl
theorem F93.v22:Arg.ev (.t (.of 22)) ⟨(F93.fr A z B D E V Z x7 x8 x9 a d b c e q p f g i j w s l o u v y G H L M P Q U W),[]⟩=s:=by kernel_rfl
theorem F93.zdq:IR.run F93.t28 C N O K (F93.fr A z B D E V Z x7 x8 x9 a d b c e q p f g i j w s l o u v y G H L M P Q U W) h nx =
 za .sub .int a (I 1) λv1=>K (F93.fr A z B D E V Z x7 x8 x9 v1 d b c e q p f g i j w s l o u v y G H L M P Q U W) h nx:=by kernel_rfl
theorem F93.zk2 (Inv:Nat->AV->T Blk->Pa->Prop) {m:Nat} (hm:m<N) (hi:Inv m a h nx)
  (step:∀ (m:Nat) (zF zH:AV) (h:T Blk) (nx:Pa) (R:Ks Prop),Inv m zF h nx->(∀ (m':Nat) (wF wG:AV) (h':T Blk) (nx':Pa),m'<m->Inv m' wF h' nx'->R (F93.fr A z B D E V Z x7 x8 x9 wF d b c e q p f g i j w wG l o u v y G H L M P Q U W) h' nx'=.ok True)->IR.run F93.t30 C N O R (F93.fr A z B D E V Z x7 x8 x9 zF d b c e q p f g i j w zH l o u v y G H L M P Q U W) h nx=.ok True) :
  IR.run F93.t31 C N O K (F93.fr A z B D E V Z x7 x8 x9 a d b c e q p f g i j w s l o u v y G H L M P Q U W) h nx=.ok True:=by
 rw [F93.t31];refine yC (λm tm h nx=>∃ zF zH,tm=(F93.fr A z B D E V Z x7 x8 x9 zF d b c e q p f g i j w zH l o u v y G H L M P Q U W)/\Inv m zF h nx) ?_ hm ⟨_,_,rfl,hi⟩;rintro m tm h nx R ⟨zF,zH,rfl,hi⟩ hR;exact step m zF zH h nx R hi λm' wF wG h' nx' hlt hi'=>hR m' _ h' nx' hlt ⟨_,_,rfl,hi'⟩
theorem F93.zba:IR.run F93.t33 C N O K (F93.fr A z B D E V Z x7 x8 x9 a d b c e q p f g i j w s l o u v y G H L M P Q U W) h nx =
 za .lss .int a (I 0) λv1=>K (F93.fr A z B D E V Z x7 x8 x9 a d b c e q p f g i j w s v1 o u v y G H L M P Q U W) h nx:=by kernel_rfl
theorem F93.v23:Arg.ev (.t (.of 23)) ⟨(F93.fr A z B D E V Z x7 x8 x9 a d b c e q p f g i j w s l o u v y G H L M P Q U W),[]⟩=l:=by kernel_rfl
theorem F93.zlm:IR.run F93.t36 C N O K (F93.fr A z B D E V Z x7 x8 x9 a d b c e q p f g i j w s l o u v y G H L M P Q U W) h nx =
 zN 4 x7 a λv1=>zG 4 v1 h λv2=>C.fn 112 (.of 112) [v2] h nx λv3 h4 n5=>C.fn 111 (.of 111) [x7,v3] h4 n5 λv6 h7 n8=>K (F93.fr A z B D E V Z x7 x8 x9 a d b c e q p f g i j w s l o u v y G H L M P Q U W) h7 n8:=by kernel_rfl
theorem F93.zln:IR.run F93.t37 C N O K (F93.fr A z B D E V Z x7 x8 x9 a d b c e q p f g i j w s l o u v y G H L M P Q U W) h nx =
 sLen E λv1=>K (F93.fr A z B D E V Z x7 x8 x9 a d b c e q p f g i j w s l E v1 (I 0) y G H L M P Q U W) h nx:=by kernel_rfl
theorem F93.zwy:IR.run F93.t38 C N O K (F93.fr A z B D E V Z x7 x8 x9 a d b c e q p f g i j w s l o u v y G H L M P Q U W) h nx =
 za .lss .int v u λv1=>K (F93.fr A z B D E V Z x7 x8 x9 a d b c e q p f g i j w s l o u v v1 G H L M P Q U W) h nx:=by kernel_rfl
theorem F93.v27:Arg.ev (.t (.of 27)) ⟨(F93.fr A z B D E V Z x7 x8 x9 a d b c e q p f g i j w s l o u v y G H L M P Q U W),[]⟩=y:=by kernel_rfl
theorem F93.zwz:IR.run F93.t40 C N O K (F93.fr A z B D E V Z x7 x8 x9 a d b c e q p f g i j w s l o u v y G H L M P Q U W) h nx =
 zN 1 o v λv1=>zI v1 h λv2=>K (F93.fr A z B D E V Z x7 x8 x9 a v2 b c e q p f g i j w s l o u v y G H L M P Q U W) h nx:=by kernel_rfl
theorem F93.zlo:IR.run F93.t41 C N O K (F93.fr A z B D E V Z x7 x8 x9 a d b c e q p f g i j w s l o u v y G H L M P Q U W) h nx =
 zN 4 d a λv1=>zG 4 v1 h λv2=>C.fn 106 (.of 106) [d,v2,x7] h nx λv3 h4 n5=>K (F93.fr A z B D E V Z x7 x8 x9 a d b c e q p f g i j w s l o u v y G H L M P Q U W) h4 n5:=by kernel_rfl
theorem F93.zk8:IR.run F93.t44 C N O K (F93.fr A z B D E V Z x7 x8 x9 a d b c e q p f g i j w s l o u v y G H L M P Q U W) h nx =
 za .add .int v (I 1) λv1=>K (F93.fr A z B D E V Z x7 x8 x9 a d b c e q p f g i j w s l o u v1 y G H L M P Q U W) h nx:=by kernel_rfl
theorem F93.zw0 (Inv:Nat->AV->T Blk->Pa->Prop) {m:Nat} (hm:m<N) (hi:Inv m v h nx)
  (step:∀ (m:Nat) (zA zJ zL:AV) (h:T Blk) (nx:Pa) (R:Ks Prop),Inv m zJ h nx->(∀ (m':Nat) (wA wH wI:AV) (h':T Blk) (nx':Pa),m'<m->Inv m' wH h' nx'->R (F93.fr A z B D E V Z x7 x8 x9 a wA b c e q p f g i j w s l o u wH wI G H L M P Q U W) h' nx'=.ok True)->IR.run F93.t47 C N O R (F93.fr A z B D E V Z x7 x8 x9 a zA b c e q p f g i j w s l o u zJ zL G H L M P Q U W) h nx=.ok True) :
  IR.run F93.t48 C N O K (F93.fr A z B D E V Z x7 x8 x9 a d b c e q p f g i j w s l o u v y G H L M P Q U W) h nx=.ok True:=by
 rw [F93.t48];refine yC (λm tm h nx=>∃ zA zJ zL,tm=(F93.fr A z B D E V Z x7 x8 x9 a zA b c e q p f g i j w s l o u zJ zL G H L M P Q U W)/\Inv m zJ h nx) ?_ hm ⟨_,_,_,rfl,hi⟩;rintro m tm h nx R ⟨zA,zJ,zL,rfl,hi⟩ hR;exact step m zA zJ zL h nx R hi λm' wA wH wI h' nx' hlt hi'=>hR m' _ h' nx' hlt ⟨_,_,_,rfl,hi'⟩
theorem F93.zd0:IR.run F93.t51 C N O K (F93.fr A z B D E V Z x7 x8 x9 a d b c e q p f g i j w s l o u v y G H L M P Q U W) h nx =
 jM 1 1 [.zb] [(0,1,x7)] h nx λv1 h2 n3=>sK 1 24 E v1 h2 n3 λv4 h5 n6=>jM 1 1 [(I 0)] [(0,1,a)] h5 n6 λv7 h8 n9=>sK 1 8 V v7 h8 n9 λvG hB nC=>K (F93.fr A z B D v4 vG Z x7 x8 x9 a d b c e q p f g i j w s l o u v y G H L M P Q U W) hB nC:=by kernel_rfl
theorem F93.zh0:IR.run F93.t61 C N O K (F93.fr A z B D E V Z x7 x8 x9 a d b c e q p f g i j w s l o u v y G H L M P Q U W) h nx =
 za .add .int Z (I 1) λv1=>K (F93.fr A z B D E V v1 x7 x8 x9 a d b c e q p f g i j w s l o u v y G H L M P Q U W) h nx:=by kernel_rfl
theorem F93.zw1 (Inv:Nat->AV->AV->AV->T Blk->Pa->Prop) {m:Nat} (hm:m<N) (hi:Inv m E V Z h nx)
  (step:∀ (m:Nat) (z4 z5 z6 z7 z8 z9 zF zA zM zO zP zD zE zH zU zV zW zJ zL:AV) (h:T Blk) (nx:Pa) (R:Ks Prop),Inv m z4 z5 z6 h nx->(∀ (m':Nat) (w4 w5 w6 w7 w8 w9 wF wA wJ wK wL wD wE wG wM wN wO wH wI:AV) (h':T Blk) (nx':Pa),m'<m->Inv m' w4 w5 w6 h' nx'->R (F93.fr A z B D w4 w5 w6 w7 w8 w9 wF wA b c e q p wJ wK wL wD wE wG wM wN wO wH wI G H L M P Q U W) h' nx'=.ok True)->IR.run F93.t63 C N O R (F93.fr A z B D z4 z5 z6 z7 z8 z9 zF zA b c e q p zM zO zP zD zE zH zU zV zW zJ zL G H L M P Q U W) h nx=.ok True) :
  IR.run F93.t64 C N O K (F93.fr A z B D E V Z x7 x8 x9 a d b c e q p f g i j w s l o u v y G H L M P Q U W) h nx=.ok True:=by
 rw [F93.t64];refine yC (λm tm h nx=>∃ z4 z5 z6 z7 z8 z9 zF zA zM zO zP zD zE zH zU zV zW zJ zL,tm=(F93.fr A z B D z4 z5 z6 z7 z8 z9 zF zA b c e q p zM zO zP zD zE zH zU zV zW zJ zL G H L M P Q U W)/\Inv m z4 z5 z6 h nx) ?_ hm ⟨_,_,_,_,_,_,_,_,_,_,_,_,_,_,_,_,_,_,_,rfl,hi⟩;rintro m tm h nx R ⟨z4,z5,z6,z7,z8,z9,zF,zA,zM,zO,zP,zD,zE,zH,zU,zV,zW,zJ,zL,rfl,hi⟩ hR;exact step m z4 z5 z6 z7 z8 z9 zF zA zM zO zP zD zE zH zU zV zW zJ zL h nx R hi λm' w4 w5 w6 w7 w8 w9 wF wA wJ wK wL wD wE wG wM wN wO wH wI h' nx' hlt hi'=>hR m' _ h' nx' hlt ⟨_,_,_,_,_,_,_,_,_,_,_,_,_,_,_,_,_,_,_,rfl,hi'⟩
theorem F93.zw2:IR.run F93.t67 C N O K (F93.fr A z B D E V Z x7 x8 x9 a d b c e q p f g i j w s l o u v y G H L M P Q U W) h nx =
 yR [.zb,.zb] h nx λv1 h2 n3=>K (F93.fr A z B D E V Z x7 x8 x9 a d v1 c e q p f g i j w s l o u v y G H L M P Q U W) h2 n3:=by kernel_rfl
theorem F93.zw3:IR.run F93.t68 C N O K (F93.fr A z B D E V Z x7 x8 x9 a d b c e q p f g i j w s l o u v y G H L M P Q U W) h nx =
 K (F93.fr A z B D E V Z x7 x8 x9 a d b c e q p f g i j w s l o u v y D (I 0) L M P Q U W) h nx:=by kernel_rfl
theorem F93.zw4:IR.run F93.t69 C N O K (F93.fr A z B D E V Z x7 x8 x9 a d b c e q p f g i j w s l o u v y G H L M P Q U W) h nx =
 za .lss .int H G λv1=>K (F93.fr A z B D E V Z x7 x8 x9 a d b c e q p f g i j w s l o u v y G H v1 M P Q U W) h nx:=by kernel_rfl
theorem F93.v30:Arg.ev (.t (.of 30)) ⟨(F93.fr A z B D E V Z x7 x8 x9 a d b c e q p f g i j w s l o u v y G H L M P Q U W),[]⟩=L:=by kernel_rfl
theorem F93.zlp:IR.run F93.t71 C N O K (F93.fr A z B D E V Z x7 x8 x9 a d b c e q p f g i j w s l o u v y G H L M P Q U W) h nx =
 K (F93.fr A z B D E V Z x7 x8 x9 a d b H e q p f g i j w s l o u v y G H L M P Q U W) h nx:=by kernel_rfl
theorem F93.zw5:IR.run F93.t72 C N O K (F93.fr A z B D E V Z x7 x8 x9 a d b c e q p f g i j w s l o u v y G H L M P Q U W) h nx =
 C.fn 182 (.of 182) [V,c] h nx λv1 h2 n3=>K (F93.fr A z B D E V Z x7 x8 x9 a d b c e q p f g i j w s l o u v y G H L v1 P Q U W) h2 n3:=by kernel_rfl
theorem F93.v31:Arg.ev (.t (.of 31)) ⟨(F93.fr A z B D E V Z x7 x8 x9 a d b c e q p f g i j w s l o u v y G H L M P Q U W),[]⟩=M:=by kernel_rfl
theorem F93.zw6:IR.run F93.t75 C N O K (F93.fr A z B D E V Z x7 x8 x9 a d b c e q p f g i j w s l o u v y G H L M P Q U W) h nx =
 C.fn 105 (.of 105) [D] h nx λv1 h2 n3=>K (F93.fr A z B D E V Z x7 x8 x9 a d b c v1 q p f g i j w s l o u v y G H L M P Q U W) h2 n3:=by kernel_rfl
theorem F93.zw7:IR.run F93.t76 C N O K (F93.fr A z B D E V Z x7 x8 x9 a d b c e q p f g i j w s l o u v y G H L M P Q U W) h nx =
 C.fn 96 (.of 96) [(I 1)] h nx λv1 h2 n3=>zN 4 e c λv4=>zT 4 v4 v1 h2 n3 λv5 h6 n7=>K (F93.fr A z B D E V Z x7 x8 x9 a d b c e q p f g i j w s l o u v y G H L M P Q U W) h6 n7:=by kernel_rfl
theorem F93.zw8:IR.run F93.t77 C N O K (F93.fr A z B D E V Z x7 x8 x9 a d b c e q p f g i j w s l o u v y G H L M P Q U W) h nx =
 sLen V λv1=>K (F93.fr A z B D E V Z x7 x8 x9 a d b c e q p f g i j w s l o u v y G H L M V v1 (I 0) W) h nx:=by kernel_rfl
theorem F93.zw9:IR.run F93.t78 C N O K (F93.fr A z B D E V Z x7 x8 x9 a d b c e q p f g i j w s l o u v y G H L M P Q U W) h nx =
 za .lss .int U Q λv1=>K (F93.fr A z B D E V Z x7 x8 x9 a d b c e q p f g i j w s l o u v y G H L M P Q U v1) h nx:=by kernel_rfl
theorem F93.v35:Arg.ev (.t (.of 35)) ⟨(F93.fr A z B D E V Z x7 x8 x9 a d b c e q p f g i j w s l o u v y G H L M P Q U W),[]⟩=W:=by kernel_rfl
theorem F93.zxa:IR.run F93.t80 C N O K (F93.fr A z B D E V Z x7 x8 x9 a d b c e q p f g i j w s l o u v y G H L M P Q U W) h nx =
 zN 1 P U λv1=>zI v1 h λv2=>K (F93.fr A z B D E V Z x7 x8 x9 a d b c e U v2 f g i j w s l o u v y G H L M P Q U W) h nx:=by kernel_rfl
theorem F93.zxb:IR.run F93.t81 C N O K (F93.fr A z B D E V Z x7 x8 x9 a d b c e q p f g i j w s l o u v y G H L M P Q U W) h nx =
 zN 1 E q λv1=>zI v1 h λv2=>zN 4 v2 c λv3=>zG 4 v3 h λv4=>C.fn 107 (.of 107) [v4] h nx λv5 h6 n7=>zN 4 e p λv8=>zT 4 v8 v5 h6 n7 λv9 hF nG=>K (F93.fr A z B D E V Z x7 x8 x9 a d b c e q p f g i j w s l o u v y G H L M P Q U W) hF nG:=by kernel_rfl
theorem F93.zxc:IR.run F93.t84 C N O K (F93.fr A z B D E V Z x7 x8 x9 a d b c e q p f g i j w s l o u v y G H L M P Q U W) h nx =
 za .add .int U (I 1) λv1=>K (F93.fr A z B D E V Z x7 x8 x9 a d b c e q p f g i j w s l o u v y G H L M P Q v1 W) h nx:=by kernel_rfl
theorem F93.zxd (Inv:Nat->AV->T Blk->Pa->Prop) {m:Nat} (hm:m<N) (hi:Inv m U h nx)
  (step:∀ (m:Nat) (zX zY zZ z35:AV) (h:T Blk) (nx:Pa) (R:Ks Prop),Inv m zZ h nx->(∀ (m':Nat) (wP wQ wR wS:AV) (h':T Blk) (nx':Pa),m'<m->Inv m' wR h' nx'->R (F93.fr A z B D E V Z x7 x8 x9 a d b c e wP wQ f g i j w s l o u v y G H L M P Q wR wS) h' nx'=.ok True)->IR.run F93.t87 C N O R (F93.fr A z B D E V Z x7 x8 x9 a d b c e zX zY f g i j w s l o u v y G H L M P Q zZ z35) h nx=.ok True) :
  IR.run F93.t88 C N O K (F93.fr A z B D E V Z x7 x8 x9 a d b c e q p f g i j w s l o u v y G H L M P Q U W) h nx=.ok True:=by
 rw [F93.t88];refine yC (λm tm h nx=>∃ zX zY zZ z35,tm=(F93.fr A z B D E V Z x7 x8 x9 a d b c e zX zY f g i j w s l o u v y G H L M P Q zZ z35)/\Inv m zZ h nx) ?_ hm ⟨_,_,_,_,rfl,hi⟩;rintro m tm h nx R ⟨zX,zY,zZ,z35,rfl,hi⟩ hR;exact step m zX zY zZ z35 h nx R hi λm' wP wQ wR wS h' nx' hlt hi'=>hR m' _ h' nx' hlt ⟨_,_,_,_,rfl,hi'⟩
theorem F93.zxe:IR.run F93.t91 C N O K (F93.fr A z B D E V Z x7 x8 x9 a d b c e q p f g i j w s l o u v y G H L M P Q U W) h nx =
 zK 0 b λv1=>zI v1 h λv2=>sChk ((gI (bQ 1 [(I 0)]) [(0,1,c)]).isSome&&true) (zK 1 b λv3=>zI v3 h λv4=>sChk ((gI (bQ 1 [.zb]) [(0,1,e)]).isSome&&true) (jM 1 1 [(I 0)] [(0,1,c)] h nx λv5 h6 n7=>zR e e ((zI v3 h6 λvQ=>zR vQ v4 ((zK 1 b λvR=>zR vR v3 (zR c c ((zI v1 h6 λvS=>zR vS v2 ((zK 0 b λvT=>zR vT v1 (sK 1 8 v2 v5 h6 n7 λv8 h9 nA=>zR e e ((zI v3 h9 λvU=>zR vU v4 ((zK 1 b λvV=>zR vV v3 (zR c c ((zI v1 h9 λvP=>zR vP v2 ((zK 0 b λvO=>zR vO v1 (zK 0 b λvA=>jM 1 1 [.zb] [(0,1,e)] h9 nA λvW hG nH=>(zK 0 b λvX=>zR vX vA ((zI v3 hG λvY=>zR vY v4 ((zK 1 b λvN=>zR vN v3 (zR c c ((zI v1 hG λvZ=>zR vZ v2 ((zK 0 b λv26=>zR v26 v1 (sK 1 24 v4 vW hG nH λvC hH nI=>(zK 0 b λvM=>zR vM vA (zT 1 vA v8 hH nI λvF hI nJ=>zK 1 b λvK=>zT 1 vK vC hI nJ λvL hC nD=>K (F93.fr A z B D E V Z x7 x8 x9 a d b c e q p f g i j w s l o u v y G H L M P Q U W) hC nD))))))))))))))))))))))))))))))))))):=by kernel_rfl
theorem F93.zst:IR.run F93.t98 C N O K (F93.fr A z B D E V Z x7 x8 x9 a d b c e q p f g i j w s l o u v y G H L M P Q U W) h nx =
 za .add .int H (I 1) λv1=>K (F93.fr A z B D E V Z x7 x8 x9 a d b c e q p f g i j w s l o u v y G v1 L M P Q U W) h nx:=by kernel_rfl
theorem F93.zuq (Inv:Nat->AV->T Blk->Pa->Prop) {m:Nat} (hm:m<N) (hi:Inv m H h nx)
  (step:∀ (m:Nat) (zC z14 zX zY z29 z30 z31 z32 z33 zZ z35:AV) (h:T Blk) (nx:Pa) (R:Ks Prop),Inv m z29 h nx->(∀ (m':Nat) (wC wT wP wQ wU wV wW wX wY wR wS:AV) (h':T Blk) (nx':Pa),m'<m->Inv m' wU h' nx'->R (F93.fr A z B D E V Z x7 x8 x9 a d b wC wT wP wQ f g i j w s l o u v y G wU wV wW wX wY wR wS) h' nx'=.ok True)->IR.run F93.t101 C N O R (F93.fr A z B D E V Z x7 x8 x9 a d b zC z14 zX zY f g i j w s l o u v y G z29 z30 z31 z32 z33 zZ z35) h nx=.ok True) :
  IR.run F93.t102 C N O K (F93.fr A z B D E V Z x7 x8 x9 a d b c e q p f g i j w s l o u v y G H L M P Q U W) h nx=.ok True:=by
 rw [F93.t102];refine yC (λm tm h nx=>∃ zC z14 zX zY z29 z30 z31 z32 z33 zZ z35,tm=(F93.fr A z B D E V Z x7 x8 x9 a d b zC z14 zX zY f g i j w s l o u v y G z29 z30 z31 z32 z33 zZ z35)/\Inv m z29 h nx) ?_ hm ⟨_,_,_,_,_,_,_,_,_,_,_,rfl,hi⟩;rintro m tm h nx R ⟨zC,z14,zX,zY,z29,z30,z31,z32,z33,zZ,z35,rfl,hi⟩ hR;exact step m zC z14 zX zY z29 z30 z31 z32 z33 zZ z35 h nx R hi λm' wC wT wP wQ wU wV wW wX wY wR wS h' nx' hlt hi'=>hR m' _ h' nx' hlt ⟨_,_,_,_,_,_,_,_,_,_,_,rfl,hi'⟩
theorem F93.zur:IR.run F93.t105 C N O K (F93.fr A z B D E V Z x7 x8 x9 a d b c e q p f g i j w s l o u v y G H L M P Q U W) h nx =
 zG 2 b h λv1=>zT 2 B v1 h nx λv2 h3 n4=>K (F93.fr A z B D E V Z x7 x8 x9 a d b c e q p f g i j w s l o u v y G H L M P Q U W) h3 n4:=by kernel_rfl
theorem F93.go:zQ tbl N C (.of 93) [a0] h nx K0=IR.run F93.t113 C N (fnO F93.res K0) (zi F93.res K0) (F93.fr a0 .u .u .u .u .u .u .u .u .u .u .u .u .u .u .u .u .u .u .u .u .u .u .u .u .u .u .u .u .u .u .u .u .u .u .u) h nx:=yE (F:=F93) (by kernel_rfl) (λ_=>by kernel_rfl) (by kernel_rfl)
theorem F93.ret:zi F93.res K0 (F93.fr A z B D E V Z x7 x8 x9 a d b c e q p f g i j w s l o u v y G H L M P Q U W) h nx=zG 2 B h λv1=>K0 v1 h nx:=by kernel_rfl
theorem F44.zx:IR.run F44.t0 C N O K (F44.fr A z B D E V Z) h nx =
 dh A h nx λv1 h2 n3=>K (F44.fr A z v1 (.str []) E V Z) h2 n3:=by kernel_rfl
theorem F44.zu:IR.run F44.t1 C N O K (F44.fr A z B D E V Z) h nx =
 K (F44.fr A z B D (.str [48]) V Z) h nx:=by kernel_rfl
theorem F44.je:IR.run F44.t2 C N O K (F44.fr A z B D E V Z) h nx =
 K (F44.fr A z B D E (I 0) Z) h nx:=by kernel_rfl
theorem F44.bq:IR.run F44.t3 C N O K (F44.fr A z B D E V Z) h nx =
 zK 1 B λv1=>zI v1 h λv2=>zN 1 v2 (I 0) λv3=>zI v3 h λv4=>sLen v4 λv5=>za .lss .int V v5 λv6=>K (F44.fr A z B D E V v6) h nx:=by kernel_rfl
theorem F44.v6:Arg.ev (.t (.of 6)) ⟨(F44.fr A z B D E V Z),[]⟩=Z:=by kernel_rfl
theorem F44.qj:IR.run F44.t6 C N O K tm h nx=zS F44.r4_0 C ⟨tm,[]⟩ h nx (λtm h nx=>K tm.v h nx):=jC ..
theorem F44.zf4:zS (F44.zd1 r) C ⟨(F44.fr A z B D E V Z),[]⟩ h nx Kt =
 zK 1 B λv1=>zI v1 h λv2=>zN 1 v2 (I 0) λv3=>zI v3 h λv4=>zN 1 v4 V λv5=>zS r C ⟨(F44.fr A z B D E V Z),v5::V::v4::v3::v2::v1::z::E::[]⟩ h nx Kt:=by kernel_rfl
theorem F44.zf5:zS (F44.zd2 r) C ⟨(F44.fr A z B D E V Z),s0::s1::s2::s3::s4::s5::s6::s7::[]⟩ h nx Kt =
 zI s0 h λv1=>zN 1 s6 v1 λv2=>zI v2 h λv3=>C.fn 40 (.of 40) [s7,v3] h nx λv4 h5 n6=>zS r C ⟨(F44.fr A z B D E V Z),v4::v3::v2::v1::s0::s1::s2::s3::s4::s5::s6::s7::[]⟩ h5 n6 Kt:=by kernel_rfl
theorem F44.zf6:zS (F44.zd3 []) C ⟨(F44.fr A z B D E V Z),s0::sT⟩ h nx Kt =
 Kt ⟨(F44.fr A z B D s0 V Z),s0::sT⟩ h nx:=by kernel_rfl
theorem F44.fQ:IR.run F44.t8 C N O K (F44.fr A z B D E V Z) h nx =
 za .add .int V (I 1) λv1=>K (F44.fr A z B D E v1 Z) h nx:=by kernel_rfl
theorem F44.zk4 (Inv:Nat->AV->AV->T Blk->Pa->Prop) {m:Nat} (hm:m<N) (hi:Inv m E V h nx)
  (step:∀ (m:Nat) (z4 z5 z6:AV) (h:T Blk) (nx:Pa) (R:Ks Prop),Inv m z4 z5 h nx->(∀ (m':Nat) (w4 w5 w6:AV) (h':T Blk) (nx':Pa),m'<m->Inv m' w4 w5 h' nx'->R (F44.fr A z B D w4 w5 w6) h' nx'=.ok True)->IR.run F44.t10 C N O R (F44.fr A z B D z4 z5 z6) h nx=.ok True) :
  IR.run F44.t11 C N O K (F44.fr A z B D E V Z) h nx=.ok True:=by
 rw [F44.t11];refine yC (λm tm h nx=>∃ z4 z5 z6,tm=(F44.fr A z B D z4 z5 z6)/\Inv m z4 z5 h nx) ?_ hm ⟨_,_,_,rfl,hi⟩;rintro m tm h nx R ⟨z4,z5,z6,rfl,hi⟩ hR;exact step m z4 z5 z6 h nx R hi λm' w4 w5 w6 h' nx' hlt hi'=>hR m' _ h' nx' hlt ⟨_,_,_,rfl,hi'⟩
theorem F44.rJ:IR.run F44.t14 C N O K (F44.fr A z B D E V Z) h nx =
 K (F44.fr A z B E E V Z) h nx:=by kernel_rfl
theorem F44.go:zQ tbl N C (.of 44) [a0,a1] h nx K0=IR.run F44.t18 C N (fnO F44.res K0) (zi F44.res K0) (F44.fr a0 a1 .u .u .u .u .u) h nx:=yE (F:=F44) (by kernel_rfl) (λ_=>by kernel_rfl) (by kernel_rfl)
theorem F44.ret:zi F44.res K0 (F44.fr A z B D E V Z) h nx=K0 D h nx:=by kernel_rfl
theorem F35.zx:IR.run F35.t0 C N O K (F35.fr A z B D E) h nx =
 dh A h nx λv1 h2 n3=>K (F35.fr A z B v1 (.bool false)) h2 n3:=by kernel_rfl
theorem F35.zu:IR.run F35.t1 C N O K tm h nx=zS F35.nR C ⟨tm,[]⟩ h nx (λtm h nx=>K tm.v h nx):=jC ..
theorem F35.nS:zS (F35.fV r) C ⟨(F35.fr A z B D E),[]⟩ h nx Kt =
 zG 2 D h λv1=>C.fn 16 (.of 16) [v1,z,B] h nx λv2 h3 n4=>zS r C ⟨(F35.fr A z B D E),v2::B::z::v1::[]⟩ h3 n4 Kt:=by kernel_rfl
theorem F35.fT:zS (F35.fZ r) C ⟨(F35.fr A z B D E),s0::sT⟩ h nx Kt =
 sG s0 true (λk=>zG 2 D h k) λv1=>sGW s0 true (λk=>C.fn 19 (.of 19) [v1] h nx k) h nx λv2 h3 n4=>zS r C ⟨(F35.fr A z B D E),v2::v1::s0::s0::sT⟩ h3 n4 Kt:=by kernel_rfl
theorem F35.zce:zS (F35.zd4 r) C ⟨(F35.fr A z B D E),s0::s1::s2::sT⟩ h nx Kt =
 sG s2 true (λk=>za .eql .int s0 (I 0) k) λv1=>yP s2 v1 (.bool false) λv2=>sG v2 true (λk=>zK 0 D k) λv3=>sG v2 true (λk=>zI v3 h k) λv4=>sG v2 true (λk=>k z) λv5=>sG v2 true (λk=>za .leq .int v4 v5 k) λv6=>yP v2 v6 (.bool false) λv7=>zS r C ⟨(F35.fr A z B D E),v7::v6::v5::v4::v3::v2::v2::v1::s0::s1::s2::sT⟩ h nx Kt:=by kernel_rfl
theorem F35.aU:zS (F35.zd5 []) C ⟨(F35.fr A z B D E),s0::sT⟩ h nx Kt =
 Kt ⟨(F35.fr A z B D s0),s0::sT⟩ h nx:=by kernel_rfl
theorem F35.go:zQ tbl N C (.of 35) [a0,a1,a2] h nx K0=IR.run F35.t3 C N (fnO F35.res K0) (zi F35.res K0) (F35.fr a0 a1 a2 .u .u) h nx:=yE (F:=F35) (by kernel_rfl) (λ_=>by kernel_rfl) (by kernel_rfl)
theorem F35.ret:zi F35.res K0 (F35.fr A z B D E) h nx=K0 E h nx:=by kernel_rfl
theorem jv.zx:IR.run jv.t0 C N O K (jv.fr A z B D E) h nx =
 dh A h nx λv1 h2 n3=>K (jv.fr A v1 (I 0) D E) h2 n3:=by kernel_rfl
theorem jv.zu:IR.run jv.t1 C N O K (jv.fr A z B D E) h nx =
 zG 2 z h λv1=>C.fn 249 (.of 249) [v1] h nx λv2 h3 n4=>fJ 0 v2 λv5=>fJ 1 v2 λv6=>K (jv.fr A z B v6 E) h3 n4:=by kernel_rfl
theorem jv.je:IR.run jv.t2 C N O K (jv.fr A z B D E) h nx =
 sLen D λv1=>za .eql .int v1 (I 0) λv2=>K (jv.fr A z B D v2) h nx:=by kernel_rfl
theorem jv.bq:IR.run jv.t3 C N O K (jv.fr A z B D E) h nx =
 K (jv.fr A z (I 0) D E) h nx:=by kernel_rfl
theorem jv.v4:Arg.ev (.t (.of 4)) ⟨(jv.fr A z B D E),[]⟩=E:=by kernel_rfl
theorem jv.nk:IR.run jv.t7 C N O K tm h nx=zS jv.r4_0 C ⟨tm,[]⟩ h nx (λtm h nx=>K tm.v h nx):=jC ..
theorem jv.zf4:zS (jv.zd1 r) C ⟨(jv.fr A z B D E),[]⟩ h nx Kt =
 sLen D λv1=>za .sub .int v1 (I 1) λv2=>za .mul .int (I 64) v2 λv3=>sLen D λv4=>za .sub .int v4 (I 1) λv5=>zS r C ⟨(jv.fr A z B D E),v5::v4::D::D::v3::v2::v1::D::[]⟩ h nx Kt:=by kernel_rfl
theorem jv.zf5:zS (jv.zd2 r) C ⟨(jv.fr A z B D E),s0::s1::s2::s3::sT⟩ h nx Kt =
 zN 1 s3 s0 λv1=>zI v1 h λv2=>C.fn 312 (.of 312) [v2] h nx λv3 h4 n5=>zS r C ⟨(jv.fr A z B D E),v3::v2::v1::s0::s1::s2::s3::sT⟩ h4 n5 Kt:=by kernel_rfl
theorem jv.zf6:zS (jv.zd3 []) C ⟨(jv.fr A z B D E),s0::s1::s2::s3::s4::s5::s6::s7::sT⟩ h nx Kt =
 za .add .int s7 s0 λv1=>Kt ⟨(jv.fr A z v1 D E),v1::s0::s1::s2::s3::s4::s5::s6::s7::sT⟩ h nx:=by kernel_rfl
theorem jv.go:zQ tbl N C (.of 285) [a0] h nx K0=IR.run jv.t11 C N (fnO jv.res K0) (zi jv.res K0) (jv.fr a0 .u .u .u .u) h nx:=yE (F:=jv) (by kernel_rfl) (λ_=>by kernel_rfl) (by kernel_rfl)
theorem jv.ret:zi jv.res K0 (jv.fr A z B D E) h nx=K0 B h nx:=by kernel_rfl
theorem ul.zx:IR.run ul.t0 C N O K (ul.fr A z B) h nx =
 dh A h nx λv1 h2 n3=>K (ul.fr A v1 (.bool false)) h2 n3:=by kernel_rfl
theorem ul.zu:IR.run ul.t1 C N O K tm h nx=zS ul.nR C ⟨tm,[]⟩ h nx (λtm h nx=>K tm.v h nx):=jC ..
theorem ul.nS:zS (ul.fV r) C ⟨(ul.fr A z B),[]⟩ h nx Kt =
 zG 2 z h λv1=>C.fn 285 (.of 285) [v1] h nx λv2 h3 n4=>zS r C ⟨(ul.fr A z B),v2::v1::[]⟩ h3 n4 Kt:=by kernel_rfl
theorem ul.fT:zS (ul.fZ r) C ⟨(ul.fr A z B),s0::sT⟩ h nx Kt =
 za .gtr .int s0 (I 1800) λv1=>sG v1 true (λk=>zG 2 z h k) λv2=>sGW v1 true (λk=>C.fn 188 (.of 188) [v2] h nx k) h nx λv3 h4 n5=>zS r C ⟨(ul.fr A z B),v3::v2::v1::v1::s0::sT⟩ h4 n5 Kt:=by kernel_rfl
theorem ul.zce:zS (ul.zd4 r) C ⟨(ul.fr A z B),s0::s1::s2::sT⟩ h nx Kt =
 sGW s2 true (λk=>C.fn 286 (.of 286) [s0,(.str [45])] h nx k) h nx λv1 h2 n3=>zS r C ⟨(ul.fr A z B),v1::s0::s1::s2::sT⟩ h2 n3 Kt:=by kernel_rfl
theorem ul.aU:zS (ul.zd5 []) C ⟨(ul.fr A z B),s0::s1::s2::s3::sT⟩ h nx Kt =
 sG s3 true (λk=>uJ s0 k) λv1=>sG s3 true (λk=>za .gtr .int v1 (I 600) k) λv2=>yP s3 v2 (.bool false) λv3=>Kt ⟨(ul.fr A z v3),v3::v2::v1::s0::s1::s2::s3::sT⟩ h nx:=by kernel_rfl
theorem ul.go:zQ tbl N C (.of 246) [a0] h nx K0=IR.run ul.t3 C N (fnO ul.res K0) (zi ul.res K0) (ul.fr a0 .u .u) h nx:=yE (F:=ul) (by kernel_rfl) (λ_=>by kernel_rfl) (by kernel_rfl)
theorem ul.ret:zi ul.res K0 (ul.fr A z B) h nx=K0 B h nx:=by kernel_rfl
theorem cO.zx:IR.run cO.t0 C N O K (cO.fr A z B) h nx =
 dh A h nx λv1 h2 n3=>K (cO.fr A v1 (.bool false)) h2 n3:=by kernel_rfl
theorem cO.zu:IR.run cO.t1 C N O K (cO.fr A z B) h nx =
 zK 0 z λv1=>zG 2 v1 h λv2=>C.fn 246 (.of 246) [v2] h nx λv3 h4 n5=>sG v3 false (λk=>zK 2 z k) λv6=>sG v3 false (λk=>zG 2 v6 h4 k) λv7=>sGW v3 false (λk=>C.fn 246 (.of 246) [v7] h4 n5 k) h4 n5 λv8 h9 nA=>yP v3 (.bool true) v8 λvA=>K (cO.fr A z vA) h9 nA:=by kernel_rfl
theorem cO.go:zQ tbl N C (.of 180) [a0] h nx K0=IR.run cO.t3 C N (fnO cO.res K0) (zi cO.res K0) (cO.fr a0 .u .u) h nx:=yE (F:=cO) (by kernel_rfl) (λ_=>by kernel_rfl) (by kernel_rfl)
theorem cO.ret:zi cO.res K0 (cO.fr A z B) h nx=K0 B h nx:=by kernel_rfl
theorem yt.zx:IR.run yt.t0 C N O K (yt.fr A z B D E V Z x7) h nx =
 K (yt.fr A z (I 0) D E V Z x7) h nx:=by kernel_rfl
theorem yt.zu:IR.run yt.t1 C N O K (yt.fr A z B D E V Z x7) h nx =
 sLen A λv1=>K (yt.fr A z B D v1 (I 0) Z x7) h nx:=by kernel_rfl
theorem yt.je:IR.run yt.t2 C N O K (yt.fr A z B D E V Z x7) h nx =
 za .lss .int V E λv1=>K (yt.fr A z B D E V v1 x7) h nx:=by kernel_rfl
theorem yt.v6:Arg.ev (.t (.of 6)) ⟨(yt.fr A z B D E V Z x7),[]⟩=Z:=by kernel_rfl
theorem yt.fD:IR.run yt.t4 C N O K (yt.fr A z B D E V Z x7) h nx =
 K (yt.fr A z B V E V Z x7) h nx:=by kernel_rfl
theorem yt.mg:IR.run yt.t5 C N O K (yt.fr A z B D E V Z x7) h nx =
 zN 4 A D λv1=>zG 4 v1 h λv2=>aT C z [v2] h nx λv3 h4 n5=>K (yt.fr A z B D E V Z v3) h4 n5:=by kernel_rfl
theorem yt.qj:IR.run yt.t6 C N O K (yt.fr A z B D E V Z x7) h nx =
 K (yt.fr A z D D E V Z x7) h nx:=by kernel_rfl
theorem yt.v7:Arg.ev (.t (.of 7)) ⟨(yt.fr A z B D E V Z x7),[]⟩=x7:=by kernel_rfl
theorem yt.fB:IR.run yt.t12 C N O K (yt.fr A z B D E V Z x7) h nx =
 za .add .int V (I 1) λv1=>K (yt.fr A z B D E v1 Z x7) h nx:=by kernel_rfl
theorem yt.tq (Inv:Nat->AV->T Blk->Pa->Prop) {m:Nat} (hm:m<N) (hi:Inv m V h nx)
  (step:∀ (m:Nat) (z2 z3 z5 z6 z7:AV) (h:T Blk) (nx:Pa) (R:Ks Prop),Inv m z5 h nx->(∀ (m':Nat) (w2 w3 w5 w6 w7:AV) (h':T Blk) (nx':Pa),m'<m->Inv m' w5 h' nx'->R (yt.fr A z w2 w3 E w5 w6 w7) h' nx'=.ok True)->IR.run yt.t15 C N O R (yt.fr A z z2 z3 E z5 z6 z7) h nx=.ok True) :
  IR.run yt.t16 C N O K (yt.fr A z B D E V Z x7) h nx=.ok True:=by
 rw [yt.t16];refine yC (λm tm h nx=>∃ z2 z3 z5 z6 z7,tm=(yt.fr A z z2 z3 E z5 z6 z7)/\Inv m z5 h nx) ?_ hm ⟨_,_,_,_,_,rfl,hi⟩;rintro m tm h nx R ⟨z2,z3,z5,z6,z7,rfl,hi⟩ hR;exact step m z2 z3 z5 z6 z7 h nx R hi λm' w2 w3 w5 w6 w7 h' nx' hlt hi'=>hR m' _ h' nx' hlt ⟨_,_,_,_,_,rfl,hi'⟩
theorem yt.nQ:IR.run yt.t19 C N O K (yt.fr A z B D E V Z x7) h nx =
 K (yt.fr A z (I (-1)) D E V Z x7) h nx:=by kernel_rfl
theorem yt.go:zQ tbl N C (.of 108) [a0,a1] h nx K0=IR.run yt.t22 C N (fnO yt.res K0) (zi yt.res K0) (yt.fr a0 a1 .u .u .u .u .u .u) h nx:=yE (F:=yt) (by kernel_rfl) (λ_=>by kernel_rfl) (by kernel_rfl)
theorem yt.ret:zi yt.res K0 (yt.fr A z B D E V Z x7) h nx=K0 B h nx:=by kernel_rfl
theorem cZ.zx:IR.run cZ.t0 C N O K (cZ.fr A z B) h nx =
 K (cZ.fr A z (.bool false)) h nx:=by kernel_rfl
theorem cZ.zu:IR.run cZ.t1 C N O K (cZ.fr A z B) h nx =
 C.fn 108 (.of 108) [A,z] h nx λv1 h2 n3=>za .geq .int v1 (I 0) λv4=>K (cZ.fr A z v4) h2 n3:=by kernel_rfl
theorem cZ.go:zQ tbl N C (.of 179) [a0,a1] h nx K0=IR.run cZ.t3 C N (fnO cZ.res K0) (zi cZ.res K0) (cZ.fr a0 a1 .u) h nx:=yE (F:=cZ) (by kernel_rfl) (λ_=>by kernel_rfl) (by kernel_rfl)
theorem cZ.ret:zi cZ.res K0 (cZ.fr A z B) h nx=K0 B h nx:=by kernel_rfl
theorem F92.zx:IR.run F92.t0 C N O K (F92.fr A z B D E V Z x7 x8 x9) h nx =
 K (F92.fr A .zb (I 0) D E V Z x7 x8 x9) h nx:=by kernel_rfl
theorem F92.zu:IR.run F92.t1 C N O K (F92.fr A z B D E V Z x7 x8 x9) h nx =
 K (F92.fr A z B .zb E V Z x7 x8 x9) h nx:=by kernel_rfl
theorem F92.je:IR.run F92.t2 C N O K (F92.fr A z B D E V Z x7 x8 x9) h nx =
 sLen A λv1=>K (F92.fr A z B D E A v1 (I 0) x8 x9) h nx:=by kernel_rfl
theorem F92.bq:IR.run F92.t3 C N O K (F92.fr A z B D E V Z x7 x8 x9) h nx =
 za .lss .int x7 Z λv1=>K (F92.fr A z B D E V Z x7 v1 x9) h nx:=by kernel_rfl
theorem F92.v8:Arg.ev (.t (.of 8)) ⟨(F92.fr A z B D E V Z x7 x8 x9),[]⟩=x8:=by kernel_rfl
theorem F92.mg:IR.run F92.t5 C N O K (F92.fr A z B D E V Z x7 x8 x9) h nx =
 zN 1 V x7 λv1=>zI v1 h λv2=>K (F92.fr A z B D v2 V Z x7 x8 x9) h nx:=by kernel_rfl
theorem F92.qj:IR.run F92.t6 C N O K (F92.fr A z B D E V Z x7 x8 x9) h nx =
 C.fn 179 (.of 179) [E,(.fn 180 (.of 180) [])] h nx λv1 h2 n3=>K (F92.fr A z B D E V Z x7 x8 v1) h2 n3:=by kernel_rfl
theorem F92.v9:Arg.ev (.t (.of 9)) ⟨(F92.fr A z B D E V Z x7 x8 x9),[]⟩=x9:=by kernel_rfl
theorem F92.mh:IR.run F92.t11 C N O K (F92.fr A z B D E V Z x7 x8 x9) h nx =
 C.fn 181 (.of 181) [E] h nx λv1 h2 n3=>jM 1 1 [.zb] [(0,1,v1)] h2 n3 λv4 h5 n6=>sK 1 24 D v4 h5 n6 λv7 h8 n9=>K (F92.fr A z B v7 E V Z x7 x8 x9) h8 n9:=by kernel_rfl
theorem F92.tZ:IR.run F92.t15 C N O K (F92.fr A z B D E V Z x7 x8 x9) h nx =
 za .add .int x7 (I 1) λv1=>K (F92.fr A z B D E V Z v1 x8 x9) h nx:=by kernel_rfl
theorem F92.zxf (Inv:Nat->AV->AV->T Blk->Pa->Prop) {m:Nat} (hm:m<N) (hi:Inv m D x7 h nx)
  (step:∀ (m:Nat) (z1 z2 z3 z4 z7 z8 z9:AV) (h:T Blk) (nx:Pa) (R:Ks Prop),Inv m z3 z7 h nx->(∀ (m':Nat) (w1 w2 w3 w4 w7 w8 w9:AV) (h':T Blk) (nx':Pa),m'<m->Inv m' w3 w7 h' nx'->R (F92.fr A w1 w2 w3 w4 V Z w7 w8 w9) h' nx'=.ok True)->IR.run F92.t18 C N O R (F92.fr A z1 z2 z3 z4 V Z z7 z8 z9) h nx=.ok True) :
  IR.run F92.t19 C N O K (F92.fr A z B D E V Z x7 x8 x9) h nx=.ok True:=by
 rw [F92.t19];refine yC (λm tm h nx=>∃ z1 z2 z3 z4 z7 z8 z9,tm=(F92.fr A z1 z2 z3 z4 V Z z7 z8 z9)/\Inv m z3 z7 h nx) ?_ hm ⟨_,_,_,_,_,_,_,rfl,hi⟩;rintro m tm h nx R ⟨z1,z2,z3,z4,z7,z8,z9,rfl,hi⟩ hR;exact step m z1 z2 z3 z4 z7 z8 z9 h nx R hi λm' w1 w2 w3 w4 w7 w8 w9 h' nx' hlt hi'=>hR m' _ h' nx' hlt ⟨_,_,_,_,_,_,_,rfl,hi'⟩
theorem F92.sZ:IR.run F92.t22 C N O K (F92.fr A z B D E V Z x7 x8 x9) h nx =
 K (F92.fr A D (I 0) D E V Z x7 x8 x9) h nx:=by kernel_rfl
theorem F92.go:zQ tbl N C (.of 92) [a0] h nx K0=IR.run F92.t26 C N (fnO F92.res K0) (zi F92.res K0) (F92.fr a0 .u .u .u .u .u .u .u .u .u) h nx:=yE (F:=F92) (by kernel_rfl) (λ_=>by kernel_rfl) (by kernel_rfl)
theorem F92.ret:zi F92.res K0 (F92.fr A z B D E V Z x7 x8 x9) h nx=K0 (.tup [z,B]) h nx:=by kernel_rfl
theorem F23.zx:IR.run F23.t0 C N O K (F23.fr A z B D E V) h nx =
 dh A h nx λv1 h2 n3=>K (F23.fr A v1 .zb (I 0) E V) h2 n3:=by kernel_rfl
theorem F23.zu:IR.run F23.t1 C N O K (F23.fr A z B D E V) h nx =
 zG 2 z h λv1=>C.fn 18 (.of 18) [v1] h nx λv2 h3 n4=>K (F23.fr A z B D v2 V) h3 n4:=by kernel_rfl
theorem F23.je:IR.run F23.t2 C N O K (F23.fr A z B D E V) h nx =
 za .neq .int E (I 0) λv1=>K (F23.fr A z B D E v1) h nx:=by kernel_rfl
theorem F23.v5:Arg.ev (.t (.of 5)) ⟨(F23.fr A z B D E V),[]⟩=V:=by kernel_rfl
theorem F23.fQ:IR.run F23.t8 C N O K (F23.fr A z B D E V) h nx =
 zG 2 z h λv1=>C.fn 93 (.of 93) [v1] h nx λv2 h3 n4=>zd6 1 none v2 λv5=>C.fn 92 (.of 92) [v5] h3 n4 λv6 h7 n8=>fJ 0 v6 λv9=>fJ 1 v6 λvG=>K (F23.fr A z v9 vG E V) h7 n8:=by kernel_rfl
theorem F23.go:zQ tbl N C (.of 23) [a0] h nx K0=IR.run F23.t11 C N (fnO F23.res K0) (zi F23.res K0) (F23.fr a0 .u .u .u .u .u) h nx:=yE (F:=F23) (by kernel_rfl) (λ_=>by kernel_rfl) (by kernel_rfl)
theorem F23.ret:zi F23.res K0 (F23.fr A z B D E V) h nx=K0 (.tup [B,D]) h nx:=by kernel_rfl
theorem fe.zx:IR.run fe.t0 C N O K (fe.fr A z B) h nx =
 dh A h nx λv1 h2 n3=>K (fe.fr A v1 (.bool false)) h2 n3:=by kernel_rfl
theorem fe.zu:IR.run fe.t1 C N O K (fe.fr A z B) h nx =
 zG 4 z h λv1=>C.fn 110 (.of 110) [v1] h nx λv2 h3 n4=>za .neq .int v2 (I 0) λv5=>K (fe.fr A z v5) h3 n4:=by kernel_rfl
theorem fe.go:zQ tbl N C (.of 109) [a0] h nx K0=IR.run fe.t3 C N (fnO fe.res K0) (zi fe.res K0) (fe.fr a0 .u .u) h nx:=yE (F:=fe) (by kernel_rfl) (λ_=>by kernel_rfl) (by kernel_rfl)
theorem fe.ret:zi fe.res K0 (fe.fr A z B) h nx=K0 B h nx:=by kernel_rfl
theorem F31.zx:IR.run F31.t0 C N O K (F31.fr A z B D E V Z x7 x8 x9 a d b c e q p f g i j w s l o u v y) h nx =
 dh A h nx λv1 h2 n3=>K (F31.fr A v1 .zb (I 0) E V Z x7 x8 x9 a d b c e q p f g i j w s l o u v y) h2 n3:=by kernel_rfl
theorem F31.zu:IR.run F31.t1 C N O K (F31.fr A z B D E V Z x7 x8 x9 a d b c e q p f g i j w s l o u v y) h nx =
 zG 2 z h λv1=>C.fn 18 (.of 18) [v1] h nx λv2 h3 n4=>K (F31.fr A z B D v2 V Z x7 x8 x9 a d b c e q p f g i j w s l o u v y) h3 n4:=by kernel_rfl
theorem F31.je:IR.run F31.t2 C N O K (F31.fr A z B D E V Z x7 x8 x9 a d b c e q p f g i j w s l o u v y) h nx =
 za .neq .int E (I 0) λv1=>K (F31.fr A z B D E V Z x7 x8 x9 a d b c e q p v1 g i j w s l o u v y) h nx:=by kernel_rfl
theorem F31.v17:Arg.ev (.t (.of 17)) ⟨(F31.fr A z B D E V Z x7 x8 x9 a d b c e q p f g i j w s l o u v y),[]⟩=f:=by kernel_rfl
theorem F31.fQ:IR.run F31.t8 C N O K (F31.fr A z B D E V Z x7 x8 x9 a d b c e q p f g i j w s l o u v y) h nx =
 K (F31.fr A z B D E .zb Z x7 x8 x9 a d b c e q p f g i j w s l o u v y) h nx:=by kernel_rfl
theorem F31.nu:IR.run F31.t9 C N O K (F31.fr A z B D E V Z x7 x8 x9 a d b c e q p f g i j w s l o u v y) h nx =
 K (F31.fr A z B D E V .zb x7 x8 x9 a d b c e q p f g i j w s l o u v y) h nx:=by kernel_rfl
theorem F31.rH:IR.run F31.t10 C N O K (F31.fr A z B D E V Z x7 x8 x9 a d b c e q p f g i j w s l o u v y) h nx =
 zK 1 z λv1=>zI v1 h λv2=>sLen v2 λv3=>K (F31.fr A z B D E V Z x7 x8 x9 a d b c e q p f v2 v3 (I 0) w s l o u v y) h nx:=by kernel_rfl
theorem F31.mh:IR.run F31.t11 C N O K (F31.fr A z B D E V Z x7 x8 x9 a d b c e q p f g i j w s l o u v y) h nx =
 za .lss .int j i λv1=>K (F31.fr A z B D E V Z x7 x8 x9 a d b c e q p f g i j v1 s l o u v y) h nx:=by kernel_rfl
theorem F31.v21:Arg.ev (.t (.of 21)) ⟨(F31.fr A z B D E V Z x7 x8 x9 a d b c e q p f g i j w s l o u v y),[]⟩=w:=by kernel_rfl
theorem F31.fK:IR.run F31.t13 C N O K (F31.fr A z B D E V Z x7 x8 x9 a d b c e q p f g i j w s l o u v y) h nx =
 zN 1 g j λv1=>zI v1 h λv2=>K (F31.fr A z B D E V Z j v2 x9 a d b c e q p f g i j w s l o u v y) h nx:=by kernel_rfl
theorem F31.rJ:IR.run F31.t14 C N O K (F31.fr A z B D E V Z x7 x8 x9 a d b c e q p f g i j w s l o u v y) h nx =
 zK 0 z λv1=>zI v1 h λv2=>zK 1 z λv3=>zI v3 h λv4=>sLen v4 λv5=>C.fn 104 (.of 104) [v2,x8] h nx λv6 h7 n8=>(sLen v4 λvB=>zR vB v5 ((zI v3 h7 λvH=>zR vH v4 ((zK 1 z λvW=>zR vW v3 (C.fn 105 (.of 105) [v5] h7 n8 λv9 hF nG=>K (F31.fr A z B D E V Z x7 x8 v6 v9 d b c e q p f g i j w s l o u v y) hF nG)))))):=by kernel_rfl
theorem F31.tZ:IR.run F31.t15 C N O K (F31.fr A z B D E V Z x7 x8 x9 a d b c e q p f g i j w s l o u v y) h nx =
 sLen V λv1=>K (F31.fr A z B D E V Z x7 x8 x9 a d b c e q p f g i j w V v1 (I 0) u v y) h nx:=by kernel_rfl
theorem F31.sJ:IR.run F31.t16 C N O K (F31.fr A z B D E V Z x7 x8 x9 a d b c e q p f g i j w s l o u v y) h nx =
 za .lss .int o l λv1=>K (F31.fr A z B D E V Z x7 x8 x9 a d b c e q p f g i j w s l o v1 v y) h nx:=by kernel_rfl
theorem F31.v25:Arg.ev (.t (.of 25)) ⟨(F31.fr A z B D E V Z x7 x8 x9 a d b c e q p f g i j w s l o u v y),[]⟩=u:=by kernel_rfl
theorem F31.aP:IR.run F31.t18 C N O K (F31.fr A z B D E V Z x7 x8 x9 a d b c e q p f g i j w s l o u v y) h nx =
 zN 3 s o λv1=>zG 3 v1 h λv2=>yR [.zb,.zb,(I 0)] h nx λv3 h4 n5=>zT 3 v3 v2 h4 n5 λv6 h7 n8=>K (F31.fr A z B D E V Z x7 x8 x9 a v3 b c e q p f g i j w s l o u v y) h7 n8:=by kernel_rfl
theorem F31.nQ:IR.run F31.t19 C N O K (F31.fr A z B D E V Z x7 x8 x9 a d b c e q p f g i j w s l o u v y) h nx =
 zK 2 d λv1=>zI v1 h λv2=>zN 4 x9 v2 λv3=>zG 4 v3 h λv4=>yR [(I 0),.zb,(I 0),.zb] h nx λv5 h6 n7=>zT 4 v5 v4 h6 n7 λv8 h9 nA=>K (F31.fr A z B D E V Z x7 x8 x9 a d v5 c e q p f g i j w s l o u v y) h9 nA:=by kernel_rfl
theorem F31.zdr:IR.run F31.t20 C N O K (F31.fr A z B D E V Z x7 x8 x9 a d b c e q p f g i j w s l o u v y) h nx =
 zG 4 b h λv1=>zK 0 d λv2=>zI v2 h λv3=>C.fn 106 (.of 106) [x9,v1,v3] h nx λv4 h5 n6=>K (F31.fr A z B D E V Z x7 x8 x9 a d b c e q p f g i j w s l o u v y) h5 n6:=by kernel_rfl
theorem F31.zk1:IR.run F31.t21 C N O K (F31.fr A z B D E V Z x7 x8 x9 a d b c e q p f g i j w s l o u v y) h nx =
 zG 4 b h λv1=>zK 1 d λv2=>zI v2 h λv3=>C.fn 107 (.of 107) [v1] h nx λv4 h5 n6=>(zI v2 h5 λvA=>zR vA v3 ((zK 1 d λvG=>zR vG v2 (zR a a (C.fn 106 (.of 106) [a,v4,v3] h5 n6 λv7 h8 n9=>K (F31.fr A z B D E V Z x7 x8 x9 a d b c e q p f g i j w s l o u v y) h8 n9))))):=by kernel_rfl
theorem F31.zxg:IR.run F31.t26 C N O K (F31.fr A z B D E V Z x7 x8 x9 a d b c e q p f g i j w s l o u v y) h nx =
 za .add .int o (I 1) λv1=>K (F31.fr A z B D E V Z x7 x8 x9 a d b c e q p f g i j w s l v1 u v y) h nx:=by kernel_rfl
theorem F31.zxh (Inv:Nat->AV->T Blk->Pa->Prop) {m:Nat} (hm:m<N) (hi:Inv m o h nx)
  (step:∀ (m:Nat) (zA zB zV zW:AV) (h:T Blk) (nx:Pa) (R:Ks Prop),Inv m zV h nx->(∀ (m':Nat) (wA wB wN wO:AV) (h':T Blk) (nx':Pa),m'<m->Inv m' wN h' nx'->R (F31.fr A z B D E V Z x7 x8 x9 a wA wB c e q p f g i j w s l wN wO v y) h' nx'=.ok True)->IR.run F31.t29 C N O R (F31.fr A z B D E V Z x7 x8 x9 a zA zB c e q p f g i j w s l zV zW v y) h nx=.ok True) :
  IR.run F31.t30 C N O K (F31.fr A z B D E V Z x7 x8 x9 a d b c e q p f g i j w s l o u v y) h nx=.ok True:=by
 rw [F31.t30];refine yC (λm tm h nx=>∃ zA zB zV zW,tm=(F31.fr A z B D E V Z x7 x8 x9 a zA zB c e q p f g i j w s l zV zW v y)/\Inv m zV h nx) ?_ hm ⟨_,_,_,_,rfl,hi⟩;rintro m tm h nx R ⟨zA,zB,zV,zW,rfl,hi⟩ hR;exact step m zA zB zV zW h nx R hi λm' wA wB wN wO h' nx' hlt hi'=>hR m' _ h' nx' hlt ⟨_,_,_,_,rfl,hi'⟩
theorem F31.zba:IR.run F31.t33 C N O K (F31.fr A z B D E V Z x7 x8 x9 a d b c e q p f g i j w s l o u v y) h nx =
 C.fn 108 (.of 108) [x9,(.fn 109 (.of 109) [])] h nx λv1 h2 n3=>K (F31.fr A z B D E V Z x7 x8 x9 a d b v1 e q p f g i j w s l o u v y) h2 n3:=by kernel_rfl
theorem F31.af:IR.run F31.t34 C N O K (F31.fr A z B D E V Z x7 x8 x9 a d b c e q p f g i j w s l o u v y) h nx =
 za .lss .int c (I 0) λv1=>K (F31.fr A z B D E V Z x7 x8 x9 a d b c e q p f g i j w s l o u v1 y) h nx:=by kernel_rfl
theorem F31.zxi:IR.run F31.t35 C N O K (F31.fr A z B D E V Z x7 x8 x9 a d b c e q p f g i j w s l o u v y) h nx =
 xS 4 a none (some x7) (some x7) λv1=>jM 1 1 [.zb] [(0,1,v1)] h nx λv2 h3 n4=>C.fn 92 (.of 92) [v2] h3 n4 λv5 h6 n7=>fJ 0 v5 λv8=>fJ 1 v5 λv9=>K (F31.fr A z B D E V Z x7 x8 x9 a d b c v8 v9 p f g i j w s l o u v y) h6 n7:=by kernel_rfl
theorem F31.zlm:IR.run F31.t36 C N O K (F31.fr A z B D E V Z x7 x8 x9 a d b c e q p f g i j w s l o u v y) h nx =
 za .neq .int q (I 0) λv1=>K (F31.fr A z B D E V Z x7 x8 x9 a d b c e q p f g i j w s l o u v v1) h nx:=by kernel_rfl
theorem F31.v27:Arg.ev (.t (.of 27)) ⟨(F31.fr A z B D E V Z x7 x8 x9 a d b c e q p f g i j w s l o u v y),[]⟩=y:=by kernel_rfl
theorem F31.zlo:IR.run F31.t41 C N O K (F31.fr A z B D E V Z x7 x8 x9 a d b c e q p f g i j w s l o u v y) h nx =
 zN 1 e (I 0) λv1=>zI v1 h λv2=>gF [(I 0),.zb] [(0,1,x7),(1,1,v2)] λv3=>jM 2 1 [(I 0),.zb] [(0,2,v3)] h nx λv4 h5 n6=>zd7 C 2 32 Z v4 h5 n6 λv7 h8 n9=>K (F31.fr A z B D E V v7 x7 x8 x9 a d b c e q p f g i j w s l o u v y) h8 n9:=by kernel_rfl
theorem F31.v26:Arg.ev (.t (.of 26)) ⟨(F31.fr A z B D E V Z x7 x8 x9 a d b c e q p f g i j w s l o u v y),[]⟩=v:=by kernel_rfl
theorem F31.zxj:IR.run F31.t47 C N O K (F31.fr A z B D E V Z x7 x8 x9 a d b c e q p f g i j w s l o u v y) h nx =
 C.fn 96 (.of 96) [(I (-1))] h nx λv1 h2 n3=>C.fn 111 (.of 111) [a,v1] h2 n3 λv4 h5 n6=>K (F31.fr A z B D E V Z x7 x8 x9 a d b c e q p f g i j w s l o u v y) h5 n6:=by kernel_rfl
theorem F31.zxk:IR.run F31.t48 C N O K (F31.fr A z B D E V Z x7 x8 x9 a d b c e q p f g i j w s l o u v y) h nx =
 C.fn 96 (.of 96) [(I 1)] h nx λv1 h2 n3=>zN 4 a x7 λv4=>zT 4 v4 v1 h2 n3 λv5 h6 n7=>K (F31.fr A z B D E V Z x7 x8 x9 a d b c e q p f g i j w s l o u v y) h6 n7:=by kernel_rfl
theorem F31.zxl:IR.run F31.t49 C N O K (F31.fr A z B D E V Z x7 x8 x9 a d b c e q p f g i j w s l o u v y) h nx =
 zN 4 x9 c λv1=>zG 4 v1 h λv2=>C.fn 112 (.of 112) [v2] h nx λv3 h4 n5=>yR [(I 0),.zb,(I 0),.zb] h4 n5 λv6 h7 n8=>zT 4 v6 v3 h7 n8 λv9 hF nG=>K (F31.fr A z B D E V Z x7 x8 x9 a d b c e q v6 f g i j w s l o u v y) hF nG:=by kernel_rfl
theorem F31.zxm:IR.run F31.t50 C N O K (F31.fr A z B D E V Z x7 x8 x9 a d b c e q p f g i j w s l o u v y) h nx =
 zG 4 p h λv1=>C.fn 111 (.of 111) [x9,v1] h nx λv2 h3 n4=>K (F31.fr A z B D E V Z x7 x8 x9 a d b c e q p f g i j w s l o u v y) h3 n4:=by kernel_rfl
theorem F31.zd0:IR.run F31.t51 C N O K (F31.fr A z B D E V Z x7 x8 x9 a d b c e q p f g i j w s l o u v y) h nx =
 zG 4 p h λv1=>C.fn 111 (.of 111) [a,v1] h nx λv2 h3 n4=>K (F31.fr A z B D E V Z x7 x8 x9 a d b c e q p f g i j w s l o u v y) h3 n4:=by kernel_rfl
theorem F31.zdw:IR.run F31.t52 C N O K (F31.fr A z B D E V Z x7 x8 x9 a d b c e q p f g i j w s l o u v y) h nx =
 gF [.zb,.zb,(I 0)] [(0,1,x9),(1,1,a),(2,1,c)] λv1=>jM 3 1 [.zb,.zb,(I 0)] [(0,3,v1)] h nx λv2 h3 n4=>sK 3 56 V v2 h3 n4 λv5 h6 n7=>K (F31.fr A z B D E v5 Z x7 x8 x9 a d b c e q p f g i j w s l o u v y) h6 n7:=by kernel_rfl
theorem F31.zsu:IR.run F31.t64 C N O K (F31.fr A z B D E V Z x7 x8 x9 a d b c e q p f g i j w s l o u v y) h nx =
 za .add .int j (I 1) λv1=>K (F31.fr A z B D E V Z x7 x8 x9 a d b c e q p f g i v1 w s l o u v y) h nx:=by kernel_rfl
theorem F31.zxn (Inv:Nat->AV->AV->AV->T Blk->Pa->Prop) {m:Nat} (hm:m<N) (hi:Inv m V Z j h nx)
  (step:∀ (m:Nat) (z2 z3 z5 z6 z7 z8 z9 zF zA zB zC z14 zX zY zD zE zH zU zV zW zJ zL:AV) (h:T Blk) (nx:Pa) (R:Ks Prop),Inv m z5 z6 zD h nx->(∀ (m':Nat) (w2 w3 w5 w6 w7 w8 w9 wF wA wB wC wT wP wQ wD wE wG wM wN wO wH wI:AV) (h':T Blk) (nx':Pa),m'<m->Inv m' w5 w6 wD h' nx'->R (F31.fr A z w2 w3 E w5 w6 w7 w8 w9 wF wA wB wC wT wP wQ f g i wD wE wG wM wN wO wH wI) h' nx'=.ok True)->IR.run F31.t67 C N O R (F31.fr A z z2 z3 E z5 z6 z7 z8 z9 zF zA zB zC z14 zX zY f g i zD zE zH zU zV zW zJ zL) h nx=.ok True) :
  IR.run F31.t68 C N O K (F31.fr A z B D E V Z x7 x8 x9 a d b c e q p f g i j w s l o u v y) h nx=.ok True:=by
 rw [F31.t68];refine yC (λm tm h nx=>∃ z2 z3 z5 z6 z7 z8 z9 zF zA zB zC z14 zX zY zD zE zH zU zV zW zJ zL,tm=(F31.fr A z z2 z3 E z5 z6 z7 z8 z9 zF zA zB zC z14 zX zY f g i zD zE zH zU zV zW zJ zL)/\Inv m z5 z6 zD h nx) ?_ hm ⟨_,_,_,_,_,_,_,_,_,_,_,_,_,_,_,_,_,_,_,_,_,_,rfl,hi⟩;rintro m tm h nx R ⟨z2,z3,z5,z6,z7,z8,z9,zF,zA,zB,zC,z14,zX,zY,zD,zE,zH,zU,zV,zW,zJ,zL,rfl,hi⟩ hR;exact step m z2 z3 z5 z6 z7 z8 z9 zF zA zB zC z14 zX zY zD zE zH zU zV zW zJ zL h nx R hi λm' w2 w3 w5 w6 w7 w8 w9 wF wA wB wC wT wP wQ wD wE wG wM wN wO wH wI h' nx' hlt hi'=>hR m' _ h' nx' hlt ⟨_,_,_,_,_,_,_,_,_,_,_,_,_,_,_,_,_,_,_,_,_,_,rfl,hi'⟩
theorem F31.zlp:IR.run F31.t71 C N O K (F31.fr A z B D E V Z x7 x8 x9 a d b c e q p f g i j w s l o u v y) h nx =
 K (F31.fr A z Z (I 0) E V Z x7 x8 x9 a d b c e q p f g i j w s l o u v y) h nx:=by kernel_rfl
theorem F31.go:zQ tbl N C (.of 31) [a0] h nx K0=IR.run F31.t77 C N (fnO F31.res K0) (zi F31.res K0) (F31.fr a0 .u .u .u .u .u .u .u .u .u .u .u .u .u .u .u .u .u .u .u .u .u .u .u .u .u .u .u) h nx:=yE (F:=F31) (by kernel_rfl) (λ_=>by kernel_rfl) (by kernel_rfl)
theorem F31.ret:zi F31.res K0 (F31.fr A z B D E V Z x7 x8 x9 a d b c e q p f g i j w s l o u v y) h nx=K0 (.tup [B,D]) h nx:=by kernel_rfl
theorem F45.zx:IR.run F45.t0 C N O K (F45.fr A z B D E V Z x7 x8) h nx =
 K (F45.fr A z (.bool false) D E V Z x7 x8) h nx:=by kernel_rfl
theorem F45.zu:IR.run F45.t1 C N O K (F45.fr A z B D E V Z x7 x8) h nx =
 sLen A λv1=>K (F45.fr A z B D A v1 (I 0) x7 x8) h nx:=by kernel_rfl
theorem F45.je:IR.run F45.t2 C N O K (F45.fr A z B D E V Z x7 x8) h nx =
 za .lss .int Z V λv1=>K (F45.fr A z B D E V Z v1 x8) h nx:=by kernel_rfl
theorem F45.v7:Arg.ev (.t (.of 7)) ⟨(F45.fr A z B D E V Z x7 x8),[]⟩=x7:=by kernel_rfl
theorem F45.fD:IR.run F45.t4 C N O K (F45.fr A z B D E V Z x7 x8) h nx =
 zN 1 E Z λv1=>zI v1 h λv2=>K (F45.fr A z B v2 E V Z x7 x8) h nx:=by kernel_rfl
theorem F45.mg:IR.run F45.t5 C N O K (F45.fr A z B D E V Z x7 x8) h nx =
 za .eql .int D z λv1=>K (F45.fr A z B D E V Z x7 v1) h nx:=by kernel_rfl
theorem F45.qj:IR.run F45.t6 C N O K (F45.fr A z B D E V Z x7 x8) h nx =
 K (F45.fr A z (.bool true) D E V Z x7 x8) h nx:=by kernel_rfl
theorem F45.v8:Arg.ev (.t (.of 8)) ⟨(F45.fr A z B D E V Z x7 x8),[]⟩=x8:=by kernel_rfl
theorem F45.fB:IR.run F45.t12 C N O K (F45.fr A z B D E V Z x7 x8) h nx =
 za .add .int Z (I 1) λv1=>K (F45.fr A z B D E V v1 x7 x8) h nx:=by kernel_rfl
theorem F45.tq (Inv:Nat->AV->T Blk->Pa->Prop) {m:Nat} (hm:m<N) (hi:Inv m Z h nx)
  (step:∀ (m:Nat) (z2 z3 z6 z7 z8:AV) (h:T Blk) (nx:Pa) (R:Ks Prop),Inv m z6 h nx->(∀ (m':Nat) (w2 w3 w6 w7 w8:AV) (h':T Blk) (nx':Pa),m'<m->Inv m' w6 h' nx'->R (F45.fr A z w2 w3 E V w6 w7 w8) h' nx'=.ok True)->IR.run F45.t15 C N O R (F45.fr A z z2 z3 E V z6 z7 z8) h nx=.ok True) :
  IR.run F45.t16 C N O K (F45.fr A z B D E V Z x7 x8) h nx=.ok True:=by
 rw [F45.t16];refine yC (λm tm h nx=>∃ z2 z3 z6 z7 z8,tm=(F45.fr A z z2 z3 E V z6 z7 z8)/\Inv m z6 h nx) ?_ hm ⟨_,_,_,_,_,rfl,hi⟩;rintro m tm h nx R ⟨z2,z3,z6,z7,z8,rfl,hi⟩ hR;exact step m z2 z3 z6 z7 z8 h nx R hi λm' w2 w3 w6 w7 w8 h' nx' hlt hi'=>hR m' _ h' nx' hlt ⟨_,_,_,_,_,rfl,hi'⟩
theorem F45.nQ:IR.run F45.t19 C N O K (F45.fr A z B D E V Z x7 x8) h nx =
 K (F45.fr A z (.bool false) D E V Z x7 x8) h nx:=by kernel_rfl
theorem F45.go:zQ tbl N C (.of 45) [a0,a1] h nx K0=IR.run F45.t22 C N (fnO F45.res K0) (zi F45.res K0) (F45.fr a0 a1 .u .u .u .u .u .u .u) h nx:=yE (F:=F45) (by kernel_rfl) (λ_=>by kernel_rfl) (by kernel_rfl)
theorem F45.ret:zi F45.res K0 (F45.fr A z B D E V Z x7 x8) h nx=K0 B h nx:=by kernel_rfl
theorem F8.zx:IR.run F8.t0 C N O K (F8.fr A z B D E V Z x7 x8 x9 a d b c e q p f g i j w s l o u v y G H L M P Q U W x36) h nx =
 dh A h nx λv1 h2 n3=>K (F8.fr A v1 (.bool false) D E V Z x7 x8 x9 a d b c e q p f g i j w s l o u v y G H L M P Q U W x36) h2 n3:=by kernel_rfl
theorem F8.zu:IR.run F8.t1 C N O K (F8.fr A z B D E V Z x7 x8 x9 a d b c e q p f g i j w s l o u v y G H L M P Q U W x36) h nx =
 zG 2 z h λv1=>C.fn 35 (.of 35) [v1,(I 16),(I 12)] h nx λv2 h3 n4=>sNot v2 λv5=>K (F8.fr A z B D E V Z x7 x8 x9 a d b c v5 q p f g i j w s l o u v y G H L M P Q U W x36) h3 n4:=by kernel_rfl
theorem F8.je:IR.run F8.t2 C N O K (F8.fr A z B D E V Z x7 x8 x9 a d b c e q p f g i j w s l o u v y G H L M P Q U W x36) h nx =
 C.fn 17 (.of 17) [] h nx λv1 h2 n3=>K (F8.fr A z v1 D E V Z x7 x8 x9 a d b c e q p f g i j w s l o u v y G H L M P Q U W x36) h2 n3:=by kernel_rfl
theorem F8.v14:Arg.ev (.t (.of 14)) ⟨(F8.fr A z B D E V Z x7 x8 x9 a d b c e q p f g i j w s l o u v y G H L M P Q U W x36),[]⟩=e:=by kernel_rfl
theorem F8.qj:IR.run F8.t6 C N O K (F8.fr A z B D E V Z x7 x8 x9 a d b c e q p f g i j w s l o u v y G H L M P Q U W x36) h nx =
 zG 2 z h λv1=>C.fn 23 (.of 23) [v1] h nx λv2 h3 n4=>fJ 0 v2 λv5=>fJ 1 v2 λv6=>K (F8.fr A z B v5 v6 V Z x7 x8 x9 a d b c e q p f g i j w s l o u v y G H L M P Q U W x36) h3 n4:=by kernel_rfl
theorem F8.nk:IR.run F8.t7 C N O K (F8.fr A z B D E V Z x7 x8 x9 a d b c e q p f g i j w s l o u v y G H L M P Q U W x36) h nx =
 zG 2 z h λv1=>C.fn 31 (.of 31) [v1] h nx λv2 h3 n4=>fJ 0 v2 λv5=>fJ 1 v2 λv6=>K (F8.fr A z B D E v5 v6 x7 x8 x9 a d b c e q p f g i j w s l o u v y G H L M P Q U W x36) h3 n4:=by kernel_rfl
theorem F8.fQ:IR.run F8.t8 C N O K tm h nx=zS F8.r5_0 C ⟨tm,[]⟩ h nx (λtm h nx=>K tm.v h nx):=jC ..
theorem F8.zf2:zS (F8.zdy r) C ⟨(F8.fr A z B D E V Z x7 x8 x9 a d b c e q p f g i j w s l o u v y G H L M P Q U W x36),[]⟩ h nx Kt =
 za .neq .int E (I 0) λv1=>sG v1 false (λk=>k Z) λv2=>sG v1 false (λk=>za .neq .int v2 (I 0) k) λv3=>yP v1 (.bool true) v3 λv4=>sG v4 false (λk=>k V) λv5=>zS r C ⟨(F8.fr A z B D E V Z x7 x8 x9 a d b c e q p f g i j w s l o u v y G H L M P Q U W x36),v5::v4::v4::v3::v2::v1::v1::E::[]⟩ h nx Kt:=by kernel_rfl
theorem F8.zf3:zS (F8.zdz []) C ⟨(F8.fr A z B D E V Z x7 x8 x9 a d b c e q p f g i j w s l o u v y G H L M P Q U W x36),s0::s1::sT⟩ h nx Kt =
 sG s1 false (λk=>sLen s0 k) λv1=>sG s1 false (λk=>zK 1 z k) λv2=>sG s1 false (λk=>zI v2 h k) λv3=>sG s1 false (λk=>sLen v3 k) λv4=>sG s1 false (λk=>za .gtr .int v1 v4 k) λv5=>yP s1 (.bool true) v5 λv6=>Kt ⟨(F8.fr A z B D E V Z x7 x8 x9 a d b c e v6 p f g i j w s l o u v y G H L M P Q U W x36),v5::v4::v3::v2::v1::s0::s1::sT⟩ h nx:=by kernel_rfl
theorem F8.v15:Arg.ev (.t (.of 15)) ⟨(F8.fr A z B D E V Z x7 x8 x9 a d b c e q p f g i j w s l o u v y G H L M P Q U W x36),[]⟩=q:=by kernel_rfl
theorem F8.fK:IR.run F8.t13 C N O K (F8.fr A z B D E V Z x7 x8 x9 a d b c e q p f g i j w s l o u v y G H L M P Q U W x36) h nx =
 K (F8.fr A z B D E V Z (I 0) x8 x9 a d b c e q p f g i j w s l o u v y G H L M P Q U W x36) h nx:=by kernel_rfl
theorem F8.rJ:IR.run F8.t14 C N O K (F8.fr A z B D E V Z x7 x8 x9 a d b c e q p f g i j w s l o u v y G H L M P Q U W x36) h nx =
 sLen D λv1=>K (F8.fr A z B D E V Z x7 x8 x9 a d b c e q D v1 (I 0) i j w s l o u v y G H L M P Q U W x36) h nx:=by kernel_rfl
theorem F8.tZ:IR.run F8.t15 C N O K (F8.fr A z B D E V Z x7 x8 x9 a d b c e q p f g i j w s l o u v y G H L M P Q U W x36) h nx =
 za .lss .int g f λv1=>K (F8.fr A z B D E V Z x7 x8 x9 a d b c e q p f g v1 j w s l o u v y G H L M P Q U W x36) h nx:=by kernel_rfl
theorem F8.v19:Arg.ev (.t (.of 19)) ⟨(F8.fr A z B D E V Z x7 x8 x9 a d b c e q p f g i j w s l o u v y G H L M P Q U W x36),[]⟩=i:=by kernel_rfl
theorem F8.nV:IR.run F8.t17 C N O K (F8.fr A z B D E V Z x7 x8 x9 a d b c e q p f g i j w s l o u v y G H L M P Q U W x36) h nx =
 zN 1 p g λv1=>zI v1 h λv2=>K (F8.fr A z B D E V Z x7 v2 x9 a d b c e q p f g i j w s l o u v y G H L M P Q U W x36) h nx:=by kernel_rfl
theorem F8.aP:IR.run F8.t18 C N O K (F8.fr A z B D E V Z x7 x8 x9 a d b c e q p f g i j w s l o u v y G H L M P Q U W x36) h nx =
 sLen x8 λv1=>zK 0 z λv2=>zI v2 h λv3=>za .neq .int v1 v3 λv4=>sG v4 false (λk=>k x8) λv5=>sGW v4 false (λk=>C.fn 37 (.of 37) [v5] h nx k) h nx λv6 h7 n8=>sG v4 false (λk=>za .neq .int v6 (I 0) k) λv9=>yP v4 (.bool true) v9 λvG=>K (F8.fr A z B D E V Z x7 x8 x9 a d b c e q p f g i vG w s l o u v y G H L M P Q U W x36) h7 n8:=by kernel_rfl
theorem F8.v20:Arg.ev (.t (.of 20)) ⟨(F8.fr A z B D E V Z x7 x8 x9 a d b c e q p f g i j w s l o u v y G H L M P Q U W x36),[]⟩=j:=by kernel_rfl
theorem F8.zdu:IR.run F8.t23 C N O K tm h nx=zS F8.zlq C ⟨tm,[]⟩ h nx (λtm h nx=>K tm.v h nx):=jC ..
theorem F8.zqc:zS (F8.zlr r) C ⟨(F8.fr A z B D E V Z x7 x8 x9 a d b c e q p f g i j w s l o u v y G H L M P Q U W x36),[]⟩ h nx Kt =
 zK 1 z λv1=>zI v1 h λv2=>sLen v2 λv3=>za .gtr .int v3 (I 0) λv4=>sG v4 true (λk=>zG 2 z h k) λv5=>sG v4 true (λk=>k x8) λv6=>sGW v4 true (λk=>C.fn 44 (.of 44) [v5,v6] h nx k) h nx λv7 h8 n9=>zS r C ⟨(F8.fr A z B D E V Z x7 x8 x9 a d b c e q p f g i j w s l o u v y G H L M P Q U W x36),v7::v6::v5::v4::v4::v3::v2::v1::[]⟩ h8 n9 Kt:=by kernel_rfl
theorem F8.zh1:zS (F8.zls r) C ⟨(F8.fr A z B D E V Z x7 x8 x9 a d b c e q p f g i j w s l o u v y G H L M P Q U W x36),s0::s1::s2::s3::sT⟩ h nx Kt =
 sGW s3 true (λk=>C.fn 39 (.of 39) [s0] h nx k) h nx λv1 h2 n3=>zS r C ⟨(F8.fr A z B D E V Z x7 x8 x9 a d b c e q p f g i j w s l o u v y G H L M P Q U W x36),v1::s0::s1::s2::s3::sT⟩ h2 n3 Kt:=by kernel_rfl
theorem F8.zh2:zS (F8.zlt []) C ⟨(F8.fr A z B D E V Z x7 x8 x9 a d b c e q p f g i j w s l o u v y G H L M P Q U W x36),s0::s1::s2::s3::s4::sT⟩ h nx Kt =
 sG s4 true (λk=>sNot s0 k) λv1=>yP s4 v1 (.bool false) λv2=>Kt ⟨(F8.fr A z B D E V Z x7 x8 x9 a d b c e q p f g i j v2 s l o u v y G H L M P Q U W x36),v1::s0::s1::s2::s3::s4::sT⟩ h nx:=by kernel_rfl
theorem F8.aQ:IR.run F8.t24 C N O K (F8.fr A z B D E V Z x7 x8 x9 a d b c e q p f g i j w s l o u v y G H L M P Q U W x36) h nx =
 K (F8.fr A z B D E V Z (I 1) x8 x9 a d b c e q p f g i j w s l o u v y G H L M P Q U W x36) h nx:=by kernel_rfl
theorem F8.v21:Arg.ev (.t (.of 21)) ⟨(F8.fr A z B D E V Z x7 x8 x9 a d b c e q p f g i j w s l o u v y G H L M P Q U W x36),[]⟩=w:=by kernel_rfl
theorem F8.zdv:IR.run F8.t30 C N O K (F8.fr A z B D E V Z x7 x8 x9 a d b c e q p f g i j w s l o u v y G H L M P Q U W x36) h nx =
 za .add .int g (I 1) λv1=>K (F8.fr A z B D E V Z x7 x8 x9 a d b c e q p f v1 i j w s l o u v y G H L M P Q U W x36) h nx:=by kernel_rfl
theorem F8.zxo (Inv:Nat->AV->AV->T Blk->Pa->Prop) {m:Nat} (hm:m<N) (hi:Inv m x7 g h nx)
  (step:∀ (m:Nat) (z2 z7 z8 zO zP zD zE:AV) (h:T Blk) (nx:Pa) (R:Ks Prop),Inv m z7 zO h nx->(∀ (m':Nat) (w2 w7 w8 wK wL wD wE:AV) (h':T Blk) (nx':Pa),m'<m->Inv m' w7 wK h' nx'->R (F8.fr A z w2 D E V Z w7 w8 x9 a d b c e q p f wK wL wD wE s l o u v y G H L M P Q U W x36) h' nx'=.ok True)->IR.run F8.t33 C N O R (F8.fr A z z2 D E V Z z7 z8 x9 a d b c e q p f zO zP zD zE s l o u v y G H L M P Q U W x36) h nx=.ok True) :
  IR.run F8.t34 C N O K (F8.fr A z B D E V Z x7 x8 x9 a d b c e q p f g i j w s l o u v y G H L M P Q U W x36) h nx=.ok True:=by
 rw [F8.t34];refine yC (λm tm h nx=>∃ z2 z7 z8 zO zP zD zE,tm=(F8.fr A z z2 D E V Z z7 z8 x9 a d b c e q p f zO zP zD zE s l o u v y G H L M P Q U W x36)/\Inv m z7 zO h nx) ?_ hm ⟨_,_,_,_,_,_,_,rfl,hi⟩;rintro m tm h nx R ⟨z2,z7,z8,zO,zP,zD,zE,rfl,hi⟩ hR;exact step m z2 z7 z8 zO zP zD zE h nx R hi λm' w2 w7 w8 wK wL wD wE h' nx' hlt hi'=>hR m' _ h' nx' hlt ⟨_,_,_,_,_,_,_,rfl,hi'⟩
theorem F8.zln:IR.run F8.t37 C N O K tm h nx=zS F8.zlu C ⟨tm,[]⟩ h nx (λtm h nx=>K tm.v h nx):=jC ..
theorem F8.zqd:zS (F8.zlv r) C ⟨(F8.fr A z B D E V Z x7 x8 x9 a d b c e q p f g i j w s l o u v y G H L M P Q U W x36),[]⟩ h nx Kt =
 sLen D λv1=>zK 1 z λv2=>zI v2 h λv3=>sLen v3 λv4=>za .add .int v1 v4 λv5=>sLen V λv6=>zS r C ⟨(F8.fr A z B D E V Z x7 x8 x9 a d b c e q p f g i j w s l o u v y G H L M P Q U W x36),v6::V::v5::v4::v3::v2::v1::D::[]⟩ h nx Kt:=by kernel_rfl
theorem F8.zqe:zS (F8.zlw []) C ⟨(F8.fr A z B D E V Z x7 x8 x9 a d b c e q p f g i j w s l o u v y G H L M P Q U W x36),s0::s1::s2::sT⟩ h nx Kt =
 za .sub .int s2 s0 λv1=>za .sub .int v1 x7 λv2=>zK 0 z λv3=>zI v3 h λv4=>za .neq .int v2 v4 λv5=>Kt ⟨(F8.fr A z B D E V Z x7 x8 x9 a d b c e q p f g i j w v5 l o u v y G H L M P Q U W x36),v4::v3::v2::x7::v1::s0::s1::s2::sT⟩ h nx:=by kernel_rfl
theorem F8.v22:Arg.ev (.t (.of 22)) ⟨(F8.fr A z B D E V Z x7 x8 x9 a d b c e q p f g i j w s l o u v y G H L M P Q U W x36),[]⟩=s:=by kernel_rfl
theorem F8.zk6:IR.run F8.t42 C N O K (F8.fr A z B D E V Z x7 x8 x9 a d b c e q p f g i j w s l o u v y G H L M P Q U W x36) h nx =
 sLen V λv1=>K (F8.fr A z B D E V Z x7 x8 x9 a d b c e q p f g i j w s V v1 (I 0) v y G H L M P Q U W x36) h nx:=by kernel_rfl
theorem F8.zk7:IR.run F8.t43 C N O K (F8.fr A z B D E V Z x7 x8 x9 a d b c e q p f g i j w s l o u v y G H L M P Q U W x36) h nx =
 za .lss .int u o λv1=>K (F8.fr A z B D E V Z x7 x8 x9 a d b c e q p f g i j w s l o u v1 y G H L M P Q U W x36) h nx:=by kernel_rfl
theorem F8.v26:Arg.ev (.t (.of 26)) ⟨(F8.fr A z B D E V Z x7 x8 x9 a d b c e q p f g i j w s l o u v y G H L M P Q U W x36),[]⟩=v:=by kernel_rfl
theorem F8.zk9:IR.run F8.t45 C N O K (F8.fr A z B D E V Z x7 x8 x9 a d b c e q p f g i j w s l o u v y G H L M P Q U W x36) h nx =
 zN 2 l u λv1=>zG 2 v1 h λv2=>yR [(I 0),.zb] h nx λv3 h4 n5=>zT 2 v3 v2 h4 n5 λv6 h7 n8=>K (F8.fr A z B D E V Z x7 x8 v3 a d b c e q p f g i j w s l o u v y G H L M P Q U W x36) h7 n8:=by kernel_rfl
theorem F8.zla:IR.run F8.t46 C N O K tm h nx=zS F8.zlx C ⟨tm,[]⟩ h nx (λtm h nx=>K tm.v h nx):=jC ..
theorem F8.zqf:zS (F8.zly r) C ⟨(F8.fr A z B D E V Z x7 x8 x9 a d b c e q p f g i j w s l o u v y G H L M P Q U W x36),[]⟩ h nx Kt =
 zK 0 x9 λv1=>zI v1 h λv2=>za .lss .int v2 (I 0) λv3=>sG v3 false (λk=>zK 0 x9 k) λv4=>sG v3 false (λk=>zI v4 h k) λv5=>sG v3 false (λk=>zK 1 z k) λv6=>sG v3 false (λk=>zI v6 h k) λv7=>zS r C ⟨(F8.fr A z B D E V Z x7 x8 x9 a d b c e q p f g i j w s l o u v y G H L M P Q U W x36),v7::v6::v5::v4::v3::v3::v2::v1::[]⟩ h nx Kt:=by kernel_rfl
theorem F8.zqg:zS (F8.zlz r) C ⟨(F8.fr A z B D E V Z x7 x8 x9 a d b c e q p f g i j w s l o u v y G H L M P Q U W x36),s0::s1::s2::s3::s4::sT⟩ h nx Kt =
 sG s4 false (λk=>sLen s0 k) λv1=>sG s4 false (λk=>za .geq .int s2 v1 k) λv2=>yP s4 (.bool true) v2 λv3=>sG v3 false (λk=>zK 1 x9 k) λv4=>sG v3 false (λk=>zI v4 h k) λv5=>sG v3 false (λk=>sLen v5 k) λv6=>sG v3 false (λk=>zK 0 x9 k) λv7=>zS r C ⟨(F8.fr A z B D E V Z x7 x8 x9 a d b c e q p f g i j w s l o u v y G H L M P Q U W x36),v7::v6::v5::v4::v3::v3::v2::v1::s0::s1::s2::s3::s4::sT⟩ h nx Kt:=by kernel_rfl
theorem F8.zqh:zS (F8.zl0 r) C ⟨(F8.fr A z B D E V Z x7 x8 x9 a d b c e q p f g i j w s l o u v y G H L M P Q U W x36),s0::s1::s2::s3::s4::sT⟩ h nx Kt =
 sG s4 false (λk=>zI s0 h k) λv1=>sG s4 false (λk=>za .neq .int s1 v1 k) λv2=>yP s4 (.bool true) v2 λv3=>sG v3 false (λk=>zK 1 x9 k) λv4=>sG v3 false (λk=>zI v4 h k) λv5=>sGW v3 false (λk=>C.fn 37 (.of 37) [v5] h nx k) h nx λv6 h7 n8=>zS r C ⟨(F8.fr A z B D E V Z x7 x8 x9 a d b c e q p f g i j w s l o u v y G H L M P Q U W x36),v6::v5::v4::v3::v3::v2::v1::s0::s1::s2::s3::s4::sT⟩ h7 n8 Kt:=by kernel_rfl
theorem F8.zqi:zS (F8.zl3 []) C ⟨(F8.fr A z B D E V Z x7 x8 x9 a d b c e q p f g i j w s l o u v y G H L M P Q U W x36),s0::s1::s2::s3::sT⟩ h nx Kt =
 sG s3 false (λk=>za .neq .int s0 (I 0) k) λv1=>yP s3 (.bool true) v1 λv2=>Kt ⟨(F8.fr A z B D E V Z x7 x8 x9 a d b c e q p f g i j w s l o u v v2 G H L M P Q U W x36),v1::s0::s1::s2::s3::sT⟩ h nx:=by kernel_rfl
theorem F8.v27:Arg.ev (.t (.of 27)) ⟨(F8.fr A z B D E V Z x7 x8 x9 a d b c e q p f g i j w s l o u v y G H L M P Q U W x36),[]⟩=y:=by kernel_rfl
theorem F8.zd0:IR.run F8.t51 C N O K (F8.fr A z B D E V Z x7 x8 x9 a d b c e q p f g i j w s l o u v y G H L M P Q U W x36) h nx =
 zK 0 z λv1=>zI v1 h λv2=>K (F8.fr A z B D E V Z x7 x8 x9 a d b c e q p f g i j w s l o u v y v2 (I 0) L M P Q U W x36) h nx:=by kernel_rfl
theorem F8.zdw:IR.run F8.t52 C N O K (F8.fr A z B D E V Z x7 x8 x9 a d b c e q p f g i j w s l o u v y G H L M P Q U W x36) h nx =
 za .lss .int H G λv1=>K (F8.fr A z B D E V Z x7 x8 x9 a d b c e q p f g i j w s l o u v y G H v1 M P Q U W x36) h nx:=by kernel_rfl
theorem F8.v30:Arg.ev (.t (.of 30)) ⟨(F8.fr A z B D E V Z x7 x8 x9 a d b c e q p f g i j w s l o u v y G H L M P Q U W x36),[]⟩=L:=by kernel_rfl
theorem F8.zxp:IR.run F8.t54 C N O K (F8.fr A z B D E V Z x7 x8 x9 a d b c e q p f g i j w s l o u v y G H L M P Q U W x36) h nx =
 K (F8.fr A z B D E V Z x7 x8 x9 H d b c e q p f g i j w s l o u v y G H L M P Q U W x36) h nx:=by kernel_rfl
theorem F8.zxq:IR.run F8.t55 C N O K (F8.fr A z B D E V Z x7 x8 x9 a d b c e q p f g i j w s l o u v y G H L M P Q U W x36) h nx =
 K (F8.fr A z B D E V Z x7 x8 x9 a (.str [48]) b c e q p f g i j w s l o u v y G H L M P Q U W x36) h nx:=by kernel_rfl
theorem F8.zxr:IR.run F8.t56 C N O K (F8.fr A z B D E V Z x7 x8 x9 a d b c e q p f g i j w s l o u v y G H L M P Q U W x36) h nx =
 zK 1 x9 λv1=>zI v1 h λv2=>sLen v2 λv3=>K (F8.fr A z B D E V Z x7 x8 x9 a d b c e q p f g i j w s l o u v y G H L v2 v3 (I 0) U W x36) h nx:=by kernel_rfl
theorem F8.zxs:IR.run F8.t57 C N O K (F8.fr A z B D E V Z x7 x8 x9 a d b c e q p f g i j w s l o u v y G H L M P Q U W x36) h nx =
 za .lss .int Q P λv1=>K (F8.fr A z B D E V Z x7 x8 x9 a d b c e q p f g i j w s l o u v y G H L M P Q v1 W x36) h nx:=by kernel_rfl
theorem F8.v34:Arg.ev (.t (.of 34)) ⟨(F8.fr A z B D E V Z x7 x8 x9 a d b c e q p f g i j w s l o u v y G H L M P Q U W x36),[]⟩=U:=by kernel_rfl
theorem F8.zxt:IR.run F8.t59 C N O K (F8.fr A z B D E V Z x7 x8 x9 a d b c e q p f g i j w s l o u v y G H L M P Q U W x36) h nx =
 zN 1 M Q λv1=>zI v1 h λv2=>K (F8.fr A z B D E V Z x7 x8 x9 a d Q v2 e q p f g i j w s l o u v y G H L M P Q U W x36) h nx:=by kernel_rfl
theorem F8.zxu:IR.run F8.t60 C N O K (F8.fr A z B D E V Z x7 x8 x9 a d b c e q p f g i j w s l o u v y G H L M P Q U W x36) h nx =
 zK 1 z λv1=>zI v1 h λv2=>zN 1 v2 b λv3=>zI v3 h λv4=>C.fn 45 (.of 45) [v4,a] h nx λv5 h6 n7=>K (F8.fr A z B D E V Z x7 x8 x9 a d b c e q p f g i j w s l o u v y G H L M P Q U v5 x36) h6 n7:=by kernel_rfl
theorem F8.zh0:IR.run F8.t61 C N O K (F8.fr A z B D E V Z x7 x8 x9 a d b c e q p f g i j w s l o u v y G H L M P Q U W x36) h nx =
 C.fn 40 (.of 40) [d,c] h nx λv1 h2 n3=>K (F8.fr A z B D E V Z x7 x8 x9 a v1 b c e q p f g i j w s l o u v y G H L M P Q U W x36) h2 n3:=by kernel_rfl
theorem F8.v35:Arg.ev (.t (.of 35)) ⟨(F8.fr A z B D E V Z x7 x8 x9 a d b c e q p f g i j w s l o u v y G H L M P Q U W x36),[]⟩=W:=by kernel_rfl
theorem F8.zsv:IR.run F8.t66 C N O K (F8.fr A z B D E V Z x7 x8 x9 a d b c e q p f g i j w s l o u v y G H L M P Q U W x36) h nx =
 za .add .int Q (I 1) λv1=>K (F8.fr A z B D E V Z x7 x8 x9 a d b c e q p f g i j w s l o u v y G H L M P v1 U W x36) h nx:=by kernel_rfl
theorem F8.zxv (Inv:Nat->AV->AV->T Blk->Pa->Prop) {m:Nat} (hm:m<N) (hi:Inv m d Q h nx)
  (step:∀ (m:Nat) (zA zB zC z33 zZ z35:AV) (h:T Blk) (nx:Pa) (R:Ks Prop),Inv m zA z33 h nx->(∀ (m':Nat) (wA wB wC wY wR wS:AV) (h':T Blk) (nx':Pa),m'<m->Inv m' wA wY h' nx'->R (F8.fr A z B D E V Z x7 x8 x9 a wA wB wC e q p f g i j w s l o u v y G H L M P wY wR wS x36) h' nx'=.ok True)->IR.run F8.t69 C N O R (F8.fr A z B D E V Z x7 x8 x9 a zA zB zC e q p f g i j w s l o u v y G H L M P z33 zZ z35 x36) h nx=.ok True) :
  IR.run F8.t70 C N O K (F8.fr A z B D E V Z x7 x8 x9 a d b c e q p f g i j w s l o u v y G H L M P Q U W x36) h nx=.ok True:=by
 rw [F8.t70];refine yC (λm tm h nx=>∃ zA zB zC z33 zZ z35,tm=(F8.fr A z B D E V Z x7 x8 x9 a zA zB zC e q p f g i j w s l o u v y G H L M P z33 zZ z35 x36)/\Inv m zA z33 h nx) ?_ hm ⟨_,_,_,_,_,_,rfl,hi⟩;rintro m tm h nx R ⟨zA,zB,zC,z33,zZ,z35,rfl,hi⟩ hR;exact step m zA zB zC z33 zZ z35 h nx R hi λm' wA wB wC wY wR wS h' nx' hlt hi'=>hR m' _ h' nx' hlt ⟨_,_,_,_,_,_,rfl,hi'⟩
theorem F8.zxw:IR.run F8.t73 C N O K tm h nx=zS F8.zl4 C ⟨tm,[]⟩ h nx (λtm h nx=>K tm.v h nx):=jC ..
theorem F8.zqj:zS (F8.zl5 r) C ⟨(F8.fr A z B D E V Z x7 x8 x9 a d b c e q p f g i j w s l o u v y G H L M P Q U W x36),[]⟩ h nx Kt =
 za .eql .str d (.str [49]) λv1=>zK 1 z λv2=>zI v2 h λv3=>zK 0 x9 λv4=>zI v4 h λv5=>zN 1 v3 v5 λv6=>zI v6 h λv7=>zS r C ⟨(F8.fr A z B D E V Z x7 x8 x9 a d b c e q p f g i j w s l o u v y G H L M P Q U W x36),v7::v6::v5::v4::v3::v2::v1::d::[]⟩ h nx Kt:=by kernel_rfl
theorem F8.zh3:zS (F8.zl6 r) C ⟨(F8.fr A z B D E V Z x7 x8 x9 a d b c e q p f g i j w s l o u v y G H L M P Q U W x36),s0::sT⟩ h nx Kt =
 C.fn 45 (.of 45) [s0,a] h nx λv1 h2 n3=>zS r C ⟨(F8.fr A z B D E V Z x7 x8 x9 a d b c e q p f g i j w s l o u v y G H L M P Q U W x36),v1::a::s0::sT⟩ h2 n3 Kt:=by kernel_rfl
theorem F8.zh4:zS (F8.zl7 r) C ⟨(F8.fr A z B D E V Z x7 x8 x9 a d b c e q p f g i j w s l o u v y G H L M P Q U W x36),s0::s1::s2::s3::s4::s5::s6::s7::s8::sT⟩ h nx Kt =
 za .neq .bool s8 s0 λv1=>sG v1 false (λk=>k d) λv2=>sG v1 false (λk=>za .neq .str v2 (.str [49]) k) λv3=>sG v1 false (λk=>k v3) λv4=>sG v4 true (λk=>k d) λv5=>sG v4 true (λk=>za .neq .str v5 (.str [48]) k) λv6=>sG v1 false (λk=>yP v4 v6 (.bool false) k) λv7=>zS r C ⟨(F8.fr A z B D E V Z x7 x8 x9 a d b c e q p f g i j w s l o u v y G H L M P Q U W x36),v7::v6::v5::v4::v3::v2::v1::v1::s0::s1::s2::s3::s4::s5::s6::s7::s8::sT⟩ h nx Kt:=by kernel_rfl
theorem F8.zh5:zS (F8.zl8 []) C ⟨(F8.fr A z B D E V Z x7 x8 x9 a d b c e q p f g i j w s l o u v y G H L M P Q U W x36),s0::s1::s2::s3::s4::s5::s6::sT⟩ h nx Kt =
 yP s6 (.bool true) s0 λv1=>Kt ⟨(F8.fr A z B D E V Z x7 x8 x9 a d b c e q p f g i j w s l o u v y G H L M P Q U W v1),s0::s1::s2::s3::s4::s5::s6::sT⟩ h nx:=by kernel_rfl
theorem F8.v36:Arg.ev (.t (.of 36)) ⟨(F8.fr A z B D E V Z x7 x8 x9 a d b c e q p f g i j w s l o u v y G H L M P Q U W x36),[]⟩=x36:=by kernel_rfl
theorem F8.zsw:IR.run F8.t82 C N O K (F8.fr A z B D E V Z x7 x8 x9 a d b c e q p f g i j w s l o u v y G H L M P Q U W x36) h nx =
 za .add .int H (I 1) λv1=>K (F8.fr A z B D E V Z x7 x8 x9 a d b c e q p f g i j w s l o u v y G v1 L M P Q U W x36) h nx:=by kernel_rfl
theorem F8.zxx (Inv:Nat->AV->T Blk->Pa->Prop) {m:Nat} (hm:m<N) (hi:Inv m H h nx)
  (step:∀ (m:Nat) (z2 zF zA zB zC z29 z30 z31 z32 z33 zZ z35 z36:AV) (h:T Blk) (nx:Pa) (R:Ks Prop),Inv m z29 h nx->(∀ (m':Nat) (w2 wF wA wB wC wU wV wW wX wY wR wS wZ:AV) (h':T Blk) (nx':Pa),m'<m->Inv m' wU h' nx'->R (F8.fr A z w2 D E V Z x7 x8 x9 wF wA wB wC e q p f g i j w s l o u v y G wU wV wW wX wY wR wS wZ) h' nx'=.ok True)->IR.run F8.t85 C N O R (F8.fr A z z2 D E V Z x7 x8 x9 zF zA zB zC e q p f g i j w s l o u v y G z29 z30 z31 z32 z33 zZ z35 z36) h nx=.ok True) :
  IR.run F8.t86 C N O K (F8.fr A z B D E V Z x7 x8 x9 a d b c e q p f g i j w s l o u v y G H L M P Q U W x36) h nx=.ok True:=by
 rw [F8.t86];refine yC (λm tm h nx=>∃ z2 zF zA zB zC z29 z30 z31 z32 z33 zZ z35 z36,tm=(F8.fr A z z2 D E V Z x7 x8 x9 zF zA zB zC e q p f g i j w s l o u v y G z29 z30 z31 z32 z33 zZ z35 z36)/\Inv m z29 h nx) ?_ hm ⟨_,_,_,_,_,_,_,_,_,_,_,_,_,rfl,hi⟩;rintro m tm h nx R ⟨z2,zF,zA,zB,zC,z29,z30,z31,z32,z33,zZ,z35,z36,rfl,hi⟩ hR;exact step m z2 zF zA zB zC z29 z30 z31 z32 z33 zZ z35 z36 h nx R hi λm' w2 wF wA wB wC wU wV wW wX wY wR wS wZ h' nx' hlt hi'=>hR m' _ h' nx' hlt ⟨_,_,_,_,_,_,_,_,_,_,_,_,_,rfl,hi'⟩
theorem F8.zxy:IR.run F8.t92 C N O K (F8.fr A z B D E V Z x7 x8 x9 a d b c e q p f g i j w s l o u v y G H L M P Q U W x36) h nx =
 za .add .int u (I 1) λv1=>K (F8.fr A z B D E V Z x7 x8 x9 a d b c e q p f g i j w s l o v1 v y G H L M P Q U W x36) h nx:=by kernel_rfl
theorem F8.zxz (Inv:Nat->AV->T Blk->Pa->Prop) {m:Nat} (hm:m<N) (hi:Inv m u h nx)
  (step:∀ (m:Nat) (z2 z9 zF zA zB zC zW zJ zL z28 z29 z30 z31 z32 z33 zZ z35 z36:AV) (h:T Blk) (nx:Pa) (R:Ks Prop),Inv m zW h nx->(∀ (m':Nat) (w2 w9 wF wA wB wC wO wH wI w28 wU wV wW wX wY wR wS wZ:AV) (h':T Blk) (nx':Pa),m'<m->Inv m' wO h' nx'->R (F8.fr A z w2 D E V Z x7 x8 w9 wF wA wB wC e q p f g i j w s l o wO wH wI w28 wU wV wW wX wY wR wS wZ) h' nx'=.ok True)->IR.run F8.t95 C N O R (F8.fr A z z2 D E V Z x7 x8 z9 zF zA zB zC e q p f g i j w s l o zW zJ zL z28 z29 z30 z31 z32 z33 zZ z35 z36) h nx=.ok True) :
  IR.run F8.t96 C N O K (F8.fr A z B D E V Z x7 x8 x9 a d b c e q p f g i j w s l o u v y G H L M P Q U W x36) h nx=.ok True:=by
 rw [F8.t96];refine yC (λm tm h nx=>∃ z2 z9 zF zA zB zC zW zJ zL z28 z29 z30 z31 z32 z33 zZ z35 z36,tm=(F8.fr A z z2 D E V Z x7 x8 z9 zF zA zB zC e q p f g i j w s l o zW zJ zL z28 z29 z30 z31 z32 z33 zZ z35 z36)/\Inv m zW h nx) ?_ hm ⟨_,_,_,_,_,_,_,_,_,_,_,_,_,_,_,_,_,_,rfl,hi⟩;rintro m tm h nx R ⟨z2,z9,zF,zA,zB,zC,zW,zJ,zL,z28,z29,z30,z31,z32,z33,zZ,z35,z36,rfl,hi⟩ hR;exact step m z2 z9 zF zA zB zC zW zJ zL z28 z29 z30 z31 z32 z33 zZ z35 z36 h nx R hi λm' w2 w9 wF wA wB wC wO wH wI w28 wU wV wW wX wY wR wS wZ h' nx' hlt hi'=>hR m' _ h' nx' hlt ⟨_,_,_,_,_,_,_,_,_,_,_,_,_,_,_,_,_,_,rfl,hi'⟩
theorem F8.zx0:IR.run F8.t99 C N O K (F8.fr A z B D E V Z x7 x8 x9 a d b c e q p f g i j w s l o u v y G H L M P Q U W x36) h nx =
 C.fn 17 (.of 17) [] h nx λv1 h2 n3=>K (F8.fr A z v1 D E V Z x7 x8 x9 a d b c e q p f g i j w s l o u v y G H L M P Q U W x36) h2 n3:=by kernel_rfl
theorem F8.go:zQ tbl N C (.of 8) [a0] h nx K0=IR.run F8.t109 C N (fnO F8.res K0) (zi F8.res K0) (F8.fr a0 .u .u .u .u .u .u .u .u .u .u .u .u .u .u .u .u .u .u .u .u .u .u .u .u .u .u .u .u .u .u .u .u .u .u .u .u) h nx:=yE (F:=F8) (by kernel_rfl) (λ_=>by kernel_rfl) (by kernel_rfl)
theorem F8.ret:zi F8.res K0 (F8.fr A z B D E V Z x7 x8 x9 a d b c e q p f g i j w s l o u v y G H L M P Q U W x36) h nx=K0 B h nx:=by kernel_rfl
end
end Go.Ev
