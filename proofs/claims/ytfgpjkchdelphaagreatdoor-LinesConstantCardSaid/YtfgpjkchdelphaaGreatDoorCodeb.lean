import Derived.Test.YtfgpjkchdelphaaGreatDoorIrT
import Derived.Test.YtfgpjkchdelphaaGreatDoorEvD
import Derived.KernelRfl
set_option linter.unusedSimpArgs false
set_option linter.unusedVariables false
namespace Go.Ev
open Go Go.Proofs
set_option maxRecDepth 100000
section
variable {N:Nat} {C:Calls Prop} {K0:Kw Prop} {K R:Ks Prop} {h:T Blk} {nx:Pa} {c b d e f j p q s H a g i l o w y u v z D Q U L V G M W P E A B Z x33 x34 x35 a0 s0 s1 s2 s3 s4 s5 s6 s7 s8 s9 s10 s11 s12 s13 s14 s15 s16 s17 s18 s19 s20 s21 s22 s23 s24 s25 s26 s27 s28 s29 s30 s31 s32 s33 s34 s35 s36 s37 s38 s39 s40 s41 s42 s43 s44 s45 s46 s47 s48 s49 s50 s51 s52 s53 s54 s55 s56 s57 s58 s59 a1 a2:AV} {O:fQ Prop} {tm:T AV} {Kt:KTm} {r:List RO} {sT:List AV}
theorem F93.zy:IR.run F93.t0 C N O K (F93.fr c b d e f j p q s H a g i l o w y u v z D Q U L V G M W P E A B Z x33 x34 x35) h nx =
 wz c h nx λv1 h2 n3=>yN [.za,.za] h2 n3 λv4 h5 n6=>K (F93.fr c v1 v4 e f j p q s H a g i l o w y u v z D Q U L V G M W P E A B Z x33 x34 x35) h5 n6:=by kernel_rfl
theorem F93.zx:IR.run F93.t1 C N O K (F93.fr c b d e f j p q s H a g i l o w y u v z D Q U L V G M W P E A B Z x33 x34 x35) h nx =
 zK 0 b λv1=>zI v1 h λv2=>K (F93.fr c b d v2 f j p q s H a g i l o w y u v z D Q U L V G M W P E A B Z x33 x34 x35) h nx:=by kernel_rfl
theorem F93.jb:IR.run F93.t2 C N O K (F93.fr c b d e f j p q s H a g i l o w y u v z D Q U L V G M W P E A B Z x33 x34 x35) h nx =
 K (F93.fr c b d e .za j p q s H a g i l o w y u v z D Q U L V G M W P E A B Z x33 x34 x35) h nx:=by kernel_rfl
theorem F93.dw:IR.run F93.t3 C N O K (F93.fr c b d e f j p q s H a g i l o w y u v z D Q U L V G M W P E A B Z x33 x34 x35) h nx =
 K (F93.fr c b d e f .za p q s H a g i l o w y u v z D Q U L V G M W P E A B Z x33 x34 x35) h nx:=by kernel_rfl
theorem F93.rD:IR.run F93.t4 C N O K (F93.fr c b d e f j p q s H a g i l o w y u v z D Q U L V G M W P E A B Z x33 x34 x35) h nx =
 K (F93.fr c b d e f j (I 1) q s H a g i l o w y u v z D Q U L V G M W P E A B Z x33 x34 x35) h nx:=by kernel_rfl
theorem F93.rE:IR.run F93.t5 C N O K (F93.fr c b d e f j p q s H a g i l o w y u v z D Q U L V G M W P E A B Z x33 x34 x35) h nx =
 zK 1 b λv1=>zI v1 h λv2=>sLen v2 λv3=>ze .lss .int p v3 λv4=>K (F93.fr c b d e f j p q s H a g i l o w y v4 v z D Q U L V G M W P E A B Z x33 x34 x35) h nx:=by kernel_rfl
theorem F93.v17:Arg.ev (.t (.of 17)) ⟨(F93.fr c b d e f j p q s H a g i l o w y u v z D Q U L V G M W P E A B Z x33 x34 x35),[]⟩=u:=by kernel_rfl
theorem F93.fE:IR.run F93.t8 C N O K (F93.fr c b d e f j p q s H a g i l o w y u v z D Q U L V G M W P E A B Z x33 x34 x35) h nx =
 zK 1 b λv1=>zI v1 h λv2=>zL 1 v2 p λv3=>zI v3 h λv4=>C.fn 104 (.of 104) [e,v4] h nx λv5 h6 n7=>K (F93.fr c b d e f j p v5 s H a g i l o w y u v z D Q U L V G M W P E A B Z x33 x34 x35) h6 n7:=by kernel_rfl
theorem F93.rF:IR.run F93.t9 C N O K (F93.fr c b d e f j p q s H a g i l o w y u v z D Q U L V G M W P E A B Z x33 x34 x35) h nx =
 zK 1 b λv1=>zI v1 h λv2=>zL 1 v2 (I 0) λv3=>zI v3 h λv4=>C.fn 96 (.of 96) [(I 1)] h nx λv5 h6 n7=>(zI v3 h6 λvA=>zQ vA v4 ((zL 1 v2 (I 0) λvB=>zQ vB v3 ((zI v1 h6 λvC=>zQ vC v2 ((zK 1 b λvD=>zQ vD v1 (zQ e e (zQ q q (C.fn 104 (.of 104) [e,v4] h6 n7 λv8 h9 nA=>zQ q q (C.fn 106 (.of 106) [q,v5,v8] h9 nA λvE hA nB=>K (F93.fr c b d e f j p q s H a g i l o w y u v z D Q U L V G M W P E A B Z x33 x34 x35) hA nB))))))))))):=by kernel_rfl
theorem F93.sV:IR.run F93.t10 C N O K (F93.fr c b d e f j p q s H a g i l o w y u v z D Q U L V G M W P E A B Z x33 x34 x35) h nx =
 sLen j λv1=>K (F93.fr c b d e f j p q s H a g i l o w y u j v1 (I 0) Q U L V G M W P E A B Z x33 x34 x35) h nx:=by kernel_rfl
theorem F93.pu:IR.run F93.t11 C N O K (F93.fr c b d e f j p q s H a g i l o w y u v z D Q U L V G M W P E A B Z x33 x34 x35) h nx =
 ze .lss .int D z λv1=>K (F93.fr c b d e f j p q s H a g i l o w y u v z D v1 U L V G M W P E A B Z x33 x34 x35) h nx:=by kernel_rfl
theorem F93.v21:Arg.ev (.t (.of 21)) ⟨(F93.fr c b d e f j p q s H a g i l o w y u v z D Q U L V G M W P E A B Z x33 x34 x35),[]⟩=Q:=by kernel_rfl
theorem F93.rM:IR.run F93.t13 C N O K (F93.fr c b d e f j p q s H a g i l o w y u v z D Q U L V G M W P E A B Z x33 x34 x35) h nx =
 zL 1 v D λv1=>zI v1 h λv2=>K (F93.fr c b d e f j p q D v2 a g i l o w y u v z D Q U L V G M W P E A B Z x33 x34 x35) h nx:=by kernel_rfl
theorem F93.fT:IR.run F93.t14 C N O K (F93.fr c b d e f j p q s H a g i l o w y u v z D Q U L V G M W P E A B Z x33 x34 x35) h nx =
 zL 4 q H λv1=>zF 4 v1 h λv2=>zL 1 f s λv3=>zI v3 h λv4=>C.fn 106 (.of 106) [q,v2,v4] h nx λv5 h6 n7=>K (F93.fr c b d e f j p q s H a g i l o w y u v z D Q U L V G M W P E A B Z x33 x34 x35) h6 n7:=by kernel_rfl
theorem F93.sW:IR.run F93.t17 C N O K (F93.fr c b d e f j p q s H a g i l o w y u v z D Q U L V G M W P E A B Z x33 x34 x35) h nx =
 ze .add .int D (I 1) λv1=>K (F93.fr c b d e f j p q s H a g i l o w y u v z v1 Q U L V G M W P E A B Z x33 x34 x35) h nx:=by kernel_rfl
theorem F93.znk (Inv:Nat->AV->T Blk->Pa->Prop) {m:Nat} (hm:m<N) (hi:Inv m D h nx)
  (step:∀ (m:Nat) (z8 z9 zA zB:AV) (h:T Blk) (nx:Pa) (R:Ks Prop),Inv m zA h nx->(∀ (m':Nat) (w8 w9 wA wB:AV) (h':T Blk) (nx':Pa),m'<m->Inv m' wA h' nx'->R (F93.fr c b d e f j p q w8 w9 a g i l o w y u v z wA wB U L V G M W P E A B Z x33 x34 x35) h' nx'=.ok True)->IR.run F93.t20 C N O R (F93.fr c b d e f j p q z8 z9 a g i l o w y u v z zA zB U L V G M W P E A B Z x33 x34 x35) h nx=.ok True) :
  IR.run F93.t21 C N O K (F93.fr c b d e f j p q s H a g i l o w y u v z D Q U L V G M W P E A B Z x33 x34 x35) h nx=.ok True:=by
 rw [F93.t21];refine yB (λm tm h nx=>∃ z8 z9 zA zB,tm=(F93.fr c b d e f j p q z8 z9 a g i l o w y u v z zA zB U L V G M W P E A B Z x33 x34 x35)/\Inv m zA h nx) ?_ hm ⟨_,_,_,_,rfl,hi⟩;rintro m tm h nx R ⟨z8,z9,zA,zB,rfl,hi⟩ hR;exact step m z8 z9 zA zB h nx R hi λm' w8 w9 wA wB h' nx' hlt hi'=>hR m' _ h' nx' hlt ⟨_,_,_,_,rfl,hi'⟩
theorem F93.eY:IR.run F93.t24 C N O K (F93.fr c b d e f j p q s H a g i l o w y u v z D Q U L V G M W P E A B Z x33 x34 x35) h nx =
 ze .sub .int e (I 1) λv1=>K (F93.fr c b d e f j p q s H v1 g i l o w y u v z D Q U L V G M W P E A B Z x33 x34 x35) h nx:=by kernel_rfl
theorem F93.zaf:IR.run F93.t25 C N O K tm h nx=yG F93.znl C ⟨tm,[]⟩ h nx (λtm h nx=>K tm.v h nx):=gD ..
theorem F93.zsb:yG (F93.znm r) C ⟨(F93.fr c b d e f j p q s H a g i l o w y u v z D Q U L V G M W P E A B Z x33 x34 x35),[]⟩ h nx Kt =
 ze .geq .int a (I 0) λv1=>sG v1 true (λk=>k q) λv2=>sG v1 true (λk=>k a) λv3=>sG v1 true (λk=>zL 4 v2 v3 k) λv4=>sG v1 true (λk=>zF 4 v4 h k) λv5=>sGW v1 true (λk=>C.fn 110 (.of 110) [v5] h nx k) h nx λv6 h7 n8=>yG r C ⟨(F93.fr c b d e f j p q s H a g i l o w y u v z D Q U L V G M W P E A B Z x33 x34 x35),v6::v5::v4::v3::v2::v1::v1::a::[]⟩ h7 n8 Kt:=by kernel_rfl
theorem F93.zj1:yG (F93.znn []) C ⟨(F93.fr c b d e f j p q s H a g i l o w y u v z D Q U L V G M W P E A B Z x33 x34 x35),s0::s1::s2::s3::s4::s5::sT⟩ h nx Kt =
 sG s5 true (λk=>ze .eql .int s0 (I 0) k) λv1=>yS s5 v1 (.bool false) λv2=>Kt ⟨(F93.fr c b d e f j p q s H a g i l o w y u v z D Q v2 L V G M W P E A B Z x33 x34 x35),v1::s0::s1::s2::s3::s4::s5::sT⟩ h nx:=by kernel_rfl
theorem F93.v22:Arg.ev (.t (.of 22)) ⟨(F93.fr c b d e f j p q s H a g i l o w y u v z D Q U L V G M W P E A B Z x33 x34 x35),[]⟩=U:=by kernel_rfl
theorem F93.zaa:IR.run F93.t28 C N O K (F93.fr c b d e f j p q s H a g i l o w y u v z D Q U L V G M W P E A B Z x33 x34 x35) h nx =
 ze .sub .int a (I 1) λv1=>K (F93.fr c b d e f j p q s H v1 g i l o w y u v z D Q U L V G M W P E A B Z x33 x34 x35) h nx:=by kernel_rfl
theorem F93.zfi (Inv:Nat->AV->T Blk->Pa->Prop) {m:Nat} (hm:m<N) (hi:Inv m a h nx)
  (step:∀ (m:Nat) (zC zD:AV) (h:T Blk) (nx:Pa) (R:Ks Prop),Inv m zC h nx->(∀ (m':Nat) (wC wD:AV) (h':T Blk) (nx':Pa),m'<m->Inv m' wC h' nx'->R (F93.fr c b d e f j p q s H wC g i l o w y u v z D Q wD L V G M W P E A B Z x33 x34 x35) h' nx'=.ok True)->IR.run F93.t30 C N O R (F93.fr c b d e f j p q s H zC g i l o w y u v z D Q zD L V G M W P E A B Z x33 x34 x35) h nx=.ok True) :
  IR.run F93.t31 C N O K (F93.fr c b d e f j p q s H a g i l o w y u v z D Q U L V G M W P E A B Z x33 x34 x35) h nx=.ok True:=by
 rw [F93.t31];refine yB (λm tm h nx=>∃ zC zD,tm=(F93.fr c b d e f j p q s H zC g i l o w y u v z D Q zD L V G M W P E A B Z x33 x34 x35)/\Inv m zC h nx) ?_ hm ⟨_,_,rfl,hi⟩;rintro m tm h nx R ⟨zC,zD,rfl,hi⟩ hR;exact step m zC zD h nx R hi λm' wC wD h' nx' hlt hi'=>hR m' _ h' nx' hlt ⟨_,_,rfl,hi'⟩
theorem F93.zft:IR.run F93.t33 C N O K (F93.fr c b d e f j p q s H a g i l o w y u v z D Q U L V G M W P E A B Z x33 x34 x35) h nx =
 ze .lss .int a (I 0) λv1=>K (F93.fr c b d e f j p q s H a g i l o w y u v z D Q U v1 V G M W P E A B Z x33 x34 x35) h nx:=by kernel_rfl
theorem F93.v23:Arg.ev (.t (.of 23)) ⟨(F93.fr c b d e f j p q s H a g i l o w y u v z D Q U L V G M W P E A B Z x33 x34 x35),[]⟩=L:=by kernel_rfl
theorem F93.zfu:IR.run F93.t36 C N O K (F93.fr c b d e f j p q s H a g i l o w y u v z D Q U L V G M W P E A B Z x33 x34 x35) h nx =
 zL 4 q a λv1=>zF 4 v1 h λv2=>C.fn 112 (.of 112) [v2] h nx λv3 h4 n5=>C.fn 111 (.of 111) [q,v3] h4 n5 λv6 h7 n8=>K (F93.fr c b d e f j p q s H a g i l o w y u v z D Q U L V G M W P E A B Z x33 x34 x35) h7 n8:=by kernel_rfl
theorem F93.zyx:IR.run F93.t37 C N O K (F93.fr c b d e f j p q s H a g i l o w y u v z D Q U L V G M W P E A B Z x33 x34 x35) h nx =
 sLen f λv1=>K (F93.fr c b d e f j p q s H a g i l o w y u v z D Q U L f v1 (I 0) W P E A B Z x33 x34 x35) h nx:=by kernel_rfl
theorem F93.zfs:IR.run F93.t38 C N O K (F93.fr c b d e f j p q s H a g i l o w y u v z D Q U L V G M W P E A B Z x33 x34 x35) h nx =
 ze .lss .int M G λv1=>K (F93.fr c b d e f j p q s H a g i l o w y u v z D Q U L V G M v1 P E A B Z x33 x34 x35) h nx:=by kernel_rfl
theorem F93.v27:Arg.ev (.t (.of 27)) ⟨(F93.fr c b d e f j p q s H a g i l o w y u v z D Q U L V G M W P E A B Z x33 x34 x35),[]⟩=W:=by kernel_rfl
theorem F93.zno:IR.run F93.t40 C N O K (F93.fr c b d e f j p q s H a g i l o w y u v z D Q U L V G M W P E A B Z x33 x34 x35) h nx =
 zL 1 V M λv1=>zI v1 h λv2=>K (F93.fr c b d e f j p q s H a v2 i l o w y u v z D Q U L V G M W P E A B Z x33 x34 x35) h nx:=by kernel_rfl
theorem F93.zyy:IR.run F93.t41 C N O K (F93.fr c b d e f j p q s H a g i l o w y u v z D Q U L V G M W P E A B Z x33 x34 x35) h nx =
 zL 4 g a λv1=>zF 4 v1 h λv2=>C.fn 106 (.of 106) [g,v2,q] h nx λv3 h4 n5=>K (F93.fr c b d e f j p q s H a g i l o w y u v z D Q U L V G M W P E A B Z x33 x34 x35) h4 n5:=by kernel_rfl
theorem F93.zyz:IR.run F93.t44 C N O K (F93.fr c b d e f j p q s H a g i l o w y u v z D Q U L V G M W P E A B Z x33 x34 x35) h nx =
 ze .add .int M (I 1) λv1=>K (F93.fr c b d e f j p q s H a g i l o w y u v z D Q U L V G v1 W P E A B Z x33 x34 x35) h nx:=by kernel_rfl
theorem F93.zy0 (Inv:Nat->AV->T Blk->Pa->Prop) {m:Nat} (hm:m<N) (hi:Inv m M h nx)
  (step:∀ (m:Nat) (zE zG zH:AV) (h:T Blk) (nx:Pa) (R:Ks Prop),Inv m zG h nx->(∀ (m':Nat) (wE wF wG:AV) (h':T Blk) (nx':Pa),m'<m->Inv m' wF h' nx'->R (F93.fr c b d e f j p q s H a wE i l o w y u v z D Q U L V G wF wG P E A B Z x33 x34 x35) h' nx'=.ok True)->IR.run F93.t47 C N O R (F93.fr c b d e f j p q s H a zE i l o w y u v z D Q U L V G zG zH P E A B Z x33 x34 x35) h nx=.ok True) :
  IR.run F93.t48 C N O K (F93.fr c b d e f j p q s H a g i l o w y u v z D Q U L V G M W P E A B Z x33 x34 x35) h nx=.ok True:=by
 rw [F93.t48];refine yB (λm tm h nx=>∃ zE zG zH,tm=(F93.fr c b d e f j p q s H a zE i l o w y u v z D Q U L V G zG zH P E A B Z x33 x34 x35)/\Inv m zG h nx) ?_ hm ⟨_,_,_,rfl,hi⟩;rintro m tm h nx R ⟨zE,zG,zH,rfl,hi⟩ hR;exact step m zE zG zH h nx R hi λm' wE wF wG h' nx' hlt hi'=>hR m' _ h' nx' hlt ⟨_,_,_,rfl,hi'⟩
theorem F93.zy1:IR.run F93.t51 C N O K (F93.fr c b d e f j p q s H a g i l o w y u v z D Q U L V G M W P E A B Z x33 x34 x35) h nx =
 jI 1 1 [.za] [(0,1,q)] h nx λv1 h2 n3=>sZ 1 24 f v1 h2 n3 λv4 h5 n6=>jI 1 1 [(I 0)] [(0,1,a)] h5 n6 λv7 h8 n9=>sZ 1 8 j v7 h8 n9 λvF hB nC=>K (F93.fr c b d e v4 vF p q s H a g i l o w y u v z D Q U L V G M W P E A B Z x33 x34 x35) hB nC:=by kernel_rfl
theorem F93.zup:IR.run F93.t61 C N O K (F93.fr c b d e f j p q s H a g i l o w y u v z D Q U L V G M W P E A B Z x33 x34 x35) h nx =
 ze .add .int p (I 1) λv1=>K (F93.fr c b d e f j v1 q s H a g i l o w y u v z D Q U L V G M W P E A B Z x33 x34 x35) h nx:=by kernel_rfl
theorem F93.znp (Inv:Nat->AV->AV->AV->T Blk->Pa->Prop) {m:Nat} (hm:m<N) (hi:Inv m f j p h nx)
  (step:∀ (m:Nat) (z4 z5 z6 z7 z8 z9 zC zE zJ zM zN zA zB zD zO zP zR zG zH:AV) (h:T Blk) (nx:Pa) (R:Ks Prop),Inv m z4 z5 z6 h nx->(∀ (m':Nat) (w4 w5 w6 w7 w8 w9 wC wE wH wI wJ wA wB wD wK wL wM wF wG:AV) (h':T Blk) (nx':Pa),m'<m->Inv m' w4 w5 w6 h' nx'->R (F93.fr c b d e w4 w5 w6 w7 w8 w9 wC wE i l o w y wH wI wJ wA wB wD wK wL wM wF wG P E A B Z x33 x34 x35) h' nx'=.ok True)->IR.run F93.t63 C N O R (F93.fr c b d e z4 z5 z6 z7 z8 z9 zC zE i l o w y zJ zM zN zA zB zD zO zP zR zG zH P E A B Z x33 x34 x35) h nx=.ok True) :
  IR.run F93.t64 C N O K (F93.fr c b d e f j p q s H a g i l o w y u v z D Q U L V G M W P E A B Z x33 x34 x35) h nx=.ok True:=by
 rw [F93.t64];refine yB (λm tm h nx=>∃ z4 z5 z6 z7 z8 z9 zC zE zJ zM zN zA zB zD zO zP zR zG zH,tm=(F93.fr c b d e z4 z5 z6 z7 z8 z9 zC zE i l o w y zJ zM zN zA zB zD zO zP zR zG zH P E A B Z x33 x34 x35)/\Inv m z4 z5 z6 h nx) ?_ hm ⟨_,_,_,_,_,_,_,_,_,_,_,_,_,_,_,_,_,_,_,rfl,hi⟩;rintro m tm h nx R ⟨z4,z5,z6,z7,z8,z9,zC,zE,zJ,zM,zN,zA,zB,zD,zO,zP,zR,zG,zH,rfl,hi⟩ hR;exact step m z4 z5 z6 z7 z8 z9 zC zE zJ zM zN zA zB zD zO zP zR zG zH h nx R hi λm' w4 w5 w6 w7 w8 w9 wC wE wH wI wJ wA wB wD wK wL wM wF wG h' nx' hlt hi'=>hR m' _ h' nx' hlt ⟨_,_,_,_,_,_,_,_,_,_,_,_,_,_,_,_,_,_,_,rfl,hi'⟩
theorem F93.znq:IR.run F93.t67 C N O K (F93.fr c b d e f j p q s H a g i l o w y u v z D Q U L V G M W P E A B Z x33 x34 x35) h nx =
 yN [.za,.za] h nx λv1 h2 n3=>K (F93.fr c b d e f j p q s H a g v1 l o w y u v z D Q U L V G M W P E A B Z x33 x34 x35) h2 n3:=by kernel_rfl
theorem F93.zfv:IR.run F93.t68 C N O K (F93.fr c b d e f j p q s H a g i l o w y u v z D Q U L V G M W P E A B Z x33 x34 x35) h nx =
 K (F93.fr c b d e f j p q s H a g i l o w y u v z D Q U L V G M W e (I 0) A B Z x33 x34 x35) h nx:=by kernel_rfl
theorem F93.zy2:IR.run F93.t69 C N O K (F93.fr c b d e f j p q s H a g i l o w y u v z D Q U L V G M W P E A B Z x33 x34 x35) h nx =
 ze .lss .int E P λv1=>K (F93.fr c b d e f j p q s H a g i l o w y u v z D Q U L V G M W P E v1 B Z x33 x34 x35) h nx:=by kernel_rfl
theorem F93.v30:Arg.ev (.t (.of 30)) ⟨(F93.fr c b d e f j p q s H a g i l o w y u v z D Q U L V G M W P E A B Z x33 x34 x35),[]⟩=A:=by kernel_rfl
theorem F93.zy3:IR.run F93.t71 C N O K (F93.fr c b d e f j p q s H a g i l o w y u v z D Q U L V G M W P E A B Z x33 x34 x35) h nx =
 K (F93.fr c b d e f j p q s H a g i E o w y u v z D Q U L V G M W P E A B Z x33 x34 x35) h nx:=by kernel_rfl
theorem F93.znr:IR.run F93.t72 C N O K (F93.fr c b d e f j p q s H a g i l o w y u v z D Q U L V G M W P E A B Z x33 x34 x35) h nx =
 C.fn 182 (.of 182) [j,l] h nx λv1 h2 n3=>K (F93.fr c b d e f j p q s H a g i l o w y u v z D Q U L V G M W P E A v1 Z x33 x34 x35) h2 n3:=by kernel_rfl
theorem F93.v31:Arg.ev (.t (.of 31)) ⟨(F93.fr c b d e f j p q s H a g i l o w y u v z D Q U L V G M W P E A B Z x33 x34 x35),[]⟩=B:=by kernel_rfl
theorem F93.zns:IR.run F93.t75 C N O K (F93.fr c b d e f j p q s H a g i l o w y u v z D Q U L V G M W P E A B Z x33 x34 x35) h nx =
 C.fn 105 (.of 105) [e] h nx λv1 h2 n3=>K (F93.fr c b d e f j p q s H a g i l v1 w y u v z D Q U L V G M W P E A B Z x33 x34 x35) h2 n3:=by kernel_rfl
theorem F93.zy4:IR.run F93.t76 C N O K (F93.fr c b d e f j p q s H a g i l o w y u v z D Q U L V G M W P E A B Z x33 x34 x35) h nx =
 C.fn 96 (.of 96) [(I 1)] h nx λv1 h2 n3=>zL 4 o l λv4=>zX 4 v4 v1 h2 n3 λv5 h6 n7=>K (F93.fr c b d e f j p q s H a g i l o w y u v z D Q U L V G M W P E A B Z x33 x34 x35) h6 n7:=by kernel_rfl
theorem F93.zy5:IR.run F93.t77 C N O K (F93.fr c b d e f j p q s H a g i l o w y u v z D Q U L V G M W P E A B Z x33 x34 x35) h nx =
 sLen j λv1=>K (F93.fr c b d e f j p q s H a g i l o w y u v z D Q U L V G M W P E A B j v1 (I 0) x35) h nx:=by kernel_rfl
theorem F93.zy6:IR.run F93.t78 C N O K (F93.fr c b d e f j p q s H a g i l o w y u v z D Q U L V G M W P E A B Z x33 x34 x35) h nx =
 ze .lss .int x34 x33 λv1=>K (F93.fr c b d e f j p q s H a g i l o w y u v z D Q U L V G M W P E A B Z x33 x34 v1) h nx:=by kernel_rfl
theorem F93.v35:Arg.ev (.t (.of 35)) ⟨(F93.fr c b d e f j p q s H a g i l o w y u v z D Q U L V G M W P E A B Z x33 x34 x35),[]⟩=x35:=by kernel_rfl
theorem F93.zy7:IR.run F93.t80 C N O K (F93.fr c b d e f j p q s H a g i l o w y u v z D Q U L V G M W P E A B Z x33 x34 x35) h nx =
 zL 1 Z x34 λv1=>zI v1 h λv2=>K (F93.fr c b d e f j p q s H a g i l o x34 v2 u v z D Q U L V G M W P E A B Z x33 x34 x35) h nx:=by kernel_rfl
theorem F93.zy8:IR.run F93.t81 C N O K (F93.fr c b d e f j p q s H a g i l o w y u v z D Q U L V G M W P E A B Z x33 x34 x35) h nx =
 zL 1 f w λv1=>zI v1 h λv2=>zL 4 v2 l λv3=>zF 4 v3 h λv4=>C.fn 107 (.of 107) [v4] h nx λv5 h6 n7=>zL 4 o y λv8=>zX 4 v8 v5 h6 n7 λv9 hC nD=>K (F93.fr c b d e f j p q s H a g i l o w y u v z D Q U L V G M W P E A B Z x33 x34 x35) hC nD:=by kernel_rfl
theorem F93.zy9:IR.run F93.t84 C N O K (F93.fr c b d e f j p q s H a g i l o w y u v z D Q U L V G M W P E A B Z x33 x34 x35) h nx =
 ze .add .int x34 (I 1) λv1=>K (F93.fr c b d e f j p q s H a g i l o w y u v z D Q U L V G M W P E A B Z x33 v1 x35) h nx:=by kernel_rfl
theorem F93.zza (Inv:Nat->AV->T Blk->Pa->Prop) {m:Nat} (hm:m<N) (hi:Inv m x34 h nx)
  (step:∀ (m:Nat) (zT zU zV zW:AV) (h:T Blk) (nx:Pa) (R:Ks Prop),Inv m zV h nx->(∀ (m':Nat) (wN wO wP wQ:AV) (h':T Blk) (nx':Pa),m'<m->Inv m' wP h' nx'->R (F93.fr c b d e f j p q s H a g i l o wN wO u v z D Q U L V G M W P E A B Z x33 wP wQ) h' nx'=.ok True)->IR.run F93.t87 C N O R (F93.fr c b d e f j p q s H a g i l o zT zU u v z D Q U L V G M W P E A B Z x33 zV zW) h nx=.ok True) :
  IR.run F93.t88 C N O K (F93.fr c b d e f j p q s H a g i l o w y u v z D Q U L V G M W P E A B Z x33 x34 x35) h nx=.ok True:=by
 rw [F93.t88];refine yB (λm tm h nx=>∃ zT zU zV zW,tm=(F93.fr c b d e f j p q s H a g i l o zT zU u v z D Q U L V G M W P E A B Z x33 zV zW)/\Inv m zV h nx) ?_ hm ⟨_,_,_,_,rfl,hi⟩;rintro m tm h nx R ⟨zT,zU,zV,zW,rfl,hi⟩ hR;exact step m zT zU zV zW h nx R hi λm' wN wO wP wQ h' nx' hlt hi'=>hR m' _ h' nx' hlt ⟨_,_,_,_,rfl,hi'⟩
theorem F93.zzb:IR.run F93.t91 C N O K (F93.fr c b d e f j p q s H a g i l o w y u v z D Q U L V G M W P E A B Z x33 x34 x35) h nx =
 zK 0 i λv1=>zI v1 h λv2=>sChk ((gL (nW 1 [(I 0)]) [(0,1,l)]).isSome&&true) (zK 1 i λv3=>zI v3 h λv4=>sChk ((gL (nW 1 [.za]) [(0,1,o)]).isSome&&true) (jI 1 1 [(I 0)] [(0,1,l)] h nx λv5 h6 n7=>zQ o o ((zI v3 h6 λvG=>zQ vG v4 ((zK 1 i λvH=>zQ vH v3 (zQ l l ((zI v1 h6 λvI=>zQ vI v2 ((zK 0 i λvJ=>zQ vJ v1 (sZ 1 8 v2 v5 h6 n7 λv8 h9 nA=>zQ o o ((zI v3 h9 λvK=>zQ vK v4 ((zK 1 i λvL=>zQ vL v3 (zQ l l ((zI v1 h9 λvM=>zQ vM v2 ((zK 0 i λvN=>zQ vN v1 (zK 0 i λvE=>jI 1 1 [.za] [(0,1,o)] h9 nA λvO hD nE=>(zK 0 i λvP=>zQ vP vE ((zI v3 hD λvQ=>zQ vQ v4 ((zK 1 i λvR=>zQ vR v3 (zQ l l ((zI v1 hD λvS=>zQ vS v2 ((zK 0 i λvT=>zQ vT v1 (sZ 1 24 v4 vO hD nE λvC hE nF=>(zK 0 i λvU=>zQ vU vE (zX 1 vE v8 hE nF λvV hF nG=>zK 1 i λvW=>zX 1 vW vC hF nG λvX hG nH=>K (F93.fr c b d e f j p q s H a g i l o w y u v z D Q U L V G M W P E A B Z x33 x34 x35) hG nH))))))))))))))))))))))))))))))))))):=by kernel_rfl
theorem F93.zuq:IR.run F93.t98 C N O K (F93.fr c b d e f j p q s H a g i l o w y u v z D Q U L V G M W P E A B Z x33 x34 x35) h nx =
 ze .add .int E (I 1) λv1=>K (F93.fr c b d e f j p q s H a g i l o w y u v z D Q U L V G M W P v1 A B Z x33 x34 x35) h nx:=by kernel_rfl
theorem F93.zwm (Inv:Nat->AV->T Blk->Pa->Prop) {m:Nat} (hm:m<N) (hi:Inv m E h nx)
  (step:∀ (m:Nat) (zY zZ zT zU z29 z30 z31 z32 z33 zV zW:AV) (h:T Blk) (nx:Pa) (R:Ks Prop),Inv m z29 h nx->(∀ (m':Nat) (wR wS wN wO wT wU wV wW wX wP wQ:AV) (h':T Blk) (nx':Pa),m'<m->Inv m' wT h' nx'->R (F93.fr c b d e f j p q s H a g i wR wS wN wO u v z D Q U L V G M W P wT wU wV wW wX wP wQ) h' nx'=.ok True)->IR.run F93.t101 C N O R (F93.fr c b d e f j p q s H a g i zY zZ zT zU u v z D Q U L V G M W P z29 z30 z31 z32 z33 zV zW) h nx=.ok True) :
  IR.run F93.t102 C N O K (F93.fr c b d e f j p q s H a g i l o w y u v z D Q U L V G M W P E A B Z x33 x34 x35) h nx=.ok True:=by
 rw [F93.t102];refine yB (λm tm h nx=>∃ zY zZ zT zU z29 z30 z31 z32 z33 zV zW,tm=(F93.fr c b d e f j p q s H a g i zY zZ zT zU u v z D Q U L V G M W P z29 z30 z31 z32 z33 zV zW)/\Inv m z29 h nx) ?_ hm ⟨_,_,_,_,_,_,_,_,_,_,_,rfl,hi⟩;rintro m tm h nx R ⟨zY,zZ,zT,zU,z29,z30,z31,z32,z33,zV,zW,rfl,hi⟩ hR;exact step m zY zZ zT zU z29 z30 z31 z32 z33 zV zW h nx R hi λm' wR wS wN wO wT wU wV wW wX wP wQ h' nx' hlt hi'=>hR m' _ h' nx' hlt ⟨_,_,_,_,_,_,_,_,_,_,_,rfl,hi'⟩
theorem F93.zwn:IR.run F93.t105 C N O K (F93.fr c b d e f j p q s H a g i l o w y u v z D Q U L V G M W P E A B Z x33 x34 x35) h nx =
 zF 2 i h λv1=>zX 2 d v1 h nx λv2 h3 n4=>K (F93.fr c b d e f j p q s H a g i l o w y u v z D Q U L V G M W P E A B Z x33 x34 x35) h3 n4:=by kernel_rfl
theorem F93.go:zS tbl N C (.of 93) [a0] h nx K0=IR.run F93.t113 C N (fnO F93.res K0) (zo F93.res K0) (F93.fr a0 .u .u .u .u .u .u .u .u .u .u .u .u .u .u .u .u .u .u .u .u .u .u .u .u .u .u .u .u .u .u .u .u .u .u .u) h nx:=yE (F:=F93) (by kernel_rfl) (λ_=>by kernel_rfl) (by kernel_rfl)
theorem F93.ret:zo F93.res K0 (F93.fr c b d e f j p q s H a g i l o w y u v z D Q U L V G M W P E A B Z x33 x34 x35) h nx=zF 2 d h λv1=>K0 v1 h nx:=by kernel_rfl
theorem F44.zy:IR.run F44.t0 C N O K (F44.fr c b d e f j p) h nx =
 wz c h nx λv1 h2 n3=>K (F44.fr c b v1 (.str []) f j p) h2 n3:=by kernel_rfl
theorem F44.zx:IR.run F44.t1 C N O K (F44.fr c b d e f j p) h nx =
 K (F44.fr c b d e (.str [48]) j p) h nx:=by kernel_rfl
theorem F44.jb:IR.run F44.t2 C N O K (F44.fr c b d e f j p) h nx =
 K (F44.fr c b d e f (I 0) p) h nx:=by kernel_rfl
theorem F44.dw:IR.run F44.t3 C N O K (F44.fr c b d e f j p) h nx =
 zK 1 d λv1=>zI v1 h λv2=>zL 1 v2 (I 0) λv3=>zI v3 h λv4=>sLen v4 λv5=>ze .lss .int j v5 λv6=>K (F44.fr c b d e f j v6) h nx:=by kernel_rfl
theorem F44.v6:Arg.ev (.t (.of 6)) ⟨(F44.fr c b d e f j p),[]⟩=p:=by kernel_rfl
theorem F44.qg:IR.run F44.t6 C N O K tm h nx=yG F44.r4_0 C ⟨tm,[]⟩ h nx (λtm h nx=>K tm.v h nx):=gD ..
theorem F44.zdr:yG (F44.zfp r) C ⟨(F44.fr c b d e f j p),[]⟩ h nx Kt =
 zK 1 d λv1=>zI v1 h λv2=>zL 1 v2 (I 0) λv3=>zI v3 h λv4=>zL 1 v4 j λv5=>yG r C ⟨(F44.fr c b d e f j p),v5::j::v4::v3::v2::v1::b::f::[]⟩ h nx Kt:=by kernel_rfl
theorem F44.zds:yG (F44.zfq r) C ⟨(F44.fr c b d e f j p),s0::s1::s2::s3::s4::s5::s6::s7::[]⟩ h nx Kt =
 zI s0 h λv1=>zL 1 s6 v1 λv2=>zI v2 h λv3=>C.fn 40 (.of 40) [s7,v3] h nx λv4 h5 n6=>yG r C ⟨(F44.fr c b d e f j p),v4::v3::v2::v1::s0::s1::s2::s3::s4::s5::s6::s7::[]⟩ h5 n6 Kt:=by kernel_rfl
theorem F44.zwo:yG (F44.zur []) C ⟨(F44.fr c b d e f j p),s0::sT⟩ h nx Kt =
 Kt ⟨(F44.fr c b d e s0 j p),s0::sT⟩ h nx:=by kernel_rfl
theorem F44.fE:IR.run F44.t8 C N O K (F44.fr c b d e f j p) h nx =
 ze .add .int j (I 1) λv1=>K (F44.fr c b d e f v1 p) h nx:=by kernel_rfl
theorem F44.aF (Inv:Nat->AV->AV->T Blk->Pa->Prop) {m:Nat} (hm:m<N) (hi:Inv m f j h nx)
  (step:∀ (m:Nat) (z4 z5 z6:AV) (h:T Blk) (nx:Pa) (R:Ks Prop),Inv m z4 z5 h nx->(∀ (m':Nat) (w4 w5 w6:AV) (h':T Blk) (nx':Pa),m'<m->Inv m' w4 w5 h' nx'->R (F44.fr c b d e w4 w5 w6) h' nx'=.ok True)->IR.run F44.t10 C N O R (F44.fr c b d e z4 z5 z6) h nx=.ok True) :
  IR.run F44.t11 C N O K (F44.fr c b d e f j p) h nx=.ok True:=by
 rw [F44.t11];refine yB (λm tm h nx=>∃ z4 z5 z6,tm=(F44.fr c b d e z4 z5 z6)/\Inv m z4 z5 h nx) ?_ hm ⟨_,_,_,rfl,hi⟩;rintro m tm h nx R ⟨z4,z5,z6,rfl,hi⟩ hR;exact step m z4 z5 z6 h nx R hi λm' w4 w5 w6 h' nx' hlt hi'=>hR m' _ h' nx' hlt ⟨_,_,_,rfl,hi'⟩
theorem F44.fT:IR.run F44.t14 C N O K (F44.fr c b d e f j p) h nx =
 K (F44.fr c b d f f j p) h nx:=by kernel_rfl
theorem F44.go:zS tbl N C (.of 44) [a0,a1] h nx K0=IR.run F44.t18 C N (fnO F44.res K0) (zo F44.res K0) (F44.fr a0 a1 .u .u .u .u .u) h nx:=yE (F:=F44) (by kernel_rfl) (λ_=>by kernel_rfl) (by kernel_rfl)
theorem F44.ret:zo F44.res K0 (F44.fr c b d e f j p) h nx=K0 e h nx:=by kernel_rfl
theorem F36.zy:IR.run F36.t0 C N O K (F36.fr c b d e f) h nx =
 K (F36.fr c .za d e f) h nx:=by kernel_rfl
theorem F36.zx:IR.run F36.t1 C N O K (F36.fr c b d e f) h nx =
 K (F36.fr c b .za e f) h nx:=by kernel_rfl
theorem F36.jb:IR.run F36.t2 C N O K (F36.fr c b d e f) h nx =
 K (F36.fr c b d (I 0) f) h nx:=by kernel_rfl
theorem F36.dw:IR.run F36.t3 C N O K (F36.fr c b d e f) h nx =
 ze .lss .int e c λv1=>K (F36.fr c b d e v1) h nx:=by kernel_rfl
theorem F36.v4:Arg.ev (.t (.of 4)) ⟨(F36.fr c b d e f),[]⟩=f:=by kernel_rfl
theorem F36.qg:IR.run F36.t6 C N O K (F36.fr c b d e f) h nx =
 jI 1 1 [(.str [])] [(0,1,(.str [48]))] h nx λv1 h2 n3=>sZ 1 16 d v1 h2 n3 λv4 h5 n6=>K (F36.fr c b v4 e f) h5 n6:=by kernel_rfl
theorem F36.fE:IR.run F36.t8 C N O K (F36.fr c b d e f) h nx =
 ze .add .int e (I 1) λv1=>K (F36.fr c b d v1 f) h nx:=by kernel_rfl
theorem F36.aF (Inv:Nat->AV->AV->T Blk->Pa->Prop) {m:Nat} (hm:m<N) (hi:Inv m d e h nx)
  (step:∀ (m:Nat) (z2 z3 z4:AV) (h:T Blk) (nx:Pa) (R:Ks Prop),Inv m z2 z3 h nx->(∀ (m':Nat) (w2 w3 w4:AV) (h':T Blk) (nx':Pa),m'<m->Inv m' w2 w3 h' nx'->R (F36.fr c b w2 w3 w4) h' nx'=.ok True)->IR.run F36.t10 C N O R (F36.fr c b z2 z3 z4) h nx=.ok True) :
  IR.run F36.t11 C N O K (F36.fr c b d e f) h nx=.ok True:=by
 rw [F36.t11];refine yB (λm tm h nx=>∃ z2 z3 z4,tm=(F36.fr c b z2 z3 z4)/\Inv m z2 z3 h nx) ?_ hm ⟨_,_,_,rfl,hi⟩;rintro m tm h nx R ⟨z2,z3,z4,rfl,hi⟩ hR;exact step m z2 z3 z4 h nx R hi λm' w2 w3 w4 h' nx' hlt hi'=>hR m' _ h' nx' hlt ⟨_,_,_,rfl,hi'⟩
theorem F36.fT:IR.run F36.t14 C N O K (F36.fr c b d e f) h nx =
 K (F36.fr c d d e f) h nx:=by kernel_rfl
theorem F36.go:zS tbl N C (.of 36) [a0] h nx K0=IR.run F36.t18 C N (fnO F36.res K0) (zo F36.res K0) (F36.fr a0 .u .u .u .u) h nx:=yE (F:=F36) (by kernel_rfl) (λ_=>by kernel_rfl) (by kernel_rfl)
theorem F36.ret:zo F36.res K0 (F36.fr c b d e f) h nx=K0 b h nx:=by kernel_rfl
theorem F98.zy:IR.run F98.t0 C N O K (F98.fr c b d e f j p) h nx =
 wz c h nx λv1 h2 n3=>K (F98.fr c b v1 .za f j p) h2 n3:=by kernel_rfl
theorem F98.zx:IR.run F98.t1 C N O K (F98.fr c b d e f j p) h nx =
 zK 0 d λv1=>zI v1 h λv2=>C.fn 36 (.of 36) [v2] h nx λv3 h4 n5=>K (F98.fr c b d e v3 j p) h4 n5:=by kernel_rfl
theorem F98.jb:IR.run F98.t2 C N O K (F98.fr c b d e f j p) h nx =
 K (F98.fr c b d e f (I 0) p) h nx:=by kernel_rfl
theorem F98.dw:IR.run F98.t3 C N O K (F98.fr c b d e f j p) h nx =
 zK 1 d λv1=>zI v1 h λv2=>zL 1 v2 b λv3=>zI v3 h λv4=>sLen v4 λv5=>ze .lss .int j v5 λv6=>K (F98.fr c b d e f j v6) h nx:=by kernel_rfl
theorem F98.v6:Arg.ev (.t (.of 6)) ⟨(F98.fr c b d e f j p),[]⟩=p:=by kernel_rfl
theorem F98.qg:IR.run F98.t6 C N O K (F98.fr c b d e f j p) h nx =
 zK 1 d λv1=>zI v1 h λv2=>zL 1 v2 b λv3=>zI v3 h λv4=>zL 1 v4 j λv5=>zI v5 h λv6=>zL 1 f v6 λv7=>zX 1 v7 (.str [49]) h nx λv8 h9 nA=>K (F98.fr c b d e f j p) h9 nA:=by kernel_rfl
theorem F98.fE:IR.run F98.t8 C N O K (F98.fr c b d e f j p) h nx =
 ze .add .int j (I 1) λv1=>K (F98.fr c b d e f v1 p) h nx:=by kernel_rfl
theorem F98.aF (Inv:Nat->AV->T Blk->Pa->Prop) {m:Nat} (hm:m<N) (hi:Inv m j h nx)
  (step:∀ (m:Nat) (z5 z6:AV) (h:T Blk) (nx:Pa) (R:Ks Prop),Inv m z5 h nx->(∀ (m':Nat) (w5 w6:AV) (h':T Blk) (nx':Pa),m'<m->Inv m' w5 h' nx'->R (F98.fr c b d e f w5 w6) h' nx'=.ok True)->IR.run F98.t10 C N O R (F98.fr c b d e f z5 z6) h nx=.ok True) :
  IR.run F98.t11 C N O K (F98.fr c b d e f j p) h nx=.ok True:=by
 rw [F98.t11];refine yB (λm tm h nx=>∃ z5 z6,tm=(F98.fr c b d e f z5 z6)/\Inv m z5 h nx) ?_ hm ⟨_,_,rfl,hi⟩;rintro m tm h nx R ⟨z5,z6,rfl,hi⟩ hR;exact step m z5 z6 h nx R hi λm' w5 w6 h' nx' hlt hi'=>hR m' _ h' nx' hlt ⟨_,_,rfl,hi'⟩
theorem F98.fT:IR.run F98.t14 C N O K (F98.fr c b d e f j p) h nx =
 K (F98.fr c b d f f j p) h nx:=by kernel_rfl
theorem F98.go:zS tbl N C (.of 98) [a0,a1] h nx K0=IR.run F98.t18 C N (fnO F98.res K0) (zo F98.res K0) (F98.fr a0 a1 .u .u .u .u .u) h nx:=yE (F:=F98) (by kernel_rfl) (λ_=>by kernel_rfl) (by kernel_rfl)
theorem F98.ret:zo F98.res K0 (F98.fr c b d e f j p) h nx=K0 e h nx:=by kernel_rfl
theorem fH.zy:IR.run fH.t0 C N O K (fH.fr c b d) h nx =
 K (fH.fr c .za d) h nx:=by kernel_rfl
theorem fH.zx:IR.run fH.t1 C N O K (fH.fr c b d) h nx =
 C.fn 190 (.of 190) [c] h nx λv1 h2 n3=>mg 0 v1 λv4=>mg 1 v1 λv5=>K (fH.fr c b v4) h2 n3:=by kernel_rfl
theorem fH.jb:IR.run fH.t2 C N O K (fH.fr c b d) h nx =
 K (fH.fr c d d) h nx:=by kernel_rfl
theorem fH.go:zS tbl N C (.of 100) [a0] h nx K0=IR.run fH.t5 C N (fnO fH.res K0) (zo fH.res K0) (fH.fr a0 .u .u) h nx:=yE (F:=fH) (by kernel_rfl) (λ_=>by kernel_rfl) (by kernel_rfl)
theorem fH.ret:zo fH.res K0 (fH.fr c b d) h nx=K0 b h nx:=by kernel_rfl
theorem yc.zy:IR.run yc.t0 C N O K (yc.fr c b d e f j p q s H a g) h nx =
 K (yc.fr c b .za e f j p q s H a g) h nx:=by kernel_rfl
theorem yc.zx:IR.run yc.t1 C N O K (yc.fr c b d e f j p q s H a g) h nx =
 C.fn 190 (.of 190) [c] h nx λv1 h2 n3=>mg 0 v1 λv4=>mg 1 v1 λv5=>K (yc.fr c b d v4 v5 j p q s H a g) h2 n3:=by kernel_rfl
theorem yc.jb:IR.run yc.t2 C N O K (yc.fr c b d e f j p q s H a g) h nx =
 K (yc.fr c b d e f .za p q s H a g) h nx:=by kernel_rfl
theorem yc.dw:IR.run yc.t3 C N O K (yc.fr c b d e f j p q s H a g) h nx =
 K (yc.fr c b d e f j (I 0) q s H a g) h nx:=by kernel_rfl
theorem yc.rD:IR.run yc.t4 C N O K (yc.fr c b d e f j p q s H a g) h nx =
 ze .lss .int p b λv1=>K (yc.fr c b d e f j p q s v1 a g) h nx:=by kernel_rfl
theorem yc.v9:Arg.ev (.t (.of 9)) ⟨(yc.fr c b d e f j p q s H a g),[]⟩=H:=by kernel_rfl
theorem yc.fU:IR.run yc.t7 C N O K (yc.fr c b d e f j p q s H a g) h nx =
 C.fn 191 (.of 191) [f,p] h nx λv1 h2 n3=>K (yc.fr c b d e f j p q s H v1 g) h2 n3:=by kernel_rfl
theorem yc.v10:Arg.ev (.t (.of 10)) ⟨(yc.fr c b d e f j p q s H a g),[]⟩=a:=by kernel_rfl
theorem yc.sV:IR.run yc.t10 C N O K (yc.fr c b d e f j p q s H a g) h nx =
 C.fn 36 (.of 36) [b] h nx λv1 h2 n3=>K (yc.fr c b d e f j p v1 s H a g) h2 n3:=by kernel_rfl
theorem yc.pu:IR.run yc.t11 C N O K (yc.fr c b d e f j p q s H a g) h nx =
 zL 1 q p λv1=>zX 1 v1 (.str [49]) h nx λv2 h3 n4=>K (yc.fr c b d e f j p q s H a g) h3 n4:=by kernel_rfl
theorem yc.ni:IR.run yc.t12 C N O K (yc.fr c b d e f j p q s H a g) h nx =
 K (yc.fr c b d e f j p q (I 0) H a g) h nx:=by kernel_rfl
theorem yc.rM:IR.run yc.t13 C N O K (yc.fr c b d e f j p q s H a g) h nx =
 sLen f λv1=>ze .lss .int s v1 λv2=>K (yc.fr c b d e f j p q s H a v2) h nx:=by kernel_rfl
theorem yc.v11:Arg.ev (.t (.of 11)) ⟨(yc.fr c b d e f j p q s H a g),[]⟩=g:=by kernel_rfl
theorem yc.au:IR.run yc.t16 C N O K (yc.fr c b d e f j p q s H a g) h nx =
 zL 1 f s λv1=>zI v1 h λv2=>zL 1 e s λv3=>zI v3 h λv4=>zL 1 v4 p λv5=>zI v5 h λv6=>C.fn 189 (.of 189) [v6] h nx λv7 h8 n9=>(zI v1 h8 λvC=>zQ vC v2 ((zL 1 f s λvD=>zQ vD v1 (zQ s s (zQ f f (zQ q q (zL 1 q v2 λvF=>zX 1 vF v7 h8 n9 λvE hA nB=>K (yc.fr c b d e f j p q s H a g) hA nB))))))):=by kernel_rfl
theorem yc.zfm:IR.run yc.t18 C N O K (yc.fr c b d e f j p q s H a g) h nx =
 ze .add .int s (I 1) λv1=>K (yc.fr c b d e f j p q v1 H a g) h nx:=by kernel_rfl
theorem yc.znk (Inv:Nat->AV->T Blk->Pa->Prop) {m:Nat} (hm:m<N) (hi:Inv m s h nx)
  (step:∀ (m:Nat) (z8 zE:AV) (h:T Blk) (nx:Pa) (R:Ks Prop),Inv m z8 h nx->(∀ (m':Nat) (w8 wE:AV) (h':T Blk) (nx':Pa),m'<m->Inv m' w8 h' nx'->R (yc.fr c b d e f j p q w8 H a wE) h' nx'=.ok True)->IR.run yc.t20 C N O R (yc.fr c b d e f j p q z8 H a zE) h nx=.ok True) :
  IR.run yc.t21 C N O K (yc.fr c b d e f j p q s H a g) h nx=.ok True:=by
 rw [yc.t21];refine yB (λm tm h nx=>∃ z8 zE,tm=(yc.fr c b d e f j p q z8 H a zE)/\Inv m z8 h nx) ?_ hm ⟨_,_,rfl,hi⟩;rintro m tm h nx R ⟨z8,zE,rfl,hi⟩ hR;exact step m z8 zE h nx R hi λm' w8 wE h' nx' hlt hi'=>hR m' _ h' nx' hlt ⟨_,_,rfl,hi'⟩
theorem yc.eY:IR.run yc.t24 C N O K (yc.fr c b d e f j p q s H a g) h nx =
 jI 1 1 [.za] [(0,1,q)] h nx λv1 h2 n3=>sZ 1 24 j v1 h2 n3 λv4 h5 n6=>K (yc.fr c b d e f v4 p q s H a g) h5 n6:=by kernel_rfl
theorem yc.zj2:IR.run yc.t30 C N O K (yc.fr c b d e f j p q s H a g) h nx =
 ze .add .int p (I 1) λv1=>K (yc.fr c b d e f j v1 q s H a g) h nx:=by kernel_rfl
theorem yc.zzc (Inv:Nat->AV->AV->T Blk->Pa->Prop) {m:Nat} (hm:m<N) (hi:Inv m j p h nx)
  (step:∀ (m:Nat) (z5 z6 z7 z8 z9 zC zE:AV) (h:T Blk) (nx:Pa) (R:Ks Prop),Inv m z5 z6 h nx->(∀ (m':Nat) (w5 w6 w7 w8 w9 wC wE:AV) (h':T Blk) (nx':Pa),m'<m->Inv m' w5 w6 h' nx'->R (yc.fr c b d e f w5 w6 w7 w8 w9 wC wE) h' nx'=.ok True)->IR.run yc.t32 C N O R (yc.fr c b d e f z5 z6 z7 z8 z9 zC zE) h nx=.ok True) :
  IR.run yc.t33 C N O K (yc.fr c b d e f j p q s H a g) h nx=.ok True:=by
 rw [yc.t33];refine yB (λm tm h nx=>∃ z5 z6 z7 z8 z9 zC zE,tm=(yc.fr c b d e f z5 z6 z7 z8 z9 zC zE)/\Inv m z5 z6 h nx) ?_ hm ⟨_,_,_,_,_,_,_,rfl,hi⟩;rintro m tm h nx R ⟨z5,z6,z7,z8,z9,zC,zE,rfl,hi⟩ hR;exact step m z5 z6 z7 z8 z9 zC zE h nx R hi λm' w5 w6 w7 w8 w9 wC wE h' nx' hlt hi'=>hR m' _ h' nx' hlt ⟨_,_,_,_,_,_,_,rfl,hi'⟩
theorem yc.zfu:IR.run yc.t36 C N O K (yc.fr c b d e f j p q s H a g) h nx =
 C.fn 100 (.of 100) [j] h nx λv1 h2 n3=>K (yc.fr c b v1 e f j p q s H a g) h2 n3:=by kernel_rfl
theorem yc.go:zS tbl N C (.of 101) [a0,a1] h nx K0=IR.run yc.t41 C N (fnO yc.res K0) (zo yc.res K0) (yc.fr a0 a1 .u .u .u .u .u .u .u .u .u .u) h nx:=yE (F:=yc) (by kernel_rfl) (λ_=>by kernel_rfl) (by kernel_rfl)
theorem yc.ret:zo yc.res K0 (yc.fr c b d e f j p q s H a g) h nx=K0 d h nx:=by kernel_rfl
theorem gm.zy:IR.run gm.t0 C N O K (gm.fr c b d e f j) h nx =
 K (gm.fr c b (.bool false) e f j) h nx:=by kernel_rfl
theorem gm.zx:IR.run gm.t1 C N O K (gm.fr c b d e f j) h nx =
 K (gm.fr c b d (I 0) f j) h nx:=by kernel_rfl
theorem gm.jb:IR.run gm.t2 C N O K (gm.fr c b d e f j) h nx =
 sLen c λv1=>ze .lss .int e v1 λv2=>K (gm.fr c b d e v2 j) h nx:=by kernel_rfl
theorem gm.v4:Arg.ev (.t (.of 4)) ⟨(gm.fr c b d e f j),[]⟩=f:=by kernel_rfl
theorem gm.rE:IR.run gm.t5 C N O K (gm.fr c b d e f j) h nx =
 zL 1 c e λv1=>zI v1 h λv2=>ze .eql .int v2 b λv3=>K (gm.fr c b d e f v3) h nx:=by kernel_rfl
theorem gm.qg:IR.run gm.t6 C N O K (gm.fr c b d e f j) h nx =
 K (gm.fr c b (.bool true) e f j) h nx:=by kernel_rfl
theorem gm.v5:Arg.ev (.t (.of 5)) ⟨(gm.fr c b d e f j),[]⟩=j:=by kernel_rfl
theorem gm.pu:IR.run gm.t11 C N O K (gm.fr c b d e f j) h nx =
 ze .add .int e (I 1) λv1=>K (gm.fr c b d v1 f j) h nx:=by kernel_rfl
theorem gm.zfl (Inv:Nat->AV->T Blk->Pa->Prop) {m:Nat} (hm:m<N) (hi:Inv m e h nx)
  (step:∀ (m:Nat) (z2 z3 z4 z5:AV) (h:T Blk) (nx:Pa) (R:Ks Prop),Inv m z3 h nx->(∀ (m':Nat) (w2 w3 w4 w5:AV) (h':T Blk) (nx':Pa),m'<m->Inv m' w3 h' nx'->R (gm.fr c b w2 w3 w4 w5) h' nx'=.ok True)->IR.run gm.t13 C N O R (gm.fr c b z2 z3 z4 z5) h nx=.ok True) :
  IR.run gm.t14 C N O K (gm.fr c b d e f j) h nx=.ok True:=by
 rw [gm.t14];refine yB (λm tm h nx=>∃ z2 z3 z4 z5,tm=(gm.fr c b z2 z3 z4 z5)/\Inv m z3 h nx) ?_ hm ⟨_,_,_,_,rfl,hi⟩;rintro m tm h nx R ⟨z2,z3,z4,z5,rfl,hi⟩ hR;exact step m z2 z3 z4 z5 h nx R hi λm' w2 w3 w4 w5 h' nx' hlt hi'=>hR m' _ h' nx' hlt ⟨_,_,_,_,rfl,hi'⟩
theorem gm.sW:IR.run gm.t17 C N O K (gm.fr c b d e f j) h nx =
 K (gm.fr c b (.bool false) e f j) h nx:=by kernel_rfl
theorem gm.go:zS tbl N C (.of 191) [a0,a1] h nx K0=IR.run gm.t20 C N (fnO gm.res K0) (zo gm.res K0) (gm.fr a0 a1 .u .u .u .u) h nx:=yE (F:=gm) (by kernel_rfl) (λ_=>by kernel_rfl) (by kernel_rfl)
theorem gm.ret:zo gm.res K0 (gm.fr c b d e f j) h nx=K0 d h nx:=by kernel_rfl
theorem F26.zy:IR.run F26.t0 C N O K (F26.fr c b d e f j p q s H) h nx =
 wz c h nx λv1 h2 n3=>K (F26.fr c v1 .za e f j p q s H) h2 n3:=by kernel_rfl
theorem F26.zx:IR.run F26.t1 C N O K (F26.fr c b d e f j p q s H) h nx =
 K (F26.fr c b d .za f j p q s H) h nx:=by kernel_rfl
theorem F26.jb:IR.run F26.t2 C N O K (F26.fr c b d e f j p q s H) h nx =
 K (F26.fr c b d e (I 1) j p q s H) h nx:=by kernel_rfl
theorem F26.dw:IR.run F26.t3 C N O K (F26.fr c b d e f j p q s H) h nx =
 zK 1 b λv1=>zI v1 h λv2=>sLen v2 λv3=>ze .lss .int f v3 λv4=>K (F26.fr c b d e f j p q v4 H) h nx:=by kernel_rfl
theorem F26.v8:Arg.ev (.t (.of 8)) ⟨(F26.fr c b d e f j p q s H),[]⟩=s:=by kernel_rfl
theorem F26.qg:IR.run F26.t6 C N O K (F26.fr c b d e f j p q s H) h nx =
 zF 2 b h λv1=>C.fn 98 (.of 98) [v1,f] h nx λv2 h3 n4=>K (F26.fr c b d e f v2 p q s H) h3 n4:=by kernel_rfl
theorem F26.fU:IR.run F26.t7 C N O K (F26.fr c b d e f j p q s H) h nx =
 zF 2 b h λv1=>C.fn 98 (.of 98) [v1,(I 0)] h nx λv2 h3 n4=>K (F26.fr c b d e f j v2 q s H) h3 n4:=by kernel_rfl
theorem F26.fE:IR.run F26.t8 C N O K (F26.fr c b d e f j p q s H) h nx =
 K (F26.fr c b d e f j p (I 0) s H) h nx:=by kernel_rfl
theorem F26.rF:IR.run F26.t9 C N O K (F26.fr c b d e f j p q s H) h nx =
 sLen j λv1=>ze .lss .int q v1 λv2=>K (F26.fr c b d e f j p q s v2) h nx:=by kernel_rfl
theorem F26.v9:Arg.ev (.t (.of 9)) ⟨(F26.fr c b d e f j p q s H),[]⟩=H:=by kernel_rfl
theorem F26.ni:IR.run F26.t12 C N O K (F26.fr c b d e f j p q s H) h nx =
 zL 1 j q λv1=>zI v1 h λv2=>zL 1 p q λv3=>zI v3 h λv4=>C.fn 99 (.of 99) [v2,v4] h nx λv5 h6 n7=>zQ q q (zQ j j (zL 1 j q λv8=>zX 1 v8 v5 h6 n7 λv9 hC nD=>K (F26.fr c b d e f j p q s H) hC nD)):=by kernel_rfl
theorem F26.fT:IR.run F26.t14 C N O K (F26.fr c b d e f j p q s H) h nx =
 ze .add .int q (I 1) λv1=>K (F26.fr c b d e f j p v1 s H) h nx:=by kernel_rfl
theorem F26.zzd (Inv:Nat->AV->T Blk->Pa->Prop) {m:Nat} (hm:m<N) (hi:Inv m q h nx)
  (step:∀ (m:Nat) (z7 z9:AV) (h:T Blk) (nx:Pa) (R:Ks Prop),Inv m z7 h nx->(∀ (m':Nat) (w7 w9:AV) (h':T Blk) (nx':Pa),m'<m->Inv m' w7 h' nx'->R (F26.fr c b d e f j p w7 s w9) h' nx'=.ok True)->IR.run F26.t16 C N O R (F26.fr c b d e f j p z7 s z9) h nx=.ok True) :
  IR.run F26.t17 C N O K (F26.fr c b d e f j p q s H) h nx=.ok True:=by
 rw [F26.t17];refine yB (λm tm h nx=>∃ z7 z9,tm=(F26.fr c b d e f j p z7 s z9)/\Inv m z7 h nx) ?_ hm ⟨_,_,rfl,hi⟩;rintro m tm h nx R ⟨z7,z9,rfl,hi⟩ hR;exact step m z7 z9 h nx R hi λm' w7 w9 h' nx' hlt hi'=>hR m' _ h' nx' hlt ⟨_,_,rfl,hi'⟩
theorem F26.aD:IR.run F26.t20 C N O K (F26.fr c b d e f j p q s H) h nx =
 jI 1 1 [.za] [(0,1,j)] h nx λv1 h2 n3=>sZ 1 24 e v1 h2 n3 λv4 h5 n6=>K (F26.fr c b d v4 f j p q s H) h5 n6:=by kernel_rfl
theorem F26.zaf:IR.run F26.t25 C N O K (F26.fr c b d e f j p q s H) h nx =
 ze .add .int f (I 1) λv1=>K (F26.fr c b d e v1 j p q s H) h nx:=by kernel_rfl
theorem F26.zze (Inv:Nat->AV->AV->T Blk->Pa->Prop) {m:Nat} (hm:m<N) (hi:Inv m e f h nx)
  (step:∀ (m:Nat) (z3 z4 z5 z6 z7 z8 z9:AV) (h:T Blk) (nx:Pa) (R:Ks Prop),Inv m z3 z4 h nx->(∀ (m':Nat) (w3 w4 w5 w6 w7 w8 w9:AV) (h':T Blk) (nx':Pa),m'<m->Inv m' w3 w4 h' nx'->R (F26.fr c b d w3 w4 w5 w6 w7 w8 w9) h' nx'=.ok True)->IR.run F26.t27 C N O R (F26.fr c b d z3 z4 z5 z6 z7 z8 z9) h nx=.ok True) :
  IR.run F26.t28 C N O K (F26.fr c b d e f j p q s H) h nx=.ok True:=by
 rw [F26.t28];refine yB (λm tm h nx=>∃ z3 z4 z5 z6 z7 z8 z9,tm=(F26.fr c b d z3 z4 z5 z6 z7 z8 z9)/\Inv m z3 z4 h nx) ?_ hm ⟨_,_,_,_,_,_,_,rfl,hi⟩;rintro m tm h nx R ⟨z3,z4,z5,z6,z7,z8,z9,rfl,hi⟩ hR;exact step m z3 z4 z5 z6 z7 z8 z9 h nx R hi λm' w3 w4 w5 w6 w7 w8 w9 h' nx' hlt hi'=>hR m' _ h' nx' hlt ⟨_,_,_,_,_,_,_,rfl,hi'⟩
theorem F26.znt:IR.run F26.t31 C N O K (F26.fr c b d e f j p q s H) h nx =
 zK 0 b λv1=>zI v1 h λv2=>C.fn 101 (.of 101) [e,v2] h nx λv3 h4 n5=>C.fn 100 (.of 100) [v3] h4 n5 λv6 h7 n8=>K (F26.fr c b v6 e f j p q s H) h7 n8:=by kernel_rfl
theorem F26.go:zS tbl N C (.of 26) [a0] h nx K0=IR.run F26.t35 C N (fnO F26.res K0) (zo F26.res K0) (F26.fr a0 .u .u .u .u .u .u .u .u .u) h nx:=yE (F:=F26) (by kernel_rfl) (λ_=>by kernel_rfl) (by kernel_rfl)
theorem F26.ret:zo F26.res K0 (F26.fr c b d e f j p q s H) h nx=K0 d h nx:=by kernel_rfl
theorem F35.zy:IR.run F35.t0 C N O K (F35.fr c b d e f) h nx =
 wz c h nx λv1 h2 n3=>K (F35.fr c b d v1 (.bool false)) h2 n3:=by kernel_rfl
theorem F35.zx:IR.run F35.t1 C N O K tm h nx=yG F35.tX C ⟨tm,[]⟩ h nx (λtm h nx=>K tm.v h nx):=gD ..
theorem F35.tY:yG (F35.tF r) C ⟨(F35.fr c b d e f),[]⟩ h nx Kt =
 zF 2 e h λv1=>C.fn 16 (.of 16) [v1,b,d] h nx λv2 h3 n4=>yG r C ⟨(F35.fr c b d e f),v2::d::b::v1::[]⟩ h3 n4 Kt:=by kernel_rfl
theorem F35.tK:yG (F35.tH r) C ⟨(F35.fr c b d e f),s0::sT⟩ h nx Kt =
 sG s0 true (λk=>zF 2 e h k) λv1=>sGW s0 true (λk=>C.fn 19 (.of 19) [v1] h nx k) h nx λv2 h3 n4=>yG r C ⟨(F35.fr c b d e f),v2::v1::s0::s0::sT⟩ h3 n4 Kt:=by kernel_rfl
theorem F35.znu:yG (F35.zus r) C ⟨(F35.fr c b d e f),s0::s1::s2::sT⟩ h nx Kt =
 sG s2 true (λk=>ze .eql .int s0 (I 0) k) λv1=>yS s2 v1 (.bool false) λv2=>sG v2 true (λk=>zK 0 e k) λv3=>sG v2 true (λk=>zI v3 h k) λv4=>sG v2 true (λk=>k b) λv5=>sG v2 true (λk=>ze .leq .int v4 v5 k) λv6=>yS v2 v6 (.bool false) λv7=>yG r C ⟨(F35.fr c b d e f),v7::v6::v5::v4::v3::v2::v2::v1::s0::s1::s2::sT⟩ h nx Kt:=by kernel_rfl
theorem F35.zh8:yG (F35.zut []) C ⟨(F35.fr c b d e f),s0::sT⟩ h nx Kt =
 Kt ⟨(F35.fr c b d e s0),s0::sT⟩ h nx:=by kernel_rfl
theorem F35.go:zS tbl N C (.of 35) [a0,a1,a2] h nx K0=IR.run F35.t3 C N (fnO F35.res K0) (zo F35.res K0) (F35.fr a0 a1 a2 .u .u) h nx:=yE (F:=F35) (by kernel_rfl) (λ_=>by kernel_rfl) (by kernel_rfl)
theorem F35.ret:zo F35.res K0 (F35.fr c b d e f) h nx=K0 f h nx:=by kernel_rfl
theorem F22.zy:IR.run F22.t0 C N O K (F22.fr c b d e) h nx =
 wz c h nx λv1 h2 n3=>K (F22.fr c v1 (.bool false) e) h2 n3:=by kernel_rfl
theorem F22.zx:IR.run F22.t1 C N O K (F22.fr c b d e) h nx =
 zF 2 b h λv1=>C.fn 16 (.of 16) [v1,(I 40),(I 130)] h nx λv2 h3 n4=>eX v2 λv5=>K (F22.fr c b d v5) h3 n4:=by kernel_rfl
theorem F22.jb:IR.run F22.t2 C N O K (F22.fr c b d e) h nx =
 K (F22.fr c b (.bool false) e) h nx:=by kernel_rfl
theorem F22.v3:Arg.ev (.t (.of 3)) ⟨(F22.fr c b d e),[]⟩=e:=by kernel_rfl
theorem F22.qg:IR.run F22.t6 C N O K (F22.fr c b d e) h nx =
 zF 2 b h λv1=>C.fn 19 (.of 19) [v1] h nx λv2 h3 n4=>ze .neq .int v2 (I 0) λv5=>sG v5 false (λk=>zF 2 b h3 k) λv6=>sGW v5 false (λk=>C.fn 35 (.of 35) [v6,(I 16),(I 12)] h3 n4 k) h3 n4 λv7 h8 n9=>yS v5 (.bool true) v7 λvF=>K (F22.fr c b vF e) h8 n9:=by kernel_rfl
theorem F22.go:zS tbl N C (.of 22) [a0] h nx K0=IR.run F22.t9 C N (fnO F22.res K0) (zo F22.res K0) (F22.fr a0 .u .u .u) h nx:=yE (F:=F22) (by kernel_rfl) (λ_=>by kernel_rfl) (by kernel_rfl)
theorem F22.ret:zo F22.res K0 (F22.fr c b d e) h nx=K0 d h nx:=by kernel_rfl
theorem nY.zy:IR.run nY.t0 C N O K (nY.fr c b d) h nx =
 K (nY.fr c b (.bool false)) h nx:=by kernel_rfl
theorem nY.zx:IR.run nY.t1 C N O K (nY.fr c b d) h nx =
 C.fn 199 (.of 199) [c,b] h nx λv1 h2 n3=>ze .geq .int v1 (I 0) λv4=>K (nY.fr c b v4) h2 n3:=by kernel_rfl
theorem nY.go:zS tbl N C (.of 116) [a0,a1] h nx K0=IR.run nY.t3 C N (fnO nY.res K0) (zo nY.res K0) (nY.fr a0 a1 .u) h nx:=yE (F:=nY) (by kernel_rfl) (λ_=>by kernel_rfl) (by kernel_rfl)
theorem nY.ret:zo nY.res K0 (nY.fr c b d) h nx=K0 d h nx:=by kernel_rfl
theorem nZ.zy:IR.run nZ.t0 C N O K (nZ.fr c b d e) h nx =
 wz c h nx λv1 h2 n3=>K (nZ.fr c b v1 (.bool false)) h2 n3:=by kernel_rfl
theorem nZ.zx:IR.run nZ.t1 C N O K (nZ.fr c b d e) h nx =
 zK 0 d λv1=>zF 4 v1 h λv2=>zF 4 b h λv3=>zK 4 d λv4=>zF 4 v4 h λv5=>C.fn 119 (.of 119) [v3,v5] h nx λv6 h7 n8=>(zF 4 v1 h7 λvD=>zQ vD v2 ((zK 0 d λvY=>zQ vY v1 (C.fn 118 (.of 118) [v2,v6] h7 n8 λv9 hC nD=>eX v9 λvO=>K (nZ.fr c b d vO) hC nD)))):=by kernel_rfl
theorem nZ.go:zS tbl N C (.of 117) [a0,a1] h nx K0=IR.run nZ.t3 C N (fnO nZ.res K0) (zo nZ.res K0) (nZ.fr a0 a1 .u .u) h nx:=yE (F:=nZ) (by kernel_rfl) (λ_=>by kernel_rfl) (by kernel_rfl)
theorem nZ.ret:zo nZ.res K0 (nZ.fr c b d e) h nx=K0 e h nx:=by kernel_rfl
theorem ji.zy:IR.run ji.t0 C N O K (ji.fr c b d e f j p q) h nx =
 K (ji.fr c b (I 0) e f j p q) h nx:=by kernel_rfl
theorem ji.zx:IR.run ji.t1 C N O K (ji.fr c b d e f j p q) h nx =
 sLen c λv1=>K (ji.fr c b d e v1 (I 0) p q) h nx:=by kernel_rfl
theorem ji.jb:IR.run ji.t2 C N O K (ji.fr c b d e f j p q) h nx =
 ze .lss .int j f λv1=>K (ji.fr c b d e f j v1 q) h nx:=by kernel_rfl
theorem ji.v6:Arg.ev (.t (.of 6)) ⟨(ji.fr c b d e f j p q),[]⟩=p:=by kernel_rfl
theorem ji.rD:IR.run ji.t4 C N O K (ji.fr c b d e f j p q) h nx =
 K (ji.fr c b d j f j p q) h nx:=by kernel_rfl
theorem ji.rE:IR.run ji.t5 C N O K (ji.fr c b d e f j p q) h nx =
 zL 8 c e λv1=>zF 8 v1 h λv2=>zae C b [v2] h nx λv3 h4 n5=>K (ji.fr c b d e f j p v3) h4 n5:=by kernel_rfl
theorem ji.qg:IR.run ji.t6 C N O K (ji.fr c b d e f j p q) h nx =
 K (ji.fr c b e e f j p q) h nx:=by kernel_rfl
theorem ji.v7:Arg.ev (.t (.of 7)) ⟨(ji.fr c b d e f j p q),[]⟩=q:=by kernel_rfl
theorem ji.ni:IR.run ji.t12 C N O K (ji.fr c b d e f j p q) h nx =
 ze .add .int j (I 1) λv1=>K (ji.fr c b d e f v1 p q) h nx:=by kernel_rfl
theorem ji.zab (Inv:Nat->AV->T Blk->Pa->Prop) {m:Nat} (hm:m<N) (hi:Inv m j h nx)
  (step:∀ (m:Nat) (z2 z3 z5 z6 z7:AV) (h:T Blk) (nx:Pa) (R:Ks Prop),Inv m z5 h nx->(∀ (m':Nat) (w2 w3 w5 w6 w7:AV) (h':T Blk) (nx':Pa),m'<m->Inv m' w5 h' nx'->R (ji.fr c b w2 w3 f w5 w6 w7) h' nx'=.ok True)->IR.run ji.t15 C N O R (ji.fr c b z2 z3 f z5 z6 z7) h nx=.ok True) :
  IR.run ji.t16 C N O K (ji.fr c b d e f j p q) h nx=.ok True:=by
 rw [ji.t16];refine yB (λm tm h nx=>∃ z2 z3 z5 z6 z7,tm=(ji.fr c b z2 z3 f z5 z6 z7)/\Inv m z5 h nx) ?_ hm ⟨_,_,_,_,_,rfl,hi⟩;rintro m tm h nx R ⟨z2,z3,z5,z6,z7,rfl,hi⟩ hR;exact step m z2 z3 z5 z6 z7 h nx R hi λm' w2 w3 w5 w6 w7 h' nx' hlt hi'=>hR m' _ h' nx' hlt ⟨_,_,_,_,_,rfl,hi'⟩
theorem ji.rX:IR.run ji.t19 C N O K (ji.fr c b d e f j p q) h nx =
 K (ji.fr c b (I (-1)) e f j p q) h nx:=by kernel_rfl
theorem ji.go:zS tbl N C (.of 199) [a0,a1] h nx K0=IR.run ji.t22 C N (fnO ji.res K0) (zo ji.res K0) (ji.fr a0 a1 .u .u .u .u .u .u) h nx:=yE (F:=ji) (by kernel_rfl) (λ_=>by kernel_rfl) (by kernel_rfl)
theorem ji.ret:zo ji.res K0 (ji.fr c b d e f j p q) h nx=K0 d h nx:=by kernel_rfl
theorem rq.zy:IR.run rq.t0 C N O K (rq.fr c b d e) h nx =
 wz c h nx λv1 h2 n3=>K (rq.fr c v1 (I 0) (.bool false)) h2 n3:=by kernel_rfl
theorem rq.zx:IR.run rq.t1 C N O K (rq.fr c b d e) h nx =
 zK 0 b λv1=>zI v1 h λv2=>zK 1 b λv3=>zI v3 h λv4=>ze .eql (.nil .sl) v4 .za λv5=>K (rq.fr c b v2 v5) h nx:=by kernel_rfl
theorem rq.go:zS tbl N C (.of 121) [a0] h nx K0=IR.run rq.t3 C N (fnO rq.res K0) (zo rq.res K0) (rq.fr a0 .u .u .u) h nx:=yE (F:=rq) (by kernel_rfl) (λ_=>by kernel_rfl) (by kernel_rfl)
theorem rq.ret:zo rq.res K0 (rq.fr c b d e) h nx=K0 (.tup [d,e]) h nx:=by kernel_rfl
theorem F33.zy:IR.run F33.t0 C N O K (F33.fr c b d e f j p q s H a g i l o w y u v z D Q U L V G M W P E A B) h nx =
 wz c h nx λv1 h2 n3=>K (F33.fr c v1 (I 0) (I 0) f j p q s H a g i l o w y u v z D Q U L V G M W P E A B) h2 n3:=by kernel_rfl
theorem F33.zx:IR.run F33.t1 C N O K (F33.fr c b d e f j p q s H a g i l o w y u v z D Q U L V G M W P E A B) h nx =
 zF 2 b h λv1=>C.fn 18 (.of 18) [v1] h nx λv2 h3 n4=>K (F33.fr c b d e v2 j p q s H a g i l o w y u v z D Q U L V G M W P E A B) h3 n4:=by kernel_rfl
theorem F33.jb:IR.run F33.t2 C N O K (F33.fr c b d e f j p q s H a g i l o w y u v z D Q U L V G M W P E A B) h nx =
 ze .neq .int f (I 0) λv1=>K (F33.fr c b d e f j p q s H a g i l o v1 y u v z D Q U L V G M W P E A B) h nx:=by kernel_rfl
theorem F33.dw:IR.run F33.t3 C N O K (F33.fr c b d e f j p q s H a g i l o w y u v z D Q U L V G M W P E A B) h nx =
 K (F33.fr c b (I 0) f f j p q s H a g i l o w y u v z D Q U L V G M W P E A B) h nx:=by kernel_rfl
theorem F33.v15:Arg.ev (.t (.of 15)) ⟨(F33.fr c b d e f j p q s H a g i l o w y u v z D Q U L V G M W P E A B),[]⟩=w:=by kernel_rfl
theorem F33.fE:IR.run F33.t8 C N O K (F33.fr c b d e f j p q s H a g i l o w y u v z D Q U L V G M W P E A B) h nx =
 zK 1 b λv1=>zI v1 h λv2=>sLen v2 λv3=>ze .eql .int v3 (I 0) λv4=>K (F33.fr c b d e f j p q s H a g i l o w v4 u v z D Q U L V G M W P E A B) h nx:=by kernel_rfl
theorem F33.rF:IR.run F33.t9 C N O K (F33.fr c b d e f j p q s H a g i l o w y u v z D Q U L V G M W P E A B) h nx =
 K (F33.fr c b (I 0) (I 7) f j p q s H a g i l o w y u v z D Q U L V G M W P E A B) h nx:=by kernel_rfl
theorem F33.v16:Arg.ev (.t (.of 16)) ⟨(F33.fr c b d e f j p q s H a g i l o w y u v z D Q U L V G M W P E A B),[]⟩=y:=by kernel_rfl
theorem F33.rM:IR.run F33.t13 C N O K (F33.fr c b d e f j p q s H a g i l o w y u v z D Q U L V G M W P E A B) h nx =
 yN [(I 0),.za,(I 0),.za] h nx λv1 h2 n3=>K (F33.fr c b d e f v1 p q s H a g i l o w y u v z D Q U L V G M W P E A B) h2 n3:=by kernel_rfl
theorem F33.fT:IR.run F33.t14 C N O K (F33.fr c b d e f j p q s H a g i l o w y u v z D Q U L V G M W P E A B) h nx =
 K (F33.fr c b d e f j (.bool false) q s H a g i l o w y u v z D Q U L V G M W P E A B) h nx:=by kernel_rfl
theorem F33.zzf:IR.run F33.t15 C N O K (F33.fr c b d e f j p q s H a g i l o w y u v z D Q U L V G M W P E A B) h nx =
 K (F33.fr c b d e f j p .za s H a g i l o w y u v z D Q U L V G M W P E A B) h nx:=by kernel_rfl
theorem F33.au:IR.run F33.t16 C N O K (F33.fr c b d e f j p q s H a g i l o w y u v z D Q U L V G M W P E A B) h nx =
 zF 2 b h λv1=>C.fn 93 (.of 93) [v1] h nx λv2 h3 n4=>zfw 1 none v2 λv5=>sLen v5 λv6=>K (F33.fr c b d e f j p q s H a g i l o w y v5 v6 (I 0) D Q U L V G M W P E A B) h3 n4:=by kernel_rfl
theorem F33.sW:IR.run F33.t17 C N O K (F33.fr c b d e f j p q s H a g i l o w y u v z D Q U L V G M W P E A B) h nx =
 ze .lss .int z v λv1=>K (F33.fr c b d e f j p q s H a g i l o w y u v z v1 Q U L V G M W P E A B) h nx:=by kernel_rfl
theorem F33.v20:Arg.ev (.t (.of 20)) ⟨(F33.fr c b d e f j p q s H a g i l o w y u v z D Q U L V G M W P E A B),[]⟩=D:=by kernel_rfl
theorem F33.rX:IR.run F33.t19 C N O K (F33.fr c b d e f j p q s H a g i l o w y u v z D Q U L V G M W P E A B) h nx =
 zL 1 u z λv1=>zI v1 h λv2=>K (F33.fr c b d e f j p q v2 H a g i l o w y u v z D Q U L V G M W P E A B) h nx:=by kernel_rfl
theorem F33.aD:IR.run F33.t20 C N O K (F33.fr c b d e f j p q s H a g i l o w y u v z D Q U L V G M W P E A B) h nx =
 C.fn 96 (.of 96) [(I 0)] h nx λv1 h2 n3=>C.fn 96 (.of 96) [(I 0)] h2 n3 λv4 h5 n6=>gU [(I 0),.za,(I 0),.za,(I 0),.za,(I 0),.za] [(0,4,v1),(4,4,v4)] λv7=>yN [(I 0),.za,(I 0),.za,(I 0),.za,(I 0),.za] h5 n6 λv8 h9 nA=>zX 8 v8 v7 h9 nA λvE hA nB=>K (F33.fr c b d e f j p q s v8 a g i l o w y u v z D Q U L V G M W P E A B) hA nB:=by kernel_rfl
theorem F33.zfh:IR.run F33.t21 C N O K (F33.fr c b d e f j p q s H a g i l o w y u v z D Q U L V G M W P E A B) h nx =
 sLen s λv1=>K (F33.fr c b d e f j p q s H a g i l o w y u v z D s v1 (I 0) V G M W P E A B) h nx:=by kernel_rfl
theorem F33.aQ:IR.run F33.t22 C N O K (F33.fr c b d e f j p q s H a g i l o w y u v z D Q U L V G M W P E A B) h nx =
 ze .lss .int L U λv1=>K (F33.fr c b d e f j p q s H a g i l o w y u v z D Q U L v1 G M W P E A B) h nx:=by kernel_rfl
theorem F33.v24:Arg.ev (.t (.of 24)) ⟨(F33.fr c b d e f j p q s H a g i l o w y u v z D Q U L V G M W P E A B),[]⟩=V:=by kernel_rfl
theorem F33.eY:IR.run F33.t24 C N O K (F33.fr c b d e f j p q s H a g i l o w y u v z D Q U L V G M W P E A B) h nx =
 zL 4 Q L λv1=>zF 4 v1 h λv2=>yN [(I 0),.za,(I 0),.za] h nx λv3 h4 n5=>zX 4 v3 v2 h4 n5 λv6 h7 n8=>K (F33.fr c b d e f j p q s H v3 g i l o w y u v z D Q U L V G M W P E A B) h7 n8:=by kernel_rfl
theorem F33.zaf:IR.run F33.t25 C N O K (F33.fr c b d e f j p q s H a g i l o w y u v z D Q U L V G M W P E A B) h nx =
 zK 0 H λv1=>zF 4 v1 h λv2=>zF 4 a h λv3=>C.fn 114 (.of 114) [v2,v3] h nx λv4 h5 n6=>zK 0 H λv7=>zX 4 v7 v4 h5 n6 λv8 h9 nA=>K (F33.fr c b d e f j p q s H a g i l o w y u v z D Q U L V G M W P E A B) h9 nA:=by kernel_rfl
theorem F33.zaa:IR.run F33.t28 C N O K (F33.fr c b d e f j p q s H a g i l o w y u v z D Q U L V G M W P E A B) h nx =
 ze .add .int L (I 1) λv1=>K (F33.fr c b d e f j p q s H a g i l o w y u v z D Q U v1 V G M W P E A B) h nx:=by kernel_rfl
theorem F33.zzg (Inv:Nat->AV->T Blk->Pa->Prop) {m:Nat} (hm:m<N) (hi:Inv m L h nx)
  (step:∀ (m:Nat) (zC zO zP:AV) (h:T Blk) (nx:Pa) (R:Ks Prop),Inv m zO h nx->(∀ (m':Nat) (wC wK wL:AV) (h':T Blk) (nx':Pa),m'<m->Inv m' wK h' nx'->R (F33.fr c b d e f j p q s H wC g i l o w y u v z D Q U wK wL G M W P E A B) h' nx'=.ok True)->IR.run F33.t31 C N O R (F33.fr c b d e f j p q s H zC g i l o w y u v z D Q U zO zP G M W P E A B) h nx=.ok True) :
  IR.run F33.t32 C N O K (F33.fr c b d e f j p q s H a g i l o w y u v z D Q U L V G M W P E A B) h nx=.ok True:=by
 rw [F33.t32];refine yB (λm tm h nx=>∃ zC zO zP,tm=(F33.fr c b d e f j p q s H zC g i l o w y u v z D Q U zO zP G M W P E A B)/\Inv m zO h nx) ?_ hm ⟨_,_,_,rfl,hi⟩;rintro m tm h nx R ⟨zC,zO,zP,rfl,hi⟩ hR;exact step m zC zO zP h nx R hi λm' wC wK wL h' nx' hlt hi'=>hR m' _ h' nx' hlt ⟨_,_,_,rfl,hi'⟩
theorem F33.zfr:IR.run F33.t35 C N O K (F33.fr c b d e f j p q s H a g i l o w y u v z D Q U L V G M W P E A B) h nx =
 zK 1 b λv1=>zI v1 h λv2=>zL 1 v2 (I 0) λv3=>zI v3 h λv4=>sLen v4 λv5=>K (F33.fr c b d e f j p q s H a g i l o w y u v z D Q U L V v4 v5 (I 0) P E A B) h nx:=by kernel_rfl
theorem F33.zfu:IR.run F33.t36 C N O K (F33.fr c b d e f j p q s H a g i l o w y u v z D Q U L V G M W P E A B) h nx =
 ze .lss .int W M λv1=>K (F33.fr c b d e f j p q s H a g i l o w y u v z D Q U L V G M W v1 E A B) h nx:=by kernel_rfl
theorem F33.v28:Arg.ev (.t (.of 28)) ⟨(F33.fr c b d e f j p q s H a g i l o w y u v z D Q U L V G M W P E A B),[]⟩=P:=by kernel_rfl
theorem F33.zfs:IR.run F33.t38 C N O K (F33.fr c b d e f j p q s H a g i l o w y u v z D Q U L V G M W P E A B) h nx =
 zL 1 G W λv1=>zI v1 h λv2=>K (F33.fr c b d e f j p q s H a v2 i l o w y u v z D Q U L V G M W P E A B) h nx:=by kernel_rfl
theorem F33.zng:IR.run F33.t39 C N O K (F33.fr c b d e f j p q s H a g i l o w y u v z D Q U L V G M W P E A B) h nx =
 zK 4 H λv1=>zF 4 v1 h λv2=>zL 4 s g λv3=>zF 4 v3 h λv4=>C.fn 114 (.of 114) [v2,v4] h nx λv5 h6 n7=>zK 4 H λv8=>zX 4 v8 v5 h6 n7 λv9 hC nD=>K (F33.fr c b d e f j p q s H a g i l o w y u v z D Q U L V G M W P E A B) hC nD:=by kernel_rfl
theorem F33.znh:IR.run F33.t42 C N O K (F33.fr c b d e f j p q s H a g i l o w y u v z D Q U L V G M W P E A B) h nx =
 ze .add .int W (I 1) λv1=>K (F33.fr c b d e f j p q s H a g i l o w y u v z D Q U L V G M v1 P E A B) h nx:=by kernel_rfl
theorem F33.zzh (Inv:Nat->AV->T Blk->Pa->Prop) {m:Nat} (hm:m<N) (hi:Inv m W h nx)
  (step:∀ (m:Nat) (zE zH z28:AV) (h:T Blk) (nx:Pa) (R:Ks Prop),Inv m zH h nx->(∀ (m':Nat) (wE wG wY:AV) (h':T Blk) (nx':Pa),m'<m->Inv m' wG h' nx'->R (F33.fr c b d e f j p q s H a wE i l o w y u v z D Q U L V G M wG wY E A B) h' nx'=.ok True)->IR.run F33.t45 C N O R (F33.fr c b d e f j p q s H a zE i l o w y u v z D Q U L V G M zH z28 E A B) h nx=.ok True) :
  IR.run F33.t46 C N O K (F33.fr c b d e f j p q s H a g i l o w y u v z D Q U L V G M W P E A B) h nx=.ok True:=by
 rw [F33.t46];refine yB (λm tm h nx=>∃ zE zH z28,tm=(F33.fr c b d e f j p q s H a zE i l o w y u v z D Q U L V G M zH z28 E A B)/\Inv m zH h nx) ?_ hm ⟨_,_,_,rfl,hi⟩;rintro m tm h nx R ⟨zE,zH,z28,rfl,hi⟩ hR;exact step m zE zH z28 h nx R hi λm' wE wG wY h' nx' hlt hi'=>hR m' _ h' nx' hlt ⟨_,_,_,rfl,hi'⟩
theorem F33.zzi:IR.run F33.t49 C N O K (F33.fr c b d e f j p q s H a g i l o w y u v z D Q U L V G M W P E A B) h nx =
 zK 4 H λv1=>zF 4 v1 h λv2=>C.fn 110 (.of 110) [v2] h nx λv3 h4 n5=>ze .neq .int v3 (I 0) λv6=>sG v6 true (λk=>k p) λv7=>sG v6 true (λk=>eX v7 k) λv8=>yS v6 v8 (.bool false) λv9=>K (F33.fr c b d e f j p q s H a g i l o w y u v z D Q U L V G M W P v9 A B) h4 n5:=by kernel_rfl
theorem F33.zzj:IR.run F33.t50 C N O K (F33.fr c b d e f j p q s H a g i l o w y u v z D Q U L V G M W P E A B) h nx =
 zK 0 H λv1=>zF 4 v1 h λv2=>zK 4 H λv3=>zF 4 v3 h λv4=>C.fn 115 (.of 115) [v2,v4] h nx λv5 h6 n7=>zX 4 j v5 h6 n7 λv8 h9 nA=>K (F33.fr c b d e f j (.bool true) q s H a g i l o w y u v z D Q U L V G M W P E A B) h9 nA:=by kernel_rfl
theorem F33.v29:Arg.ev (.t (.of 29)) ⟨(F33.fr c b d e f j p q s H a g i l o w y u v z D Q U L V G M W P E A B),[]⟩=E:=by kernel_rfl
theorem F33.znv:IR.run F33.t53 C N O K (F33.fr c b d e f j p q s H a g i l o w y u v z D Q U L V G M W P E A B) h nx =
 zF 8 H h λv1=>jI 8 1 [(I 0),.za,(I 0),.za,(I 0),.za,(I 0),.za] [(0,8,v1)] h nx λv2 h3 n4=>sZ 8 128 q v2 h3 n4 λv5 h6 n7=>K (F33.fr c b d e f j p v5 s H a g i l o w y u v z D Q U L V G M W P E A B) h6 n7:=by kernel_rfl
theorem F33.znw:IR.run F33.t60 C N O K (F33.fr c b d e f j p q s H a g i l o w y u v z D Q U L V G M W P E A B) h nx =
 ze .add .int z (I 1) λv1=>K (F33.fr c b d e f j p q s H a g i l o w y u v v1 D Q U L V G M W P E A B) h nx:=by kernel_rfl
theorem F33.znp (Inv:Nat->AV->AV->AV->T Blk->Pa->Prop) {m:Nat} (hm:m<N) (hi:Inv m p q z h nx)
  (step:∀ (m:Nat) (z6 z7 z8 z9 zC zE zN zA zB zD zO zP zR zG zH z28 z29:AV) (h:T Blk) (nx:Pa) (R:Ks Prop),Inv m z6 z7 zN h nx->(∀ (m':Nat) (w6 w7 w8 w9 wC wE wJ wA wB wD wK wL wM wF wG wY wT:AV) (h':T Blk) (nx':Pa),m'<m->Inv m' w6 w7 wJ h' nx'->R (F33.fr c b d e f j w6 w7 w8 w9 wC wE i l o w y u v wJ wA wB wD wK wL wM wF wG wY wT A B) h' nx'=.ok True)->IR.run F33.t63 C N O R (F33.fr c b d e f j z6 z7 z8 z9 zC zE i l o w y u v zN zA zB zD zO zP zR zG zH z28 z29 A B) h nx=.ok True) :
  IR.run F33.t64 C N O K (F33.fr c b d e f j p q s H a g i l o w y u v z D Q U L V G M W P E A B) h nx=.ok True:=by
 rw [F33.t64];refine yB (λm tm h nx=>∃ z6 z7 z8 z9 zC zE zN zA zB zD zO zP zR zG zH z28 z29,tm=(F33.fr c b d e f j z6 z7 z8 z9 zC zE i l o w y u v zN zA zB zD zO zP zR zG zH z28 z29 A B)/\Inv m z6 z7 zN h nx) ?_ hm ⟨_,_,_,_,_,_,_,_,_,_,_,_,_,_,_,_,_,rfl,hi⟩;rintro m tm h nx R ⟨z6,z7,z8,z9,zC,zE,zN,zA,zB,zD,zO,zP,zR,zG,zH,z28,z29,rfl,hi⟩ hR;exact step m z6 z7 z8 z9 zC zE zN zA zB zD zO zP zR zG zH z28 z29 h nx R hi λm' w6 w7 w8 w9 wC wE wJ wA wB wD wK wL wM wF wG wY wT h' nx' hlt hi'=>hR m' _ h' nx' hlt ⟨_,_,_,_,_,_,_,_,_,_,_,_,_,_,_,_,_,rfl,hi'⟩
theorem F33.znq:IR.run F33.t67 C N O K tm h nx=yG F33.znx C ⟨tm,[]⟩ h nx (λtm h nx=>K tm.v h nx):=gD ..
theorem F33.zsc:yG (F33.zny r) C ⟨(F33.fr c b d e f j p q s H a g i l o w y u v z D Q U L V G M W P E A B),[]⟩ h nx Kt =
 eX p λv1=>sG v1 false (λk=>zF 4 j h k) λv2=>sGW v1 false (λk=>C.fn 110 (.of 110) [v2] h nx k) h nx λv3 h4 n5=>yG r C ⟨(F33.fr c b d e f j p q s H a g i l o w y u v z D Q U L V G M W P E A B),v3::v2::v1::v1::p::[]⟩ h4 n5 Kt:=by kernel_rfl
theorem F33.zj3:yG (F33.znz r) C ⟨(F33.fr c b d e f j p q s H a g i l o w y u v z D Q U L V G M W P E A B),s0::s1::s2::sT⟩ h nx Kt =
 sG s2 false (λk=>ze .eql .int s0 (I 0) k) λv1=>yS s2 (.bool true) v1 λv2=>sG v2 false (λk=>k q) λv3=>sG v2 false (λk=>k (.fn 117 (.of 117) [j])) λv4=>sGW v2 false (λk=>C.fn 116 (.of 116) [v3,v4] h nx k) h nx λv5 h6 n7=>yG r C ⟨(F33.fr c b d e f j p q s H a g i l o w y u v z D Q U L V G M W P E A B),v5::v4::v3::v2::v2::v1::s0::s1::s2::sT⟩ h6 n7 Kt:=by kernel_rfl
theorem F33.zdu:yG (F33.zn0 []) C ⟨(F33.fr c b d e f j p q s H a g i l o w y u v z D Q U L V G M W P E A B),s0::s1::s2::s3::sT⟩ h nx Kt =
 yS s3 (.bool true) s0 λv1=>Kt ⟨(F33.fr c b d e f j p q s H a g i l o w y u v z D Q U L V G M W P E v1 B),s0::s1::s2::s3::sT⟩ h nx:=by kernel_rfl
theorem F33.zfv:IR.run F33.t68 C N O K (F33.fr c b d e f j p q s H a g i l o w y u v z D Q U L V G M W P E A B) h nx =
 K (F33.fr c b (I 0) (I 7) f j p q s H a g i l o w y u v z D Q U L V G M W P E A B) h nx:=by kernel_rfl
theorem F33.v30:Arg.ev (.t (.of 30)) ⟨(F33.fr c b d e f j p q s H a g i l o w y u v z D Q U L V G M W P E A B),[]⟩=A:=by kernel_rfl
theorem F33.znr:IR.run F33.t72 C N O K (F33.fr c b d e f j p q s H a g i l o w y u v z D Q U L V G M W P E A B) h nx =
 sChk (true&&true) (zK 0 b λv1=>zI v1 h λv2=>zK 0 b λv3=>zI v3 h λv4=>ze .add .int v4 (I 1) λv5=>ze .mul .int v2 v5 λv6=>ze .quo .int v6 (I 2) λv7=>zF 4 j h λv8=>C.fn 96 (.of 96) [v7] h nx λv9 hC nD=>(zF 4 j hC λvZ=>zQ vZ v8 ((ze .quo .int v6 (I 2) λv43=>zQ v43 v7 ((ze .mul .int v2 v5 λv42=>zQ v42 v6 ((ze .add .int v4 (I 1) λv41=>zQ v41 v5 ((zI v3 hC λv40=>zQ v40 v4 ((zK 0 b λv39=>zQ v39 v3 ((zI v1 hC λvG=>zQ vG v2 ((zK 0 b λvH=>zQ vH v1 (C.fn 115 (.of 115) [v9,v8] hC nD λvO hD nE=>(zF 4 j hD λvI=>zQ vI v8 ((ze .quo .int v6 (I 2) λvJ=>zQ vJ v7 ((ze .mul .int v2 v5 λvK=>zQ vK v6 ((ze .add .int v4 (I 1) λvL=>zQ vL v5 ((zI v3 hD λvM=>zQ vM v4 ((zK 0 b λvN=>zQ vN v3 ((zI v1 hD λvP=>zQ vP v2 ((zK 0 b λvQ=>zQ vQ v1 (yN [(I 0),.za,(I 0),.za] hD nE λvC hE nF=>(zF 4 j hE λvR=>zQ vR v8 ((ze .quo .int v6 (I 2) λvS=>zQ vS v7 ((ze .mul .int v2 v5 λvT=>zQ vT v6 ((ze .add .int v4 (I 1) λvU=>zQ vU v5 ((zI v3 hE λv24=>zQ v24 v4 ((zK 0 b λv23=>zQ v23 v3 ((zI v1 hE λvX=>zQ vX v2 ((zK 0 b λvW=>zQ vW v1 (zX 4 vC vO hE nF λvV hF nG=>K (F33.fr c b d e f j p q s H a g vC l o w y u v z D Q U L V G M W P E A B) hF nG))))))))))))))))))))))))))))))))))))))))))))))))):=by kernel_rfl
theorem F33.zjz:IR.run F33.t73 C N O K (F33.fr c b d e f j p q s H a g i l o w y u v z D Q U L V G M W P E A B) h nx =
 zF 4 i h λv1=>C.fn 120 (.of 120) [v1] h nx λv2 h3 n4=>C.fn 121 (.of 121) [v2] h3 n4 λv5 h6 n7=>mg 0 v5 λv8=>mg 1 v5 λv9=>K (F33.fr c b d e f j p q s H a g i v8 v9 w y u v z D Q U L V G M W P E A B) h6 n7:=by kernel_rfl
theorem F33.zzk:IR.run F33.t74 C N O K (F33.fr c b d e f j p q s H a g i l o w y u v z D Q U L V G M W P E A B) h nx =
 zF 4 i h λv1=>C.fn 122 (.of 122) [v1] h nx λv2 h3 n4=>eX v2 λv5=>sG v5 false (λk=>k o) λv6=>sG v5 false (λk=>eX v6 k) λv7=>yS v5 (.bool true) v7 λv8=>K (F33.fr c b d e f j p q s H a g i l o w y u v z D Q U L V G M W P E A v8) h3 n4:=by kernel_rfl
theorem F33.zns:IR.run F33.t75 C N O K (F33.fr c b d e f j p q s H a g i l o w y u v z D Q U L V G M W P E A B) h nx =
 K (F33.fr c b (I 0) (I 21) f j p q s H a g i l o w y u v z D Q U L V G M W P E A B) h nx:=by kernel_rfl
theorem F33.v31:Arg.ev (.t (.of 31)) ⟨(F33.fr c b d e f j p q s H a g i l o w y u v z D Q U L V G M W P E A B),[]⟩=B:=by kernel_rfl
theorem F33.zj0:IR.run F33.t79 C N O K (F33.fr c b d e f j p q s H a g i l o w y u v z D Q U L V G M W P E A B) h nx =
 K (F33.fr c b l (I 0) f j p q s H a g i l o w y u v z D Q U L V G M W P E A B) h nx:=by kernel_rfl
theorem F33.go:zS tbl N C (.of 33) [a0] h nx K0=IR.run F33.t91 C N (fnO F33.res K0) (zo F33.res K0) (F33.fr a0 .u .u .u .u .u .u .u .u .u .u .u .u .u .u .u .u .u .u .u .u .u .u .u .u .u .u .u .u .u .u .u) h nx:=yE (F:=F33) (by kernel_rfl) (λ_=>by kernel_rfl) (by kernel_rfl)
theorem F33.ret:zo F33.res K0 (F33.fr c b d e f j p q s H a g i l o w y u v z D Q U L V G M W P E A B) h nx=K0 (.tup [d,e]) h nx:=by kernel_rfl
theorem uh.zy:IR.run uh.t0 C N O K (uh.fr c b d e f) h nx =
 K (uh.fr c (.str []) d e f) h nx:=by kernel_rfl
theorem uh.zx:IR.run uh.t1 C N O K (uh.fr c b d e f) h nx =
 K (uh.fr c b (.str [48]) e f) h nx:=by kernel_rfl
theorem uh.jb:IR.run uh.t2 C N O K (uh.fr c b d e f) h nx =
 K (uh.fr c b d (I 0) f) h nx:=by kernel_rfl
theorem uh.dw:IR.run uh.t3 C N O K (uh.fr c b d e f) h nx =
 sLen c λv1=>ze .lss .int e v1 λv2=>K (uh.fr c b d e v2) h nx:=by kernel_rfl
theorem uh.v4:Arg.ev (.t (.of 4)) ⟨(uh.fr c b d e f),[]⟩=f:=by kernel_rfl
theorem uh.qg:IR.run uh.t6 C N O K (uh.fr c b d e f) h nx =
 zL 1 c e λv1=>zI v1 h λv2=>C.fn 40 (.of 40) [d,v2] h nx λv3 h4 n5=>K (uh.fr c b v3 e f) h4 n5:=by kernel_rfl
theorem uh.fE:IR.run uh.t8 C N O K (uh.fr c b d e f) h nx =
 ze .add .int e (I 1) λv1=>K (uh.fr c b d v1 f) h nx:=by kernel_rfl
theorem uh.aF (Inv:Nat->AV->AV->T Blk->Pa->Prop) {m:Nat} (hm:m<N) (hi:Inv m d e h nx)
  (step:∀ (m:Nat) (z2 z3 z4:AV) (h:T Blk) (nx:Pa) (R:Ks Prop),Inv m z2 z3 h nx->(∀ (m':Nat) (w2 w3 w4:AV) (h':T Blk) (nx':Pa),m'<m->Inv m' w2 w3 h' nx'->R (uh.fr c b w2 w3 w4) h' nx'=.ok True)->IR.run uh.t10 C N O R (uh.fr c b z2 z3 z4) h nx=.ok True) :
  IR.run uh.t11 C N O K (uh.fr c b d e f) h nx=.ok True:=by
 rw [uh.t11];refine yB (λm tm h nx=>∃ z2 z3 z4,tm=(uh.fr c b z2 z3 z4)/\Inv m z2 z3 h nx) ?_ hm ⟨_,_,_,rfl,hi⟩;rintro m tm h nx R ⟨z2,z3,z4,rfl,hi⟩ hR;exact step m z2 z3 z4 h nx R hi λm' w2 w3 w4 h' nx' hlt hi'=>hR m' _ h' nx' hlt ⟨_,_,_,rfl,hi'⟩
theorem uh.fT:IR.run uh.t14 C N O K (uh.fr c b d e f) h nx =
 K (uh.fr c d d e f) h nx:=by kernel_rfl
theorem uh.go:zS tbl N C (.of 202) [a0] h nx K0=IR.run uh.t18 C N (fnO uh.res K0) (zo uh.res K0) (uh.fr a0 .u .u .u .u) h nx:=yE (F:=uh) (by kernel_rfl) (λ_=>by kernel_rfl) (by kernel_rfl)
theorem uh.ret:zo uh.res K0 (uh.fr c b d e f) h nx=K0 b h nx:=by kernel_rfl
theorem ru.zy:IR.run ru.t0 C N O K (ru.fr c b d) h nx =
 K (ru.fr c b (.str [])) h nx:=by kernel_rfl
theorem ru.zx:IR.run ru.t1 C N O K (ru.fr c b d) h nx =
 C.fn 203 (.of 203) [b] h nx λv1 h2 n3=>C.fn 41 (.of 41) [c,v1] h2 n3 λv4 h5 n6=>K (ru.fr c b v4) h5 n6:=by kernel_rfl
theorem ru.go:zS tbl N C (.of 124) [a0,a1] h nx K0=IR.run ru.t3 C N (fnO ru.res K0) (zo ru.res K0) (ru.fr a0 a1 .u) h nx:=yE (F:=ru) (by kernel_rfl) (λ_=>by kernel_rfl) (by kernel_rfl)
theorem ru.ret:zo ru.res K0 (ru.fr c b d) h nx=K0 d h nx:=by kernel_rfl
theorem zf.zy:IR.run zf.t0 C N O K (zf.fr c b d e f j p q s H a g i l o) h nx =
 wz c h nx λv1 h2 n3=>K (zf.fr c v1 (.str []) (.bool false) f j p q s H a g i l o) h2 n3:=by kernel_rfl
theorem zf.zx:IR.run zf.t1 C N O K (zf.fr c b d e f j p q s H a g i l o) h nx =
 zK 1 b λv1=>zI v1 h λv2=>sLen v2 λv3=>ze .eql .int v3 (I 0) λv4=>K (zf.fr c b d e f j p q s v4 a g i l o) h nx:=by kernel_rfl
theorem zf.jb:IR.run zf.t2 C N O K (zf.fr c b d e f j p q s H a g i l o) h nx =
 K (zf.fr c b (.str []) (.bool false) f j p q s H a g i l o) h nx:=by kernel_rfl
theorem zf.v9:Arg.ev (.t (.of 9)) ⟨(zf.fr c b d e f j p q s H a g i l o),[]⟩=H:=by kernel_rfl
theorem zf.qg:IR.run zf.t6 C N O K (zf.fr c b d e f j p q s H a g i l o) h nx =
 zF 2 b h λv1=>C.fn 26 (.of 26) [v1] h nx λv2 h3 n4=>K (zf.fr c b d e v2 j p q s H a g i l o) h3 n4:=by kernel_rfl
theorem zf.fU:IR.run zf.t7 C N O K (zf.fr c b d e f j p q s H a g i l o) h nx =
 K (zf.fr c b d e f (.str []) p q s H a g i l o) h nx:=by kernel_rfl
theorem zf.fE:IR.run zf.t8 C N O K (zf.fr c b d e f j p q s H a g i l o) h nx =
 K (zf.fr c b d e f j (I 0) q s H a g i l o) h nx:=by kernel_rfl
theorem zf.rF:IR.run zf.t9 C N O K (zf.fr c b d e f j p q s H a g i l o) h nx =
 sLen f λv1=>ze .lss .int p v1 λv2=>K (zf.fr c b d e f j p q s H v2 g i l o) h nx:=by kernel_rfl
theorem zf.v10:Arg.ev (.t (.of 10)) ⟨(zf.fr c b d e f j p q s H a g i l o),[]⟩=a:=by kernel_rfl
theorem zf.ni:IR.run zf.t12 C N O K (zf.fr c b d e f j p q s H a g i l o) h nx =
 zF 2 b h λv1=>zL 1 f p λv2=>zI v2 h λv3=>C.fn 44 (.of 44) [v1,v3] h nx λv4 h5 n6=>K (zf.fr c b d e f j p v4 s H a g i l o) h5 n6:=by kernel_rfl
theorem zf.rM:IR.run zf.t13 C N O K (zf.fr c b d e f j p q s H a g i l o) h nx =
 C.fn 39 (.of 39) [q] h nx λv1 h2 n3=>eX v1 λv4=>sG v4 true (λk=>k j) λv5=>sG v4 true (λk=>ze .eql .str v5 (.str []) k) λv6=>yS v4 v6 (.bool false) λv7=>K (zf.fr c b d e f j p q s H a v7 i l o) h2 n3:=by kernel_rfl
theorem zf.fT:IR.run zf.t14 C N O K (zf.fr c b d e f j p q s H a g i l o) h nx =
 zL 1 f p λv1=>zI v1 h λv2=>C.fn 202 (.of 202) [v2] h nx λv3 h4 n5=>C.fn 124 (.of 124) [v3,q] h4 n5 λv6 h7 n8=>K (zf.fr c b d e f v6 p q s H a g i l o) h7 n8:=by kernel_rfl
theorem zf.v11:Arg.ev (.t (.of 11)) ⟨(zf.fr c b d e f j p q s H a g i l o),[]⟩=g:=by kernel_rfl
theorem zf.rX:IR.run zf.t19 C N O K (zf.fr c b d e f j p q s H a g i l o) h nx =
 ze .add .int p (I 1) λv1=>K (zf.fr c b d e f j v1 q s H a g i l o) h nx:=by kernel_rfl
theorem zf.zzl (Inv:Nat->AV->AV->T Blk->Pa->Prop) {m:Nat} (hm:m<N) (hi:Inv m j p h nx)
  (step:∀ (m:Nat) (z5 z6 z7 zC zE:AV) (h:T Blk) (nx:Pa) (R:Ks Prop),Inv m z5 z6 h nx->(∀ (m':Nat) (w5 w6 w7 wC wE:AV) (h':T Blk) (nx':Pa),m'<m->Inv m' w5 w6 h' nx'->R (zf.fr c b d e f w5 w6 w7 s H wC wE i l o) h' nx'=.ok True)->IR.run zf.t21 C N O R (zf.fr c b d e f z5 z6 z7 s H zC zE i l o) h nx=.ok True) :
  IR.run zf.t22 C N O K (zf.fr c b d e f j p q s H a g i l o) h nx=.ok True:=by
 rw [zf.t22];refine yB (λm tm h nx=>∃ z5 z6 z7 zC zE,tm=(zf.fr c b d e f z5 z6 z7 s H zC zE i l o)/\Inv m z5 z6 h nx) ?_ hm ⟨_,_,_,_,_,rfl,hi⟩;rintro m tm h nx R ⟨z5,z6,z7,zC,zE,rfl,hi⟩ hR;exact step m z5 z6 z7 zC zE h nx R hi λm' w5 w6 w7 wC wE h' nx' hlt hi'=>hR m' _ h' nx' hlt ⟨_,_,_,_,_,rfl,hi'⟩
theorem zf.zaf:IR.run zf.t25 C N O K (zf.fr c b d e f j p q s H a g i l o) h nx =
 ze .eql .str j (.str []) λv1=>sG v1 false (λk=>k j) λv2=>sGW v1 false (λk=>C.fn 39 (.of 39) [v2] h nx k) h nx λv3 h4 n5=>yS v1 (.bool true) v3 λv6=>K (zf.fr c b d e f j p q s H a g v6 l o) h4 n5:=by kernel_rfl
theorem zf.zjy:IR.run zf.t26 C N O K (zf.fr c b d e f j p q s H a g i l o) h nx =
 K (zf.fr c b (.str []) (.bool false) f j p q s H a g i l o) h nx:=by kernel_rfl
theorem zf.v12:Arg.ev (.t (.of 12)) ⟨(zf.fr c b d e f j p q s H a g i l o),[]⟩=i:=by kernel_rfl
theorem zf.zj2:IR.run zf.t30 C N O K (zf.fr c b d e f j p q s H a g i l o) h nx =
 K (zf.fr c b d e f j p q (I 0) H a g i l o) h nx:=by kernel_rfl
theorem zf.znt:IR.run zf.t31 C N O K (zf.fr c b d e f j p q s H a g i l o) h nx =
 sLen f λv1=>ze .lss .int s v1 λv2=>K (zf.fr c b d e f j p q s H a g i v2 o) h nx:=by kernel_rfl
theorem zf.v13:Arg.ev (.t (.of 13)) ⟨(zf.fr c b d e f j p q s H a g i l o),[]⟩=l:=by kernel_rfl
theorem zf.zfj:IR.run zf.t34 C N O K (zf.fr c b d e f j p q s H a g i l o) h nx =
 zL 1 f s λv1=>zI v1 h λv2=>zF 2 b h λv3=>zL 1 f s λv4=>zI v4 h λv5=>C.fn 202 (.of 202) [v2] h nx λv6 h7 n8=>(zI v4 h7 λvV=>zQ vV v5 ((zL 1 f s λvA=>zQ vA v4 (zQ s s (zQ f f ((zF 2 b h7 λvB=>zQ vB v3 (zQ j j (C.fn 44 (.of 44) [v3,v5] h7 n8 λv9 hC nD=>zQ j j (C.fn 41 (.of 41) [j,v9] hC nD λvO hD nE=>ze .neq .str v6 vO λvC=>K (zf.fr c b d e f j p q s H a g i l vC) hD nE)))))))))):=by kernel_rfl
theorem zf.zfr:IR.run zf.t35 C N O K (zf.fr c b d e f j p q s H a g i l o) h nx =
 K (zf.fr c b (.str []) (.bool false) f j p q s H a g i l o) h nx:=by kernel_rfl
theorem zf.v14:Arg.ev (.t (.of 14)) ⟨(zf.fr c b d e f j p q s H a g i l o),[]⟩=o:=by kernel_rfl
theorem zf.zno:IR.run zf.t40 C N O K (zf.fr c b d e f j p q s H a g i l o) h nx =
 ze .add .int s (I 1) λv1=>K (zf.fr c b d e f j p q v1 H a g i l o) h nx:=by kernel_rfl
theorem zf.zzm (Inv:Nat->AV->T Blk->Pa->Prop) {m:Nat} (hm:m<N) (hi:Inv m s h nx)
  (step:∀ (m:Nat) (z2 z3 z8 zY zZ:AV) (h:T Blk) (nx:Pa) (R:Ks Prop),Inv m z8 h nx->(∀ (m':Nat) (w2 w3 w8 wR wS:AV) (h':T Blk) (nx':Pa),m'<m->Inv m' w8 h' nx'->R (zf.fr c b w2 w3 f j p q w8 H a g i wR wS) h' nx'=.ok True)->IR.run zf.t42 C N O R (zf.fr c b z2 z3 f j p q z8 H a g i zY zZ) h nx=.ok True) :
  IR.run zf.t43 C N O K (zf.fr c b d e f j p q s H a g i l o) h nx=.ok True:=by
 rw [zf.t43];refine yB (λm tm h nx=>∃ z2 z3 z8 zY zZ,tm=(zf.fr c b z2 z3 f j p q z8 H a g i zY zZ)/\Inv m z8 h nx) ?_ hm ⟨_,_,_,_,_,rfl,hi⟩;rintro m tm h nx R ⟨z2,z3,z8,zY,zZ,rfl,hi⟩ hR;exact step m z2 z3 z8 zY zZ h nx R hi λm' w2 w3 w8 wR wS h' nx' hlt hi'=>hR m' _ h' nx' hlt ⟨_,_,_,_,_,rfl,hi'⟩
theorem zf.zni:IR.run zf.t46 C N O K (zf.fr c b d e f j p q s H a g i l o) h nx =
 K (zf.fr c b j (.bool true) f j p q s H a g i l o) h nx:=by kernel_rfl
theorem zf.go:zS tbl N C (.of 123) [a0] h nx K0=IR.run zf.t54 C N (fnO zf.res K0) (zo zf.res K0) (zf.fr a0 .u .u .u .u .u .u .u .u .u .u .u .u .u .u) h nx:=yE (F:=zf) (by kernel_rfl) (λ_=>by kernel_rfl) (by kernel_rfl)
theorem zf.ret:zo zf.res K0 (zf.fr c b d e f j p q s H a g i l o) h nx=K0 (.tup [d,e]) h nx:=by kernel_rfl
theorem F42.zy:IR.run F42.t0 C N O K (F42.fr c b) h nx =
 K (F42.fr c (.str [])) h nx:=by kernel_rfl
theorem F42.zx:IR.run F42.t1 C N O K (F42.fr c b) h nx =
 C.fn 134 (.of 134) [c] h nx λv1 h2 n3=>C.fn 133 (.of 133) [v1] h2 n3 λv4 h5 n6=>K (F42.fr c v4) h5 n6:=by kernel_rfl
theorem F42.go:zS tbl N C (.of 42) [a0] h nx K0=IR.run F42.t3 C N (fnO F42.res K0) (zo F42.res K0) (F42.fr a0 .u) h nx:=yE (F:=F42) (by kernel_rfl) (λ_=>by kernel_rfl) (by kernel_rfl)
theorem F42.ret:zo F42.res K0 (F42.fr c b) h nx=K0 b h nx:=by kernel_rfl
theorem F34.zy:IR.run F34.t0 C N O K (F34.fr c b d e f j p q s H a) h nx =
 wz c h nx λv1 h2 n3=>K (F34.fr c v1 (I 0) (I 0) f j p q s H a) h2 n3:=by kernel_rfl
theorem F34.zx:IR.run F34.t1 C N O K (F34.fr c b d e f j p q s H a) h nx =
 zF 2 b h λv1=>C.fn 123 (.of 123) [v1] h nx λv2 h3 n4=>mg 0 v2 λv5=>mg 1 v2 λv6=>K (F34.fr c b d e v5 v6 p q s H a) h3 n4:=by kernel_rfl
theorem F34.jb:IR.run F34.t2 C N O K (F34.fr c b d e f j p q s H a) h nx =
 eX j λv1=>K (F34.fr c b d e f j p q s v1 a) h nx:=by kernel_rfl
theorem F34.dw:IR.run F34.t3 C N O K (F34.fr c b d e f j p q s H a) h nx =
 K (F34.fr c b (I 0) (I 7) f j p q s H a) h nx:=by kernel_rfl
theorem F34.v9:Arg.ev (.t (.of 9)) ⟨(F34.fr c b d e f j p q s H a),[]⟩=H:=by kernel_rfl
theorem F34.fU:IR.run F34.t7 C N O K (F34.fr c b d e f j p q s H a) h nx =
 zK 0 b λv1=>zI v1 h λv2=>zK 0 b λv3=>zI v3 h λv4=>ze .add .int v4 (I 1) λv5=>ze .mul .int v2 v5 λv6=>ze .quo .int v6 (I 2) λv7=>C.fn 42 (.of 42) [v7] h nx λv8 h9 nA=>C.fn 124 (.of 124) [v8,f] h9 nA λvE hA nB=>K (F34.fr c b d e f j vE q s H a) hA nB:=by kernel_rfl
theorem F34.fE:IR.run F34.t8 C N O K (F34.fr c b d e f j p q s H a) h nx =
 C.fn 125 (.of 125) [p] h nx λv1 h2 n3=>mg 0 v1 λv4=>mg 1 v1 λv5=>K (F34.fr c b d e f j p v4 v5 H a) h2 n3:=by kernel_rfl
theorem F34.rF:IR.run F34.t9 C N O K (F34.fr c b d e f j p q s H a) h nx =
 eX s λv1=>K (F34.fr c b d e f j p q s H v1) h nx:=by kernel_rfl
theorem F34.sV:IR.run F34.t10 C N O K (F34.fr c b d e f j p q s H a) h nx =
 K (F34.fr c b (I 0) (I 21) f j p q s H a) h nx:=by kernel_rfl
theorem F34.v10:Arg.ev (.t (.of 10)) ⟨(F34.fr c b d e f j p q s H a),[]⟩=a:=by kernel_rfl
theorem F34.fT:IR.run F34.t14 C N O K (F34.fr c b d e f j p q s H a) h nx =
 K (F34.fr c b q (I 0) f j p q s H a) h nx:=by kernel_rfl
theorem F34.go:zS tbl N C (.of 34) [a0] h nx K0=IR.run F34.t21 C N (fnO F34.res K0) (zo F34.res K0) (F34.fr a0 .u .u .u .u .u .u .u .u .u .u) h nx:=yE (F:=F34) (by kernel_rfl) (λ_=>by kernel_rfl) (by kernel_rfl)
theorem F34.ret:zo F34.res K0 (F34.fr c b d e f j p q s H a) h nx=K0 (.tup [d,e]) h nx:=by kernel_rfl
theorem F6.zy:IR.run F6.t0 C N O K (F6.fr c b d e f j p q s) h nx =
 wz c h nx λv1 h2 n3=>K (F6.fr c v1 (.bool false) e f j p q s) h2 n3:=by kernel_rfl
theorem F6.zx:IR.run F6.t1 C N O K (F6.fr c b d e f j p q s) h nx =
 zF 2 b h λv1=>C.fn 22 (.of 22) [v1] h nx λv2 h3 n4=>eX v2 λv5=>K (F6.fr c b d e f j p v5 s) h3 n4:=by kernel_rfl
theorem F6.jb:IR.run F6.t2 C N O K (F6.fr c b d e f j p q s) h nx =
 C.fn 17 (.of 17) [] h nx λv1 h2 n3=>K (F6.fr c b v1 e f j p q s) h2 n3:=by kernel_rfl
theorem F6.v7:Arg.ev (.t (.of 7)) ⟨(F6.fr c b d e f j p q s),[]⟩=q:=by kernel_rfl
theorem F6.qg:IR.run F6.t6 C N O K (F6.fr c b d e f j p q s) h nx =
 zF 2 b h λv1=>C.fn 33 (.of 33) [v1] h nx λv2 h3 n4=>mg 0 v2 λv5=>mg 1 v2 λv6=>K (F6.fr c b d v5 v6 j p q s) h3 n4:=by kernel_rfl
theorem F6.fU:IR.run F6.t7 C N O K (F6.fr c b d e f j p q s) h nx =
 zF 2 b h λv1=>C.fn 19 (.of 19) [v1] h nx λv2 h3 n4=>K (F6.fr c b d e f (I 0) v2 q s) h3 n4:=by kernel_rfl
theorem F6.fE:IR.run F6.t8 C N O K (F6.fr c b d e f j p q s) h nx =
 ze .eql .int p (I 0) λv1=>K (F6.fr c b d e f j p q v1) h nx:=by kernel_rfl
theorem F6.rF:IR.run F6.t9 C N O K (F6.fr c b d e f j p q s) h nx =
 zF 2 b h λv1=>C.fn 34 (.of 34) [v1] h nx λv2 h3 n4=>mg 0 v2 λv5=>mg 1 v2 λv6=>K (F6.fr c b d e f v5 v6 q s) h3 n4:=by kernel_rfl
theorem F6.v8:Arg.ev (.t (.of 8)) ⟨(F6.fr c b d e f j p q s),[]⟩=s:=by kernel_rfl
theorem F6.ni:IR.run F6.t12 C N O K tm h nx=yG F6.r7_0 C ⟨tm,[]⟩ h nx (λtm h nx=>K tm.v h nx):=gD ..
theorem F6.zwp:yG (F6.zuu r) C ⟨(F6.fr c b d e f j p q s),[]⟩ h nx Kt =
 ze .eql .int f p λv1=>sG v1 true (λk=>k e) λv2=>sG v1 true (λk=>k j) λv3=>sG v1 true (λk=>ze .eql .int v2 v3 k) λv4=>yS v1 v4 (.bool false) λv5=>yG r C ⟨(F6.fr c b d e f j p q s),v5::v4::v3::v2::v1::v1::p::f::[]⟩ h nx Kt:=by kernel_rfl
theorem F6.zwq:yG (F6.zuv r) C ⟨(F6.fr c b d e f j p q s),s0::sT⟩ h nx Kt =
 sGW s0 true (λk=>C.fn 17 (.of 17) [] h nx k) h nx λv1 h2 n3=>yG r C ⟨(F6.fr c b d e f j p q s),v1::s0::s0::sT⟩ h2 n3 Kt:=by kernel_rfl
theorem F6.zwr:yG (F6.zuw []) C ⟨(F6.fr c b d e f j p q s),s0::s1::sT⟩ h nx Kt =
 yS s1 s0 (.bool false) λv1=>Kt ⟨(F6.fr c b v1 e f j p q s),v1::s0::s1::sT⟩ h nx:=by kernel_rfl
theorem F6.go:zS tbl N C (.of 6) [a0] h nx K0=IR.run F6.t18 C N (fnO F6.res K0) (zo F6.res K0) (F6.fr a0 .u .u .u .u .u .u .u .u) h nx:=yE (F:=F6) (by kernel_rfl) (λ_=>by kernel_rfl) (by kernel_rfl)
theorem F6.ret:zo F6.res K0 (F6.fr c b d e f j p q s) h nx=K0 d h nx:=by kernel_rfl
theorem fZ.zy:IR.run fZ.t0 C N O K (fZ.fr c b) h nx =
 K (fZ.fr c (.bool false)) h nx:=by kernel_rfl
theorem fZ.zx:IR.run fZ.t1 C N O K (fZ.fr c b) h nx =
 C.fn 206 (.of 206) [c] h nx λv1 h2 n3=>kQ c λv4=>ze .eql .int v1 v4 λv5=>K (fZ.fr c v5) h2 n3:=by kernel_rfl
theorem fZ.go:zS tbl N C (.of 204) [a0] h nx K0=IR.run fZ.t3 C N (fnO fZ.res K0) (zo fZ.res K0) (fZ.fr a0 .u) h nx:=yE (F:=fZ) (by kernel_rfl) (λ_=>by kernel_rfl) (by kernel_rfl)
theorem fZ.ret:zo fZ.res K0 (fZ.fr c b) h nx=K0 b h nx:=by kernel_rfl
theorem zm.zy:IR.run zm.t0 C N O K (zm.fr c b d e f j p q s H a) h nx =
 K (zm.fr c (I 0) (.bool false) e f j p q s H a) h nx:=by kernel_rfl
theorem zm.zx:IR.run zm.t1 C N O K (zm.fr c b d e f j p q s H a) h nx =
 C.fn 204 (.of 204) [c] h nx λv1 h2 n3=>eX v1 λv4=>sG v4 false (λk=>k c) λv5=>sG v4 false (λk=>kQ v5 k) λv6=>sG v4 false (λk=>ze .gtr .int v6 (I 20) k) λv7=>yS v4 (.bool true) v7 λv8=>K (zm.fr c b d e f j p v8 s H a) h2 n3:=by kernel_rfl
theorem zm.jb:IR.run zm.t2 C N O K (zm.fr c b d e f j p q s H a) h nx =
 K (zm.fr c (I 0) (.bool false) e f j p q s H a) h nx:=by kernel_rfl
theorem zm.v7:Arg.ev (.t (.of 7)) ⟨(zm.fr c b d e f j p q s H a),[]⟩=q:=by kernel_rfl
theorem zm.qg:IR.run zm.t6 C N O K (zm.fr c b d e f j p q s H a) h nx =
 C.fn 205 (.of 205) [c] h nx λv1 h2 n3=>yN [(.bool false),.za] h2 n3 λv4 h5 n6=>zX 2 v4 v1 h5 n6 λv7 h8 n9=>K (zm.fr c b d v4 f j p q s H a) h8 n9:=by kernel_rfl
theorem zm.fU:IR.run zm.t7 C N O K (zm.fr c b d e f j p q s H a) h nx =
 K (zm.fr c b d e (I 0) j p q s H a) h nx:=by kernel_rfl
theorem zm.fE:IR.run zm.t8 C N O K (zm.fr c b d e f j p q s H a) h nx =
 zK 1 e λv1=>zI v1 h λv2=>sLen v2 λv3=>ze .sub .int v3 (I 1) λv4=>K (zm.fr c b d e f v4 p q s H a) h nx:=by kernel_rfl
theorem zm.rF:IR.run zm.t9 C N O K (zm.fr c b d e f j p q s H a) h nx =
 ze .geq .int j (I 0) λv1=>K (zm.fr c b d e f j p q v1 H a) h nx:=by kernel_rfl
theorem zm.v8:Arg.ev (.t (.of 8)) ⟨(zm.fr c b d e f j p q s H a),[]⟩=s:=by kernel_rfl
theorem zm.ni:IR.run zm.t12 C N O K (zm.fr c b d e f j p q s H a) h nx =
 zK 1 e λv1=>zI v1 h λv2=>zL 1 v2 j λv3=>zI v3 h λv4=>K (zm.fr c b d e f j v4 q s H a) h nx:=by kernel_rfl
theorem zm.rM:IR.run zm.t13 C N O K (zm.fr c b d e f j p q s H a) h nx =
 zK 0 e λv1=>zI v1 h λv2=>K (zm.fr c b d e f j p q s v2 a) h nx:=by kernel_rfl
theorem zm.fT:IR.run zm.t14 C N O K (zm.fr c b d e f j p q s H a) h nx =
 ze .sub .int (I 0) p λv1=>K (zm.fr c b d e f j v1 q s H a) h nx:=by kernel_rfl
theorem zm.v9:Arg.ev (.t (.of 9)) ⟨(zm.fr c b d e f j p q s H a),[]⟩=H:=by kernel_rfl
theorem zm.sW:IR.run zm.t17 C N O K tm h nx=yG zm.zn1 C ⟨tm,[]⟩ h nx (λtm h nx=>K tm.v h nx):=gD ..
theorem zm.zsd:yG (zm.zn2 r) C ⟨(zm.fr c b d e f j p q s H a),[]⟩ h nx Kt =
 ze .gtr .int f (I 9223372036) λv1=>sG v1 false (λk=>k f) λv2=>sG v1 false (λk=>ze .lss .int v2 (I (-9223372036)) k) λv3=>yS v1 (.bool true) v3 λv4=>sG v4 false (λk=>k f) λv5=>yG r C ⟨(zm.fr c b d e f j p q s H a),v5::v4::v4::v3::v2::v1::v1::f::[]⟩ h nx Kt:=by kernel_rfl
theorem zm.zse:yG (zm.zn3 r) C ⟨(zm.fr c b d e f j p q s H a),s0::s1::sT⟩ h nx Kt =
 sG s1 false (λk=>ze .eql .int s0 (I 9223372036) k) λv1=>sG s1 false (λk=>k v1) λv2=>sG v2 true (λk=>k p) λv3=>sG v2 true (λk=>ze .gtr .int v3 (I 854775807) k) λv4=>sG s1 false (λk=>yS v2 v4 (.bool false) k) λv5=>yS s1 (.bool true) v5 λv6=>sG v6 false (λk=>k f) λv7=>yG r C ⟨(zm.fr c b d e f j p q s H a),v7::v6::v6::v5::v4::v3::v2::v1::s0::s1::sT⟩ h nx Kt:=by kernel_rfl
theorem zm.zsf:yG (zm.zn4 []) C ⟨(zm.fr c b d e f j p q s H a),s0::s1::sT⟩ h nx Kt =
 sG s1 false (λk=>ze .eql .int s0 (I (-9223372036)) k) λv1=>sG s1 false (λk=>k v1) λv2=>sG v2 true (λk=>k p) λv3=>sG v2 true (λk=>ze .lss .int v3 (I (-854775808)) k) λv4=>sG s1 false (λk=>yS v2 v4 (.bool false) k) λv5=>yS s1 (.bool true) v5 λv6=>Kt ⟨(zm.fr c b d e f j p q s H v6),v5::v4::v3::v2::v1::s0::s1::sT⟩ h nx:=by kernel_rfl
theorem zm.v10:Arg.ev (.t (.of 10)) ⟨(zm.fr c b d e f j p q s H a),[]⟩=a:=by kernel_rfl
theorem zm.aQ:IR.run zm.t22 C N O K (zm.fr c b d e f j p q s H a) h nx =
 ze .mul .int f (I 1000000000) λv1=>ze .add .int v1 p λv2=>K (zm.fr c b d e v2 j p q s H a) h nx:=by kernel_rfl
theorem zm.zjx:IR.run zm.t27 C N O K (zm.fr c b d e f j p q s H a) h nx =
 ze .sub .int j (I 1) λv1=>K (zm.fr c b d e f v1 p q s H a) h nx:=by kernel_rfl
theorem zm.zux (Inv:Nat->AV->AV->T Blk->Pa->Prop) {m:Nat} (hm:m<N) (hi:Inv m f j h nx)
  (step:∀ (m:Nat) (z1 z2 z4 z5 z6 z8 z9 zC:AV) (h:T Blk) (nx:Pa) (R:Ks Prop),Inv m z4 z5 h nx->(∀ (m':Nat) (w1 w2 w4 w5 w6 w8 w9 wC:AV) (h':T Blk) (nx':Pa),m'<m->Inv m' w4 w5 h' nx'->R (zm.fr c w1 w2 e w4 w5 w6 q w8 w9 wC) h' nx'=.ok True)->IR.run zm.t29 C N O R (zm.fr c z1 z2 e z4 z5 z6 q z8 z9 zC) h nx=.ok True) :
  IR.run zm.t30 C N O K (zm.fr c b d e f j p q s H a) h nx=.ok True:=by
 rw [zm.t30];refine yB (λm tm h nx=>∃ z1 z2 z4 z5 z6 z8 z9 zC,tm=(zm.fr c z1 z2 e z4 z5 z6 q z8 z9 zC)/\Inv m z4 z5 h nx) ?_ hm ⟨_,_,_,_,_,_,_,_,rfl,hi⟩;rintro m tm h nx R ⟨z1,z2,z4,z5,z6,z8,z9,zC,rfl,hi⟩ hR;exact step m z1 z2 z4 z5 z6 z8 z9 zC h nx R hi λm' w1 w2 w4 w5 w6 w8 w9 wC h' nx' hlt hi'=>hR m' _ h' nx' hlt ⟨_,_,_,_,_,_,_,_,rfl,hi'⟩
theorem zm.zft:IR.run zm.t33 C N O K (zm.fr c b d e f j p q s H a) h nx =
 K (zm.fr c f (.bool true) e f j p q s H a) h nx:=by kernel_rfl
theorem zm.go:zS tbl N C (.of 125) [a0] h nx K0=IR.run zm.t39 C N (fnO zm.res K0) (zo zm.res K0) (zm.fr a0 .u .u .u .u .u .u .u .u .u .u) h nx:=yE (F:=zm) (by kernel_rfl) (λ_=>by kernel_rfl) (by kernel_rfl)
theorem zm.ret:zo zm.res K0 (zm.fr c b d e f j p q s H a) h nx=K0 (.tup [b,d]) h nx:=by kernel_rfl
end
end Go.Ev
