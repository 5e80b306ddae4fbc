import Derived.Test.YtfgpjkchdelphaaGreatDoorIrT
import Derived.Test.YtfgpjkchdelphaaGreatDoorEvD
import Derived.KernelRfl
set_option linter.unusedSimpArgs false
set_option linter.unusedVariables false
namespace Go.Ev
open Go Go.Proofs
set_option maxRecDepth 100000
section
variable {N:Nat} {C:Calls Prop} {K0:Kw Prop} {K R:Ks Prop} {h:T Blk} {nx:Pa} {a b c e f i o p q s d g j l u y w v z B D Z x22 G H L M x27 A E P Q U V W x35 a0 s0 s1 s2 s3 s4 s5 s6 s7 s8 s9 s10 s11 s12 s13 s14 s15 s16 s17 s18 s19 s20 s21 s22 s23 s24 s25 s26 s27 s28 s29 s30 s31 s32 s33 s34 s35 s36 s37 s38 s39 s40 s41 s42 s43 s44 s45 s46 s47 s48 s49 s50 s51 s52 s53 s54 s55 s56 s57 s58 s59 a1 a2:AV} {O:fK Prop} {tm:T AV} {Kt:KTm} {r:List RO} {sT:List AV}
theorem F93.zu:IR.run F93.t0 C N O K (F93.fr a b c e f i o p q s d g j l u y w v z B D Z x22 G H L M x27 A E P Q U V W x35) h nx =
 xq a h nx λv1 h2 n3=>yX [.zb,.zb] h2 n3 λv4 h5 n6=>K (F93.fr a v1 v4 e f i o p q s d g j l u y w v z B D Z x22 G H L M x27 A E P Q U V W x35) h5 n6:=by kernel_rfl
theorem F93.zo:IR.run F93.t1 C N O K (F93.fr a b c e f i o p q s d g j l u y w v z B D Z x22 G H L M x27 A E P Q U V W x35) h nx =
 zM 0 b λv1=>zG v1 h λv2=>K (F93.fr a b c v2 f i o p q s d g j l u y w v z B D Z x22 G H L M x27 A E P Q U V W x35) h nx:=by kernel_rfl
theorem F93.yw:IR.run F93.t2 C N O K (F93.fr a b c e f i o p q s d g j l u y w v z B D Z x22 G H L M x27 A E P Q U V W x35) h nx =
 K (F93.fr a b c e .zb i o p q s d g j l u y w v z B D Z x22 G H L M x27 A E P Q U V W x35) h nx:=by kernel_rfl
theorem F93.vk:IR.run F93.t3 C N O K (F93.fr a b c e f i o p q s d g j l u y w v z B D Z x22 G H L M x27 A E P Q U V W x35) h nx =
 K (F93.fr a b c e f .zb o p q s d g j l u y w v z B D Z x22 G H L M x27 A E P Q U V W x35) h nx:=by kernel_rfl
theorem F93.ng:IR.run F93.t4 C N O K (F93.fr a b c e f i o p q s d g j l u y w v z B D Z x22 G H L M x27 A E P Q U V W x35) h nx =
 K (F93.fr a b c e f i (I 1) p q s d g j l u y w v z B D Z x22 G H L M x27 A E P Q U V W x35) h nx:=by kernel_rfl
theorem F93.fZ:IR.run F93.t5 C N O K (F93.fr a b c e f i o p q s d g j l u y w v z B D Z x22 G H L M x27 A E P Q U V W x35) h nx =
 zM 1 b λv1=>zG v1 h λv2=>sLen v2 λv3=>za .lss .int o v3 λv4=>K (F93.fr a b c e f i o p q s d g j l u y w v4 z B D Z x22 G H L M x27 A E P Q U V W x35) h nx:=by kernel_rfl
theorem F93.v17:Arg.ev (.t (.of 17)) ⟨(F93.fr a b c e f i o p q s d g j l u y w v z B D Z x22 G H L M x27 A E P Q U V W x35),[]⟩=v:=by kernel_rfl
theorem F93.fU:IR.run F93.t8 C N O K (F93.fr a b c e f i o p q s d g j l u y w v z B D Z x22 G H L M x27 A E P Q U V W x35) h nx =
 zM 1 b λv1=>zG v1 h λv2=>zJ 1 v2 o λv3=>zG v3 h λv4=>C.fn 104 (.of 104) [e,v4] h nx λv5 h6 n7=>K (F93.fr a b c e f i o v5 q s d g j l u y w v z B D Z x22 G H L M x27 A E P Q U V W x35) h6 n7:=by kernel_rfl
theorem F93.nu:IR.run F93.t9 C N O K (F93.fr a b c e f i o p q s d g j l u y w v z B D Z x22 G H L M x27 A E P Q U V W x35) h nx =
 zM 1 b λv1=>zG v1 h λv2=>zJ 1 v2 (I 0) λv3=>zG v3 h λv4=>C.fn 96 (.of 96) [(I 1)] h nx λv5 h6 n7=>(zG v3 h6 λvA=>zQ vA v4 ((zJ 1 v2 (I 0) λvB=>zQ vB v3 ((zG v1 h6 λvC=>zQ vC v2 ((zM 1 b λvD=>zQ vD v1 (zQ e e (zQ p p (C.fn 104 (.of 104) [e,v4] h6 n7 λv8 h9 nA=>zQ p p (C.fn 106 (.of 106) [p,v5,v8] h9 nA λvE hA nB=>K (F93.fr a b c e f i o p q s d g j l u y w v z B D Z x22 G H L M x27 A E P Q U V W x35) hA nB))))))))))):=by kernel_rfl
theorem F93.ny:IR.run F93.t10 C N O K (F93.fr a b c e f i o p q s d g j l u y w v z B D Z x22 G H L M x27 A E P Q U V W x35) h nx =
 sLen i λv1=>K (F93.fr a b c e f i o p q s d g j l u y w v i v1 (I 0) Z x22 G H L M x27 A E P Q U V W x35) h nx:=by kernel_rfl
theorem F93.xu:IR.run F93.t11 C N O K (F93.fr a b c e f i o p q s d g j l u y w v z B D Z x22 G H L M x27 A E P Q U V W x35) h nx =
 za .lss .int D B λv1=>K (F93.fr a b c e f i o p q s d g j l u y w v z B D v1 x22 G H L M x27 A E P Q U V W x35) h nx:=by kernel_rfl
theorem F93.v21:Arg.ev (.t (.of 21)) ⟨(F93.fr a b c e f i o p q s d g j l u y w v z B D Z x22 G H L M x27 A E P Q U V W x35),[]⟩=Z:=by kernel_rfl
theorem F93.rP:IR.run F93.t13 C N O K (F93.fr a b c e f i o p q s d g j l u y w v z B D Z x22 G H L M x27 A E P Q U V W x35) h nx =
 zJ 1 z D λv1=>zG v1 h λv2=>K (F93.fr a b c e f i o p D v2 d g j l u y w v z B D Z x22 G H L M x27 A E P Q U V W x35) h nx:=by kernel_rfl
theorem F93.rG:IR.run F93.t14 C N O K (F93.fr a b c e f i o p q s d g j l u y w v z B D Z x22 G H L M x27 A E P Q U V W x35) h nx =
 zJ 4 p s λv1=>zK 4 v1 h λv2=>zJ 1 f q λv3=>zG v3 h λv4=>C.fn 106 (.of 106) [p,v2,v4] h nx λv5 h6 n7=>K (F93.fr a b c e f i o p q s d g j l u y w v z B D Z x22 G H L M x27 A E P Q U V W x35) h6 n7:=by kernel_rfl
theorem F93.tL:IR.run F93.t17 C N O K (F93.fr a b c e f i o p q s d g j l u y w v z B D Z x22 G H L M x27 A E P Q U V W x35) h nx =
 za .add .int D (I 1) λv1=>K (F93.fr a b c e f i o p q s d g j l u y w v z B v1 Z x22 G H L M x27 A E P Q U V W x35) h nx:=by kernel_rfl
theorem F93.znd (Inv:Nat->AV->T Blk->Pa->Prop) {m:Nat} (hm:m<N) (hi:Inv m D h nx)
  (step:∀ (m:Nat) (z8 z9 zA zB:AV) (h:T Blk) (nx:Pa) (R:Ks Prop),Inv m zA h nx->(∀ (m':Nat) (w8 w9 wA wB:AV) (h':T Blk) (nx':Pa),m'<m->Inv m' wA h' nx'->R (F93.fr a b c e f i o p w8 w9 d g j l u y w v z B wA wB x22 G H L M x27 A E P Q U V W x35) h' nx'=.ok True)->IR.run F93.t20 C N O R (F93.fr a b c e f i o p z8 z9 d g j l u y w v z B zA zB x22 G H L M x27 A E P Q U V W x35) h nx=.ok True) :
  IR.run F93.t21 C N O K (F93.fr a b c e f i o p q s d g j l u y w v z B D Z x22 G H L M x27 A E P Q U V W x35) h nx=.ok True:=by
 rw [F93.t21];refine yA (λm tm h nx=>∃ z8 z9 zA zB,tm=(F93.fr a b c e f i o p z8 z9 d g j l u y w v z B zA zB x22 G H L M x27 A E P Q U V W x35)/\Inv m zA h nx) ?_ hm ⟨_,_,_,_,rfl,hi⟩;rintro m _ h nx R ⟨_,_,_,_,rfl,q⟩ p;exact step m _ _ _ _ h nx R q λ_ _ _ _ _ _ _ x y=>p _ _ _ _ x ⟨_,_,_,_,rfl,y⟩
theorem F93.aV:IR.run F93.t24 C N O K (F93.fr a b c e f i o p q s d g j l u y w v z B D Z x22 G H L M x27 A E P Q U V W x35) h nx =
 za .sub .int e (I 1) λv1=>K (F93.fr a b c e f i o p q s v1 g j l u y w v z B D Z x22 G H L M x27 A E P Q U V W x35) h nx:=by kernel_rfl
theorem F93.zfy:IR.run F93.t25 C N O K tm h nx=zZ F93.zne C ⟨tm,[]⟩ h nx (λtm h nx=>K tm.v h nx):=jN ..
theorem F93.zse:zZ (F93.znf r) C ⟨(F93.fr a b c e f i o p q s d g j l u y w v z B D Z x22 G H L M x27 A E P Q U V W x35),[]⟩ h nx Kt =
 za .geq .int d (I 0) λv1=>sG v1 true (λk=>k p) λv2=>sG v1 true (λk=>k d) λv3=>sG v1 true (λk=>zJ 4 v2 v3 k) λv4=>sG v1 true (λk=>zK 4 v4 h k) λv5=>sGW v1 true (λk=>C.fn 110 (.of 110) [v5] h nx k) h nx λv6 h7 n8=>zZ r C ⟨(F93.fr a b c e f i o p q s d g j l u y w v z B D Z x22 G H L M x27 A E P Q U V W x35),v6::v5::v4::v3::v2::v1::v1::d::[]⟩ h7 n8 Kt:=by kernel_rfl
theorem F93.zjz:zZ (F93.zng []) C ⟨(F93.fr a b c e f i o p q s d g j l u y w v z B D Z x22 G H L M x27 A E P Q U V W x35),s0::s1::s2::s3::s4::s5::sT⟩ h nx Kt =
 sG s5 true (λk=>za .eql .int s0 (I 0) k) λv1=>yQ s5 v1 (.bool false) λv2=>Kt ⟨(F93.fr a b c e f i o p q s d g j l u y w v z B D Z v2 G H L M x27 A E P Q U V W x35),v1::s0::s1::s2::s3::s4::s5::sT⟩ h nx:=by kernel_rfl
theorem F93.v22:Arg.ev (.t (.of 22)) ⟨(F93.fr a b c e f i o p q s d g j l u y w v z B D Z x22 G H L M x27 A E P Q U V W x35),[]⟩=x22:=by kernel_rfl
theorem F93.om:IR.run F93.t28 C N O K (F93.fr a b c e f i o p q s d g j l u y w v z B D Z x22 G H L M x27 A E P Q U V W x35) h nx =
 za .sub .int d (I 1) λv1=>K (F93.fr a b c e f i o p q s v1 g j l u y w v z B D Z x22 G H L M x27 A E P Q U V W x35) h nx:=by kernel_rfl
theorem F93.zfm (Inv:Nat->AV->T Blk->Pa->Prop) {m:Nat} (hm:m<N) (hi:Inv m d h nx)
  (step:∀ (m:Nat) (zC zD:AV) (h:T Blk) (nx:Pa) (R:Ks Prop),Inv m zC h nx->(∀ (m':Nat) (wC wD:AV) (h':T Blk) (nx':Pa),m'<m->Inv m' wC h' nx'->R (F93.fr a b c e f i o p q s wC g j l u y w v z B D Z wD G H L M x27 A E P Q U V W x35) h' nx'=.ok True)->IR.run F93.t30 C N O R (F93.fr a b c e f i o p q s zC g j l u y w v z B D Z zD G H L M x27 A E P Q U V W x35) h nx=.ok True) :
  IR.run F93.t31 C N O K (F93.fr a b c e f i o p q s d g j l u y w v z B D Z x22 G H L M x27 A E P Q U V W x35) h nx=.ok True:=by
 rw [F93.t31];refine yA (λm tm h nx=>∃ zC zD,tm=(F93.fr a b c e f i o p q s zC g j l u y w v z B D Z zD G H L M x27 A E P Q U V W x35)/\Inv m zC h nx) ?_ hm ⟨_,_,rfl,hi⟩;rintro m _ h nx R ⟨_,_,rfl,q⟩ p;exact step m _ _ h nx R q λ_ _ _ _ _ x y=>p _ _ _ _ x ⟨_,_,rfl,y⟩
theorem F93.zj0:IR.run F93.t33 C N O K (F93.fr a b c e f i o p q s d g j l u y w v z B D Z x22 G H L M x27 A E P Q U V W x35) h nx =
 za .lss .int d (I 0) λv1=>K (F93.fr a b c e f i o p q s d g j l u y w v z B D Z x22 v1 H L M x27 A E P Q U V W x35) h nx:=by kernel_rfl
theorem F93.v23:Arg.ev (.t (.of 23)) ⟨(F93.fr a b c e f i o p q s d g j l u y w v z B D Z x22 G H L M x27 A E P Q U V W x35),[]⟩=G:=by kernel_rfl
theorem F93.znh:IR.run F93.t36 C N O K (F93.fr a b c e f i o p q s d g j l u y w v z B D Z x22 G H L M x27 A E P Q U V W x35) h nx =
 zJ 4 p d λv1=>zK 4 v1 h λv2=>C.fn 112 (.of 112) [v2] h nx λv3 h4 n5=>C.fn 111 (.of 111) [p,v3] h4 n5 λv6 h7 n8=>K (F93.fr a b c e f i o p q s d g j l u y w v z B D Z x22 G H L M x27 A E P Q U V W x35) h7 n8:=by kernel_rfl
theorem F93.zzl:IR.run F93.t37 C N O K (F93.fr a b c e f i o p q s d g j l u y w v z B D Z x22 G H L M x27 A E P Q U V W x35) h nx =
 sLen f λv1=>K (F93.fr a b c e f i o p q s d g j l u y w v z B D Z x22 G f v1 (I 0) x27 A E P Q U V W x35) h nx:=by kernel_rfl
theorem F93.zm9:IR.run F93.t38 C N O K (F93.fr a b c e f i o p q s d g j l u y w v z B D Z x22 G H L M x27 A E P Q U V W x35) h nx =
 za .lss .int M L λv1=>K (F93.fr a b c e f i o p q s d g j l u y w v z B D Z x22 G H L M v1 A E P Q U V W x35) h nx:=by kernel_rfl
theorem F93.v27:Arg.ev (.t (.of 27)) ⟨(F93.fr a b c e f i o p q s d g j l u y w v z B D Z x22 G H L M x27 A E P Q U V W x35),[]⟩=x27:=by kernel_rfl
theorem F93.zzm:IR.run F93.t40 C N O K (F93.fr a b c e f i o p q s d g j l u y w v z B D Z x22 G H L M x27 A E P Q U V W x35) h nx =
 zJ 1 H M λv1=>zG v1 h λv2=>K (F93.fr a b c e f i o p q s d v2 j l u y w v z B D Z x22 G H L M x27 A E P Q U V W x35) h nx:=by kernel_rfl
theorem F93.zzn:IR.run F93.t41 C N O K (F93.fr a b c e f i o p q s d g j l u y w v z B D Z x22 G H L M x27 A E P Q U V W x35) h nx =
 zJ 4 g d λv1=>zK 4 v1 h λv2=>C.fn 106 (.of 106) [g,v2,p] h nx λv3 h4 n5=>K (F93.fr a b c e f i o p q s d g j l u y w v z B D Z x22 G H L M x27 A E P Q U V W x35) h4 n5:=by kernel_rfl
theorem F93.zni:IR.run F93.t44 C N O K (F93.fr a b c e f i o p q s d g j l u y w v z B D Z x22 G H L M x27 A E P Q U V W x35) h nx =
 za .add .int M (I 1) λv1=>K (F93.fr a b c e f i o p q s d g j l u y w v z B D Z x22 G H L v1 x27 A E P Q U V W x35) h nx:=by kernel_rfl
theorem F93.zzo (Inv:Nat->AV->T Blk->Pa->Prop) {m:Nat} (hm:m<N) (hi:Inv m M h nx)
  (step:∀ (m:Nat) (zE zF zH:AV) (h:T Blk) (nx:Pa) (R:Ks Prop),Inv m zF h nx->(∀ (m':Nat) (wE wF wG:AV) (h':T Blk) (nx':Pa),m'<m->Inv m' wF h' nx'->R (F93.fr a b c e f i o p q s d wE j l u y w v z B D Z x22 G H L wF wG A E P Q U V W x35) h' nx'=.ok True)->IR.run F93.t47 C N O R (F93.fr a b c e f i o p q s d zE j l u y w v z B D Z x22 G H L zF zH A E P Q U V W x35) h nx=.ok True) :
  IR.run F93.t48 C N O K (F93.fr a b c e f i o p q s d g j l u y w v z B D Z x22 G H L M x27 A E P Q U V W x35) h nx=.ok True:=by
 rw [F93.t48];refine yA (λm tm h nx=>∃ zE zF zH,tm=(F93.fr a b c e f i o p q s d zE j l u y w v z B D Z x22 G H L zF zH A E P Q U V W x35)/\Inv m zF h nx) ?_ hm ⟨_,_,_,rfl,hi⟩;rintro m _ h nx R ⟨_,_,_,rfl,q⟩ p;exact step m _ _ _ h nx R q λ_ _ _ _ _ _ x y=>p _ _ _ _ x ⟨_,_,_,rfl,y⟩
theorem F93.zzp:IR.run F93.t51 C N O K (F93.fr a b c e f i o p q s d g j l u y w v z B D Z x22 G H L M x27 A E P Q U V W x35) h nx =
 yS 1 1 [.zb] [(0,1,p)] h nx λv1 h2 n3=>rY 1 24 f v1 h2 n3 λv4 h5 n6=>yS 1 1 [(I 0)] [(0,1,d)] h5 n6 λv7 h8 n9=>rY 1 8 i v7 h8 n9 λvF hB nC=>K (F93.fr a b c e v4 vF o p q s d g j l u y w v z B D Z x22 G H L M x27 A E P Q U V W x35) hB nC:=by kernel_rfl
theorem F93.zu3:IR.run F93.t61 C N O K (F93.fr a b c e f i o p q s d g j l u y w v z B D Z x22 G H L M x27 A E P Q U V W x35) h nx =
 za .add .int o (I 1) λv1=>K (F93.fr a b c e f i v1 p q s d g j l u y w v z B D Z x22 G H L M x27 A E P Q U V W x35) h nx:=by kernel_rfl
theorem F93.zzq (Inv:Nat->AV->AV->AV->T Blk->Pa->Prop) {m:Nat} (hm:m<N) (hi:Inv m f i o h nx)
  (step:∀ (m:Nat) (z4 z5 z6 z7 z8 z9 zC zE zI zL zN zA zB zD zO zR zS zF zH:AV) (h:T Blk) (nx:Pa) (R:Ks Prop),Inv m z4 z5 z6 h nx->(∀ (m':Nat) (w4 w5 w6 w7 w8 w9 wC wE wH wI wJ wA wB wD wK wL wM wF wG:AV) (h':T Blk) (nx':Pa),m'<m->Inv m' w4 w5 w6 h' nx'->R (F93.fr a b c e w4 w5 w6 w7 w8 w9 wC wE j l u y w wH wI wJ wA wB wD wK wL wM wF wG A E P Q U V W x35) h' nx'=.ok True)->IR.run F93.t63 C N O R (F93.fr a b c e z4 z5 z6 z7 z8 z9 zC zE j l u y w zI zL zN zA zB zD zO zR zS zF zH A E P Q U V W x35) h nx=.ok True) :
  IR.run F93.t64 C N O K (F93.fr a b c e f i o p q s d g j l u y w v z B D Z x22 G H L M x27 A E P Q U V W x35) h nx=.ok True:=by
 rw [F93.t64];refine yA (λm tm h nx=>∃ z4 z5 z6 z7 z8 z9 zC zE zI zL zN zA zB zD zO zR zS zF zH,tm=(F93.fr a b c e z4 z5 z6 z7 z8 z9 zC zE j l u y w zI zL zN zA zB zD zO zR zS zF zH A E P Q U V W x35)/\Inv m z4 z5 z6 h nx) ?_ hm ⟨_,_,_,_,_,_,_,_,_,_,_,_,_,_,_,_,_,_,_,rfl,hi⟩;rintro m _ h nx R ⟨_,_,_,_,_,_,_,_,_,_,_,_,_,_,_,_,_,_,_,rfl,q⟩ p;exact step m _ _ _ _ _ _ _ _ _ _ _ _ _ _ _ _ _ _ _ h nx R q λ_ _ _ _ _ _ _ _ _ _ _ _ _ _ _ _ _ _ _ _ _ _ x y=>p _ _ _ _ x ⟨_,_,_,_,_,_,_,_,_,_,_,_,_,_,_,_,_,_,_,rfl,y⟩
theorem F93.zzr:IR.run F93.t67 C N O K (F93.fr a b c e f i o p q s d g j l u y w v z B D Z x22 G H L M x27 A E P Q U V W x35) h nx =
 yX [.zb,.zb] h nx λv1 h2 n3=>K (F93.fr a b c e f i o p q s d g v1 l u y w v z B D Z x22 G H L M x27 A E P Q U V W x35) h2 n3:=by kernel_rfl
theorem F93.zzs:IR.run F93.t68 C N O K (F93.fr a b c e f i o p q s d g j l u y w v z B D Z x22 G H L M x27 A E P Q U V W x35) h nx =
 K (F93.fr a b c e f i o p q s d g j l u y w v z B D Z x22 G H L M x27 e (I 0) P Q U V W x35) h nx:=by kernel_rfl
theorem F93.zzt:IR.run F93.t69 C N O K (F93.fr a b c e f i o p q s d g j l u y w v z B D Z x22 G H L M x27 A E P Q U V W x35) h nx =
 za .lss .int E A λv1=>K (F93.fr a b c e f i o p q s d g j l u y w v z B D Z x22 G H L M x27 A E v1 Q U V W x35) h nx:=by kernel_rfl
theorem F93.v30:Arg.ev (.t (.of 30)) ⟨(F93.fr a b c e f i o p q s d g j l u y w v z B D Z x22 G H L M x27 A E P Q U V W x35),[]⟩=P:=by kernel_rfl
theorem F93.zzu:IR.run F93.t71 C N O K (F93.fr a b c e f i o p q s d g j l u y w v z B D Z x22 G H L M x27 A E P Q U V W x35) h nx =
 K (F93.fr a b c e f i o p q s d g j E u y w v z B D Z x22 G H L M x27 A E P Q U V W x35) h nx:=by kernel_rfl
theorem F93.zzv:IR.run F93.t72 C N O K (F93.fr a b c e f i o p q s d g j l u y w v z B D Z x22 G H L M x27 A E P Q U V W x35) h nx =
 C.fn 182 (.of 182) [i,l] h nx λv1 h2 n3=>K (F93.fr a b c e f i o p q s d g j l u y w v z B D Z x22 G H L M x27 A E P v1 U V W x35) h2 n3:=by kernel_rfl
theorem F93.v31:Arg.ev (.t (.of 31)) ⟨(F93.fr a b c e f i o p q s d g j l u y w v z B D Z x22 G H L M x27 A E P Q U V W x35),[]⟩=Q:=by kernel_rfl
theorem F93.zzw:IR.run F93.t75 C N O K (F93.fr a b c e f i o p q s d g j l u y w v z B D Z x22 G H L M x27 A E P Q U V W x35) h nx =
 C.fn 105 (.of 105) [e] h nx λv1 h2 n3=>K (F93.fr a b c e f i o p q s d g j l v1 y w v z B D Z x22 G H L M x27 A E P Q U V W x35) h2 n3:=by kernel_rfl
theorem F93.zzx:IR.run F93.t76 C N O K (F93.fr a b c e f i o p q s d g j l u y w v z B D Z x22 G H L M x27 A E P Q U V W x35) h nx =
 C.fn 96 (.of 96) [(I 1)] h nx λv1 h2 n3=>zJ 4 u l λv4=>zV 4 v4 v1 h2 n3 λv5 h6 n7=>K (F93.fr a b c e f i o p q s d g j l u y w v z B D Z x22 G H L M x27 A E P Q U V W x35) h6 n7:=by kernel_rfl
theorem F93.zzy:IR.run F93.t77 C N O K (F93.fr a b c e f i o p q s d g j l u y w v z B D Z x22 G H L M x27 A E P Q U V W x35) h nx =
 sLen i λv1=>K (F93.fr a b c e f i o p q s d g j l u y w v z B D Z x22 G H L M x27 A E P Q i v1 (I 0) x35) h nx:=by kernel_rfl
theorem F93.zz0:IR.run F93.t78 C N O K (F93.fr a b c e f i o p q s d g j l u y w v z B D Z x22 G H L M x27 A E P Q U V W x35) h nx =
 za .lss .int W V λv1=>K (F93.fr a b c e f i o p q s d g j l u y w v z B D Z x22 G H L M x27 A E P Q U V W v1) h nx:=by kernel_rfl
theorem F93.v35:Arg.ev (.t (.of 35)) ⟨(F93.fr a b c e f i o p q s d g j l u y w v z B D Z x22 G H L M x27 A E P Q U V W x35),[]⟩=x35:=by kernel_rfl
theorem F93.zz1:IR.run F93.t80 C N O K (F93.fr a b c e f i o p q s d g j l u y w v z B D Z x22 G H L M x27 A E P Q U V W x35) h nx =
 zJ 1 U W λv1=>zG v1 h λv2=>K (F93.fr a b c e f i o p q s d g j l u W v2 v z B D Z x22 G H L M x27 A E P Q U V W x35) h nx:=by kernel_rfl
theorem F93.zz2:IR.run F93.t81 C N O K (F93.fr a b c e f i o p q s d g j l u y w v z B D Z x22 G H L M x27 A E P Q U V W x35) h nx =
 zJ 1 f y λv1=>zG v1 h λv2=>zJ 4 v2 l λv3=>zK 4 v3 h λv4=>C.fn 107 (.of 107) [v4] h nx λv5 h6 n7=>zJ 4 u w λv8=>zV 4 v8 v5 h6 n7 λv9 hC nD=>K (F93.fr a b c e f i o p q s d g j l u y w v z B D Z x22 G H L M x27 A E P Q U V W x35) hC nD:=by kernel_rfl
theorem F93.zz3:IR.run F93.t84 C N O K (F93.fr a b c e f i o p q s d g j l u y w v z B D Z x22 G H L M x27 A E P Q U V W x35) h nx =
 za .add .int W (I 1) λv1=>K (F93.fr a b c e f i o p q s d g j l u y w v z B D Z x22 G H L M x27 A E P Q U V v1 x35) h nx:=by kernel_rfl
theorem F93.zz4 (Inv:Nat->AV->T Blk->Pa->Prop) {m:Nat} (hm:m<N) (hi:Inv m W h nx)
  (step:∀ (m:Nat) (zT zU zW zX:AV) (h:T Blk) (nx:Pa) (R:Ks Prop),Inv m zW h nx->(∀ (m':Nat) (wN wO wP wQ:AV) (h':T Blk) (nx':Pa),m'<m->Inv m' wP h' nx'->R (F93.fr a b c e f i o p q s d g j l u wN wO v z B D Z x22 G H L M x27 A E P Q U V wP wQ) h' nx'=.ok True)->IR.run F93.t87 C N O R (F93.fr a b c e f i o p q s d g j l u zT zU v z B D Z x22 G H L M x27 A E P Q U V zW zX) h nx=.ok True) :
  IR.run F93.t88 C N O K (F93.fr a b c e f i o p q s d g j l u y w v z B D Z x22 G H L M x27 A E P Q U V W x35) h nx=.ok True:=by
 rw [F93.t88];refine yA (λm tm h nx=>∃ zT zU zW zX,tm=(F93.fr a b c e f i o p q s d g j l u zT zU v z B D Z x22 G H L M x27 A E P Q U V zW zX)/\Inv m zW h nx) ?_ hm ⟨_,_,_,_,rfl,hi⟩;rintro m _ h nx R ⟨_,_,_,_,rfl,q⟩ p;exact step m _ _ _ _ h nx R q λ_ _ _ _ _ _ _ x y=>p _ _ _ _ x ⟨_,_,_,_,rfl,y⟩
theorem F93.zz5:IR.run F93.t91 C N O K (F93.fr a b c e f i o p q s d g j l u y w v z B D Z x22 G H L M x27 A E P Q U V W x35) h nx =
 zM 0 j λv1=>zG v1 h λv2=>sChk ((gL (ni 1 [(I 0)]) [(0,1,l)]).isSome&&true) (zM 1 j λv3=>zG v3 h λv4=>sChk ((gL (ni 1 [.zb]) [(0,1,u)]).isSome&&true) (yS 1 1 [(I 0)] [(0,1,l)] h nx λv5 h6 n7=>zQ u u ((zG v3 h6 λvG=>zQ vG v4 ((zM 1 j λvH=>zQ vH v3 (zQ l l ((zG v1 h6 λvI=>zQ vI v2 ((zM 0 j λvJ=>zQ vJ v1 (rY 1 8 v2 v5 h6 n7 λv8 h9 nA=>zQ u u ((zG v3 h9 λvK=>zQ vK v4 ((zM 1 j λvL=>zQ vL v3 (zQ l l ((zG v1 h9 λvM=>zQ vM v2 ((zM 0 j λvN=>zQ vN v1 (zM 0 j λvE=>yS 1 1 [.zb] [(0,1,u)] h9 nA λvO hD nE=>(zM 0 j λvP=>zQ vP vE ((zG v3 hD λvQ=>zQ vQ v4 ((zM 1 j λvR=>zQ vR v3 (zQ l l ((zG v1 hD λvS=>zQ vS v2 ((zM 0 j λvT=>zQ vT v1 (rY 1 24 v4 vO hD nE λvC hE nF=>(zM 0 j λvU=>zQ vU vE (zV 1 vE v8 hE nF λvV hF nG=>zM 1 j λvW=>zV 1 vW vC hF nG λvX hG nH=>K (F93.fr a b c e f i o p q s d g j l u y w v z B D Z x22 G H L M x27 A E P Q U V W x35) hG nH))))))))))))))))))))))))))))))))))):=by kernel_rfl
theorem F93.zu4:IR.run F93.t98 C N O K (F93.fr a b c e f i o p q s d g j l u y w v z B D Z x22 G H L M x27 A E P Q U V W x35) h nx =
 za .add .int E (I 1) λv1=>K (F93.fr a b c e f i o p q s d g j l u y w v z B D Z x22 G H L M x27 A v1 P Q U V W x35) h nx:=by kernel_rfl
theorem F93.zw1 (Inv:Nat->AV->T Blk->Pa->Prop) {m:Nat} (hm:m<N) (hi:Inv m E h nx)
  (step:∀ (m:Nat) (zY z14 zT zU z29 z30 z31 z32 z33 zW zX:AV) (h:T Blk) (nx:Pa) (R:Ks Prop),Inv m z29 h nx->(∀ (m':Nat) (wR wS wN wO wT wU wV wW wX wP wQ:AV) (h':T Blk) (nx':Pa),m'<m->Inv m' wT h' nx'->R (F93.fr a b c e f i o p q s d g j wR wS wN wO v z B D Z x22 G H L M x27 A wT wU wV wW wX wP wQ) h' nx'=.ok True)->IR.run F93.t101 C N O R (F93.fr a b c e f i o p q s d g j zY z14 zT zU v z B D Z x22 G H L M x27 A z29 z30 z31 z32 z33 zW zX) h nx=.ok True) :
  IR.run F93.t102 C N O K (F93.fr a b c e f i o p q s d g j l u y w v z B D Z x22 G H L M x27 A E P Q U V W x35) h nx=.ok True:=by
 rw [F93.t102];refine yA (λm tm h nx=>∃ zY z14 zT zU z29 z30 z31 z32 z33 zW zX,tm=(F93.fr a b c e f i o p q s d g j zY z14 zT zU v z B D Z x22 G H L M x27 A z29 z30 z31 z32 z33 zW zX)/\Inv m z29 h nx) ?_ hm ⟨_,_,_,_,_,_,_,_,_,_,_,rfl,hi⟩;rintro m _ h nx R ⟨_,_,_,_,_,_,_,_,_,_,_,rfl,q⟩ p;exact step m _ _ _ _ _ _ _ _ _ _ _ h nx R q λ_ _ _ _ _ _ _ _ _ _ _ _ _ _ x y=>p _ _ _ _ x ⟨_,_,_,_,_,_,_,_,_,_,_,rfl,y⟩
theorem F93.zw2:IR.run F93.t105 C N O K (F93.fr a b c e f i o p q s d g j l u y w v z B D Z x22 G H L M x27 A E P Q U V W x35) h nx =
 zK 2 j h λv1=>zV 2 c v1 h nx λv2 h3 n4=>K (F93.fr a b c e f i o p q s d g j l u y w v z B D Z x22 G H L M x27 A E P Q U V W x35) h3 n4:=by kernel_rfl
theorem F93.go:zP tbl N C (.of 93) [a0] h nx K0=IR.run F93.t113 C N (fnO F93.res K0) (zi F93.res K0) (F93.fr a0 .u .u .u .u .u .u .u .u .u .u .u .u .u .u .u .u .u .u .u .u .u .u .u .u .u .u .u .u .u .u .u .u .u .u .u) h nx:=yE (F:=F93) (by kernel_rfl) (λ_=>by kernel_rfl) (by kernel_rfl)
theorem F93.ret:zi F93.res K0 (F93.fr a b c e f i o p q s d g j l u y w v z B D Z x22 G H L M x27 A E P Q U V W x35) h nx=zK 2 c h λv1=>K0 v1 h nx:=by kernel_rfl
theorem fQ.zu:IR.run fQ.t0 C N O K (fQ.fr a b c) h nx =
 K (fQ.fr a (I 0) c) h nx:=by kernel_rfl
theorem fQ.zo:IR.run fQ.t1 C N O K (fQ.fr a b c) h nx =
 C.fn 312 (.of 312) [a] h nx λv1 h2 n3=>C.fn 329 (.of 329) [v1] h2 n3 λv4 h5 n6=>K (fQ.fr a b v4) h5 n6:=by kernel_rfl
theorem fQ.yw:IR.run fQ.t2 C N O K (fQ.fr a b c) h nx =
 zaf 1 20 (.fp (o9 2)) c λv1=>zG v1 h λv2=>za .geq .int a v2 λv3=>C.fn 330 (.of 330) [v3] h nx λv4 h5 n6=>za .add .int c v4 λv7=>K (fQ.fr a v7 c) h5 n6:=by kernel_rfl
theorem fQ.go:zP tbl N C (.of 316) [a0] h nx K0=IR.run fQ.t5 C N (fnO fQ.res K0) (zi fQ.res K0) (fQ.fr a0 .u .u) h nx:=yE (F:=fQ) (by kernel_rfl) (λ_=>by kernel_rfl) (by kernel_rfl)
theorem fQ.ret:zi fQ.res K0 (fQ.fr a b c) h nx=K0 b h nx:=by kernel_rfl
theorem nZ.zu:IR.run nZ.t0 C N O K (nZ.fr a b) h nx =
 K (nZ.fr a (I 0)) h nx:=by kernel_rfl
theorem nZ.zo:IR.run nZ.t1 C N O K (nZ.fr a b) h nx =
 za .mul .int a (I 78913) λv1=>za .shr .int v1 (.int .u64 18) λv2=>K (nZ.fr a v2) h nx:=by kernel_rfl
theorem nZ.go:zP tbl N C (.of 329) [a0] h nx K0=IR.run nZ.t3 C N (fnO nZ.res K0) (zi nZ.res K0) (nZ.fr a0 .u) h nx:=yE (F:=nZ) (by kernel_rfl) (λ_=>by kernel_rfl) (by kernel_rfl)
theorem nZ.ret:zi nZ.res K0 (nZ.fr a b) h nx=K0 b h nx:=by kernel_rfl
theorem mq.zu:IR.run mq.t0 C N O K (mq.fr a b c) h nx =
 K (mq.fr a (I 0) c) h nx:=by kernel_rfl
theorem mq.zo:IR.run mq.t1 C N O K (mq.fr a b c) h nx =
 K (mq.fr a b a) h nx:=by kernel_rfl
theorem mq.yw:IR.run mq.t2 C N O K (mq.fr a b c) h nx =
 K (mq.fr a (I 1) c) h nx:=by kernel_rfl
theorem mq.v2:Arg.ev (.t (.of 2)) ⟨(mq.fr a b c),[]⟩=c:=by kernel_rfl
theorem mq.uy:IR.run mq.t6 C N O K (mq.fr a b c) h nx =
 K (mq.fr a (I 0) c) h nx:=by kernel_rfl
theorem mq.go:zP tbl N C (.of 330) [a0] h nx K0=IR.run mq.t9 C N (fnO mq.res K0) (zi mq.res K0) (mq.fr a0 .u .u) h nx:=yE (F:=mq) (by kernel_rfl) (λ_=>by kernel_rfl) (by kernel_rfl)
theorem mq.ret:zi mq.res K0 (mq.fr a b c) h nx=K0 b h nx:=by kernel_rfl
theorem zf.zu:IR.run zf.t0 C N O K (zf.fr a b c e f i o p q s d g j l u y w v z) h nx =
 sLen a λv1=>K (zf.fr a b v1 e f i o p q s d g j l u y w v z) h nx:=by kernel_rfl
theorem zf.zo:IR.run zf.t1 C N O K (zf.fr a b c e f i o p q s d g j l u y w v z) h nx =
 za .geq .int c (I 8) λv1=>K (zf.fr a b c e f i o p q s d g j l u v1 w v z) h nx:=by kernel_rfl
theorem zf.v15:Arg.ev (.t (.of 15)) ⟨(zf.fr a b c e f i o p q s d g j l u y w v z),[]⟩=y:=by kernel_rfl
theorem zf.ng:IR.run zf.t4 C N O K (zf.fr a b c e f i o p q s d g j l u y w v z) h nx =
 za .rem .int b (.int .u64 100000000) λv1=>kT .u32 v1 λv2=>K (zf.fr a b c v2 f i o p q s d g j l u y w v z) h nx:=by kernel_rfl
theorem zf.fZ:IR.run zf.t5 C N O K (zf.fr a b c e f i o p q s d g j l u y w v z) h nx =
 za .quo .int b (.int .u64 100000000) λv1=>K (zf.fr a v1 c e f i o p q s d g j l u y w v z) h nx:=by kernel_rfl
theorem zf.uy:IR.run zf.t6 C N O K (zf.fr a b c e f i o p q s d g j l u y w v z) h nx =
 za .quo .int e (.int .u32 10000) λv1=>za .rem .int e (.int .u32 10000) λv2=>K (zf.fr a b c e v1 v2 o p q s d g j l u y w v z) h nx:=by kernel_rfl
theorem zf.fF:IR.run zf.t7 C N O K (zf.fr a b c e f i o p q s d g j l u y w v z) h nx =
 za .quo .int i (.int .u32 100) λv1=>za .mul .int v1 (.int .u32 2) λv2=>za .rem .int i (.int .u32 100) λv3=>za .mul .int v3 (.int .u32 2) λv4=>K (zf.fr a b c e f i v2 v4 q s d g j l u y w v z) h nx:=by kernel_rfl
theorem zf.fU:IR.run zf.t8 C N O K (zf.fr a b c e f i o p q s d g j l u y w v z) h nx =
 za .quo .int f (.int .u32 100) λv1=>za .mul .int v1 (.int .u32 2) λv2=>za .rem .int f (.int .u32 100) λv3=>za .mul .int v3 (.int .u32 2) λv4=>K (zf.fr a b c e f i o p v2 v4 d g j l u y w v z) h nx:=by kernel_rfl
theorem zf.nu:IR.run zf.t9 C N O K (zf.fr a b c e f i o p q s d g j l u y w v z) h nx =
 za .sub .int c (I 1) λv1=>za .sub .int c (I 2) λv2=>za .add .int p (.int .u32 1) λv3=>j5 (.str [48,48,48,49,48,50,48,51,48,52,48,53,48,54,48,55,48,56,48,57,49,48,49,49,49,50,49,51,49,52,49,53,49,54,49,55,49,56,49,57,50,48,50,49,50,50,50,51,50,52,50,53,50,54,50,55,50,56,50,57,51,48,51,49,51,50,51,51,51,52,51,53,51,54,51,55,51,56,51,57,52,48,52,49,52,50,52,51,52,52,52,53,52,54,52,55,52,56,52,57,53,48,53,49,53,50,53,51,53,52,53,53,53,54,53,55,53,56,53,57,54,48,54,49,54,50,54,51,54,52,54,53,54,54,54,55,54,56,54,57,55,48,55,49,55,50,55,51,55,52,55,53,55,54,55,55,55,56,55,57,56,48,56,49,56,50,56,51,56,52,56,53,56,54,56,55,56,56,56,57,57,48,57,49,57,50,57,51,57,52,57,53,57,54,57,55,57,56,57,57]) v3 λv4=>j5 (.str [48,48,48,49,48,50,48,51,48,52,48,53,48,54,48,55,48,56,48,57,49,48,49,49,49,50,49,51,49,52,49,53,49,54,49,55,49,56,49,57,50,48,50,49,50,50,50,51,50,52,50,53,50,54,50,55,50,56,50,57,51,48,51,49,51,50,51,51,51,52,51,53,51,54,51,55,51,56,51,57,52,48,52,49,52,50,52,51,52,52,52,53,52,54,52,55,52,56,52,57,53,48,53,49,53,50,53,51,53,52,53,53,53,54,53,55,53,56,53,57,54,48,54,49,54,50,54,51,54,52,54,53,54,54,54,55,54,56,54,57,55,48,55,49,55,50,55,51,55,52,55,53,55,54,55,55,55,56,55,57,56,48,56,49,56,50,56,51,56,52,56,53,56,54,56,55,56,56,56,57,57,48,57,49,57,50,57,51,57,52,57,53,57,54,57,55,57,56,57,57]) p λv5=>zJ 1 a v1 λv6=>zV 1 v6 v4 h nx λv7 h8 n9=>(j5 (.str [48,48,48,49,48,50,48,51,48,52,48,53,48,54,48,55,48,56,48,57,49,48,49,49,49,50,49,51,49,52,49,53,49,54,49,55,49,56,49,57,50,48,50,49,50,50,50,51,50,52,50,53,50,54,50,55,50,56,50,57,51,48,51,49,51,50,51,51,51,52,51,53,51,54,51,55,51,56,51,57,52,48,52,49,52,50,52,51,52,52,52,53,52,54,52,55,52,56,52,57,53,48,53,49,53,50,53,51,53,52,53,53,53,54,53,55,53,56,53,57,54,48,54,49,54,50,54,51,54,52,54,53,54,54,54,55,54,56,54,57,55,48,55,49,55,50,55,51,55,52,55,53,55,54,55,55,55,56,55,57,56,48,56,49,56,50,56,51,56,52,56,53,56,54,56,55,56,56,56,57,57,48,57,49,57,50,57,51,57,52,57,53,57,54,57,55,57,56,57,57]) p λvC=>zQ vC v5 (zQ p p ((za .sub .int c (I 2) λvD=>zQ vD v2 (zQ c c (zQ a a (zJ 1 a v2 λvF=>zV 1 vF v5 h8 n9 λvE hA nB=>K (zf.fr a b c e f i o p q s d g j l u y w v z) hA nB))))))):=by kernel_rfl
theorem zf.ny:IR.run zf.t10 C N O K (zf.fr a b c e f i o p q s d g j l u y w v z) h nx =
 za .sub .int c (I 3) λv1=>za .sub .int c (I 4) λv2=>za .add .int o (.int .u32 1) λv3=>j5 (.str [48,48,48,49,48,50,48,51,48,52,48,53,48,54,48,55,48,56,48,57,49,48,49,49,49,50,49,51,49,52,49,53,49,54,49,55,49,56,49,57,50,48,50,49,50,50,50,51,50,52,50,53,50,54,50,55,50,56,50,57,51,48,51,49,51,50,51,51,51,52,51,53,51,54,51,55,51,56,51,57,52,48,52,49,52,50,52,51,52,52,52,53,52,54,52,55,52,56,52,57,53,48,53,49,53,50,53,51,53,52,53,53,53,54,53,55,53,56,53,57,54,48,54,49,54,50,54,51,54,52,54,53,54,54,54,55,54,56,54,57,55,48,55,49,55,50,55,51,55,52,55,53,55,54,55,55,55,56,55,57,56,48,56,49,56,50,56,51,56,52,56,53,56,54,56,55,56,56,56,57,57,48,57,49,57,50,57,51,57,52,57,53,57,54,57,55,57,56,57,57]) v3 λv4=>j5 (.str [48,48,48,49,48,50,48,51,48,52,48,53,48,54,48,55,48,56,48,57,49,48,49,49,49,50,49,51,49,52,49,53,49,54,49,55,49,56,49,57,50,48,50,49,50,50,50,51,50,52,50,53,50,54,50,55,50,56,50,57,51,48,51,49,51,50,51,51,51,52,51,53,51,54,51,55,51,56,51,57,52,48,52,49,52,50,52,51,52,52,52,53,52,54,52,55,52,56,52,57,53,48,53,49,53,50,53,51,53,52,53,53,53,54,53,55,53,56,53,57,54,48,54,49,54,50,54,51,54,52,54,53,54,54,54,55,54,56,54,57,55,48,55,49,55,50,55,51,55,52,55,53,55,54,55,55,55,56,55,57,56,48,56,49,56,50,56,51,56,52,56,53,56,54,56,55,56,56,56,57,57,48,57,49,57,50,57,51,57,52,57,53,57,54,57,55,57,56,57,57]) o λv5=>zJ 1 a v1 λv6=>zV 1 v6 v4 h nx λv7 h8 n9=>(j5 (.str [48,48,48,49,48,50,48,51,48,52,48,53,48,54,48,55,48,56,48,57,49,48,49,49,49,50,49,51,49,52,49,53,49,54,49,55,49,56,49,57,50,48,50,49,50,50,50,51,50,52,50,53,50,54,50,55,50,56,50,57,51,48,51,49,51,50,51,51,51,52,51,53,51,54,51,55,51,56,51,57,52,48,52,49,52,50,52,51,52,52,52,53,52,54,52,55,52,56,52,57,53,48,53,49,53,50,53,51,53,52,53,53,53,54,53,55,53,56,53,57,54,48,54,49,54,50,54,51,54,52,54,53,54,54,54,55,54,56,54,57,55,48,55,49,55,50,55,51,55,52,55,53,55,54,55,55,55,56,55,57,56,48,56,49,56,50,56,51,56,52,56,53,56,54,56,55,56,56,56,57,57,48,57,49,57,50,57,51,57,52,57,53,57,54,57,55,57,56,57,57]) o λvC=>zQ vC v5 (zQ o o ((za .sub .int c (I 4) λvD=>zQ vD v2 (zQ c c (zQ a a (zJ 1 a v2 λvF=>zV 1 vF v5 h8 n9 λvE hA nB=>K (zf.fr a b c e f i o p q s d g j l u y w v z) hA nB))))))):=by kernel_rfl
theorem zf.xu:IR.run zf.t11 C N O K (zf.fr a b c e f i o p q s d g j l u y w v z) h nx =
 za .sub .int c (I 5) λv1=>za .sub .int c (I 6) λv2=>za .add .int s (.int .u32 1) λv3=>j5 (.str [48,48,48,49,48,50,48,51,48,52,48,53,48,54,48,55,48,56,48,57,49,48,49,49,49,50,49,51,49,52,49,53,49,54,49,55,49,56,49,57,50,48,50,49,50,50,50,51,50,52,50,53,50,54,50,55,50,56,50,57,51,48,51,49,51,50,51,51,51,52,51,53,51,54,51,55,51,56,51,57,52,48,52,49,52,50,52,51,52,52,52,53,52,54,52,55,52,56,52,57,53,48,53,49,53,50,53,51,53,52,53,53,53,54,53,55,53,56,53,57,54,48,54,49,54,50,54,51,54,52,54,53,54,54,54,55,54,56,54,57,55,48,55,49,55,50,55,51,55,52,55,53,55,54,55,55,55,56,55,57,56,48,56,49,56,50,56,51,56,52,56,53,56,54,56,55,56,56,56,57,57,48,57,49,57,50,57,51,57,52,57,53,57,54,57,55,57,56,57,57]) v3 λv4=>j5 (.str [48,48,48,49,48,50,48,51,48,52,48,53,48,54,48,55,48,56,48,57,49,48,49,49,49,50,49,51,49,52,49,53,49,54,49,55,49,56,49,57,50,48,50,49,50,50,50,51,50,52,50,53,50,54,50,55,50,56,50,57,51,48,51,49,51,50,51,51,51,52,51,53,51,54,51,55,51,56,51,57,52,48,52,49,52,50,52,51,52,52,52,53,52,54,52,55,52,56,52,57,53,48,53,49,53,50,53,51,53,52,53,53,53,54,53,55,53,56,53,57,54,48,54,49,54,50,54,51,54,52,54,53,54,54,54,55,54,56,54,57,55,48,55,49,55,50,55,51,55,52,55,53,55,54,55,55,55,56,55,57,56,48,56,49,56,50,56,51,56,52,56,53,56,54,56,55,56,56,56,57,57,48,57,49,57,50,57,51,57,52,57,53,57,54,57,55,57,56,57,57]) s λv5=>zJ 1 a v1 λv6=>zV 1 v6 v4 h nx λv7 h8 n9=>(j5 (.str [48,48,48,49,48,50,48,51,48,52,48,53,48,54,48,55,48,56,48,57,49,48,49,49,49,50,49,51,49,52,49,53,49,54,49,55,49,56,49,57,50,48,50,49,50,50,50,51,50,52,50,53,50,54,50,55,50,56,50,57,51,48,51,49,51,50,51,51,51,52,51,53,51,54,51,55,51,56,51,57,52,48,52,49,52,50,52,51,52,52,52,53,52,54,52,55,52,56,52,57,53,48,53,49,53,50,53,51,53,52,53,53,53,54,53,55,53,56,53,57,54,48,54,49,54,50,54,51,54,52,54,53,54,54,54,55,54,56,54,57,55,48,55,49,55,50,55,51,55,52,55,53,55,54,55,55,55,56,55,57,56,48,56,49,56,50,56,51,56,52,56,53,56,54,56,55,56,56,56,57,57,48,57,49,57,50,57,51,57,52,57,53,57,54,57,55,57,56,57,57]) s λvC=>zQ vC v5 (zQ s s ((za .sub .int c (I 6) λvD=>zQ vD v2 (zQ c c (zQ a a (zJ 1 a v2 λvF=>zV 1 vF v5 h8 n9 λvE hA nB=>K (zf.fr a b c e f i o p q s d g j l u y w v z) hA nB))))))):=by kernel_rfl
theorem zf.rH:IR.run zf.t12 C N O K (zf.fr a b c e f i o p q s d g j l u y w v z) h nx =
 za .sub .int c (I 7) λv1=>za .sub .int c (I 8) λv2=>za .add .int q (.int .u32 1) λv3=>j5 (.str [48,48,48,49,48,50,48,51,48,52,48,53,48,54,48,55,48,56,48,57,49,48,49,49,49,50,49,51,49,52,49,53,49,54,49,55,49,56,49,57,50,48,50,49,50,50,50,51,50,52,50,53,50,54,50,55,50,56,50,57,51,48,51,49,51,50,51,51,51,52,51,53,51,54,51,55,51,56,51,57,52,48,52,49,52,50,52,51,52,52,52,53,52,54,52,55,52,56,52,57,53,48,53,49,53,50,53,51,53,52,53,53,53,54,53,55,53,56,53,57,54,48,54,49,54,50,54,51,54,52,54,53,54,54,54,55,54,56,54,57,55,48,55,49,55,50,55,51,55,52,55,53,55,54,55,55,55,56,55,57,56,48,56,49,56,50,56,51,56,52,56,53,56,54,56,55,56,56,56,57,57,48,57,49,57,50,57,51,57,52,57,53,57,54,57,55,57,56,57,57]) v3 λv4=>j5 (.str [48,48,48,49,48,50,48,51,48,52,48,53,48,54,48,55,48,56,48,57,49,48,49,49,49,50,49,51,49,52,49,53,49,54,49,55,49,56,49,57,50,48,50,49,50,50,50,51,50,52,50,53,50,54,50,55,50,56,50,57,51,48,51,49,51,50,51,51,51,52,51,53,51,54,51,55,51,56,51,57,52,48,52,49,52,50,52,51,52,52,52,53,52,54,52,55,52,56,52,57,53,48,53,49,53,50,53,51,53,52,53,53,53,54,53,55,53,56,53,57,54,48,54,49,54,50,54,51,54,52,54,53,54,54,54,55,54,56,54,57,55,48,55,49,55,50,55,51,55,52,55,53,55,54,55,55,55,56,55,57,56,48,56,49,56,50,56,51,56,52,56,53,56,54,56,55,56,56,56,57,57,48,57,49,57,50,57,51,57,52,57,53,57,54,57,55,57,56,57,57]) q λv5=>zJ 1 a v1 λv6=>zV 1 v6 v4 h nx λv7 h8 n9=>(j5 (.str [48,48,48,49,48,50,48,51,48,52,48,53,48,54,48,55,48,56,48,57,49,48,49,49,49,50,49,51,49,52,49,53,49,54,49,55,49,56,49,57,50,48,50,49,50,50,50,51,50,52,50,53,50,54,50,55,50,56,50,57,51,48,51,49,51,50,51,51,51,52,51,53,51,54,51,55,51,56,51,57,52,48,52,49,52,50,52,51,52,52,52,53,52,54,52,55,52,56,52,57,53,48,53,49,53,50,53,51,53,52,53,53,53,54,53,55,53,56,53,57,54,48,54,49,54,50,54,51,54,52,54,53,54,54,54,55,54,56,54,57,55,48,55,49,55,50,55,51,55,52,55,53,55,54,55,55,55,56,55,57,56,48,56,49,56,50,56,51,56,52,56,53,56,54,56,55,56,56,56,57,57,48,57,49,57,50,57,51,57,52,57,53,57,54,57,55,57,56,57,57]) q λvC=>zQ vC v5 (zQ q q ((za .sub .int c (I 8) λvD=>zQ vD v2 (zQ c c (zQ a a (zJ 1 a v2 λvF=>zV 1 vF v5 h8 n9 λvE hA nB=>K (zf.fr a b c e f i o p q s d g j l u y w v z) hA nB))))))):=by kernel_rfl
theorem zf.rP:IR.run zf.t13 C N O K (zf.fr a b c e f i o p q s d g j l u y w v z) h nx =
 za .sub .int c (I 8) λv1=>K (zf.fr a b v1 e f i o p q s d g j l u y w v z) h nx:=by kernel_rfl
theorem zf.znj (Inv:Nat->AV->AV->T Blk->Pa->Prop) {m:Nat} (hm:m<N) (hi:Inv m b c h nx)
  (step:∀ (m:Nat) (z1 z2 z3 z4 z5 z6 z7 z8 z9 zT:AV) (h:T Blk) (nx:Pa) (R:Ks Prop),Inv m z1 z2 h nx->(∀ (m':Nat) (w1 w2 w3 w4 w5 w6 w7 w8 w9 wN:AV) (h':T Blk) (nx':Pa),m'<m->Inv m' w1 w2 h' nx'->R (zf.fr a w1 w2 w3 w4 w5 w6 w7 w8 w9 d g j l u wN w v z) h' nx'=.ok True)->IR.run zf.t24 C N O R (zf.fr a z1 z2 z3 z4 z5 z6 z7 z8 z9 d g j l u zT w v z) h nx=.ok True) :
  IR.run zf.t25 C N O K (zf.fr a b c e f i o p q s d g j l u y w v z) h nx=.ok True:=by
 rw [zf.t25];refine yA (λm tm h nx=>∃ z1 z2 z3 z4 z5 z6 z7 z8 z9 zT,tm=(zf.fr a z1 z2 z3 z4 z5 z6 z7 z8 z9 d g j l u zT w v z)/\Inv m z1 z2 h nx) ?_ hm ⟨_,_,_,_,_,_,_,_,_,_,rfl,hi⟩;rintro m _ h nx R ⟨_,_,_,_,_,_,_,_,_,_,rfl,q⟩ p;exact step m _ _ _ _ _ _ _ _ _ _ h nx R q λ_ _ _ _ _ _ _ _ _ _ _ _ _ x y=>p _ _ _ _ x ⟨_,_,_,_,_,_,_,_,_,_,rfl,y⟩
theorem zf.zjy:IR.run zf.t27 C N O K (zf.fr a b c e f i o p q s d g j l u y w v z) h nx =
 kT .u32 b λv1=>K (zf.fr a b c e f i o p q s v1 g j l u y w v z) h nx:=by kernel_rfl
theorem zf.om:IR.run zf.t28 C N O K (zf.fr a b c e f i o p q s d g j l u y w v z) h nx =
 za .geq .int c (I 4) λv1=>K (zf.fr a b c e f i o p q s d g j l u y v1 v z) h nx:=by kernel_rfl
theorem zf.znk:IR.run zf.t29 C N O K (zf.fr a b c e f i o p q s d g j l u y w v z) h nx =
 za .rem .int d (.int .u32 10000) λv1=>K (zf.fr a b c e f i o p q s d v1 j l u y w v z) h nx:=by kernel_rfl
theorem zf.zj1:IR.run zf.t30 C N O K (zf.fr a b c e f i o p q s d g j l u y w v z) h nx =
 za .quo .int d (.int .u32 10000) λv1=>K (zf.fr a b c e f i o p q s v1 g j l u y w v z) h nx:=by kernel_rfl
theorem zf.znl:IR.run zf.t31 C N O K (zf.fr a b c e f i o p q s d g j l u y w v z) h nx =
 za .quo .int g (.int .u32 100) λv1=>za .mul .int v1 (.int .u32 2) λv2=>za .rem .int g (.int .u32 100) λv3=>za .mul .int v3 (.int .u32 2) λv4=>K (zf.fr a b c e f i o p q s d g v2 v4 u y w v z) h nx:=by kernel_rfl
theorem zf.zz6:IR.run zf.t32 C N O K (zf.fr a b c e f i o p q s d g j l u y w v z) h nx =
 za .sub .int c (I 1) λv1=>za .sub .int c (I 2) λv2=>za .add .int l (.int .u32 1) λv3=>j5 (.str [48,48,48,49,48,50,48,51,48,52,48,53,48,54,48,55,48,56,48,57,49,48,49,49,49,50,49,51,49,52,49,53,49,54,49,55,49,56,49,57,50,48,50,49,50,50,50,51,50,52,50,53,50,54,50,55,50,56,50,57,51,48,51,49,51,50,51,51,51,52,51,53,51,54,51,55,51,56,51,57,52,48,52,49,52,50,52,51,52,52,52,53,52,54,52,55,52,56,52,57,53,48,53,49,53,50,53,51,53,52,53,53,53,54,53,55,53,56,53,57,54,48,54,49,54,50,54,51,54,52,54,53,54,54,54,55,54,56,54,57,55,48,55,49,55,50,55,51,55,52,55,53,55,54,55,55,55,56,55,57,56,48,56,49,56,50,56,51,56,52,56,53,56,54,56,55,56,56,56,57,57,48,57,49,57,50,57,51,57,52,57,53,57,54,57,55,57,56,57,57]) v3 λv4=>j5 (.str [48,48,48,49,48,50,48,51,48,52,48,53,48,54,48,55,48,56,48,57,49,48,49,49,49,50,49,51,49,52,49,53,49,54,49,55,49,56,49,57,50,48,50,49,50,50,50,51,50,52,50,53,50,54,50,55,50,56,50,57,51,48,51,49,51,50,51,51,51,52,51,53,51,54,51,55,51,56,51,57,52,48,52,49,52,50,52,51,52,52,52,53,52,54,52,55,52,56,52,57,53,48,53,49,53,50,53,51,53,52,53,53,53,54,53,55,53,56,53,57,54,48,54,49,54,50,54,51,54,52,54,53,54,54,54,55,54,56,54,57,55,48,55,49,55,50,55,51,55,52,55,53,55,54,55,55,55,56,55,57,56,48,56,49,56,50,56,51,56,52,56,53,56,54,56,55,56,56,56,57,57,48,57,49,57,50,57,51,57,52,57,53,57,54,57,55,57,56,57,57]) l λv5=>zJ 1 a v1 λv6=>zV 1 v6 v4 h nx λv7 h8 n9=>(j5 (.str [48,48,48,49,48,50,48,51,48,52,48,53,48,54,48,55,48,56,48,57,49,48,49,49,49,50,49,51,49,52,49,53,49,54,49,55,49,56,49,57,50,48,50,49,50,50,50,51,50,52,50,53,50,54,50,55,50,56,50,57,51,48,51,49,51,50,51,51,51,52,51,53,51,54,51,55,51,56,51,57,52,48,52,49,52,50,52,51,52,52,52,53,52,54,52,55,52,56,52,57,53,48,53,49,53,50,53,51,53,52,53,53,53,54,53,55,53,56,53,57,54,48,54,49,54,50,54,51,54,52,54,53,54,54,54,55,54,56,54,57,55,48,55,49,55,50,55,51,55,52,55,53,55,54,55,55,55,56,55,57,56,48,56,49,56,50,56,51,56,52,56,53,56,54,56,55,56,56,56,57,57,48,57,49,57,50,57,51,57,52,57,53,57,54,57,55,57,56,57,57]) l λvC=>zQ vC v5 (zQ l l ((za .sub .int c (I 2) λvD=>zQ vD v2 (zQ c c (zQ a a (zJ 1 a v2 λvF=>zV 1 vF v5 h8 n9 λvE hA nB=>K (zf.fr a b c e f i o p q s d g j l u y w v z) hA nB))))))):=by kernel_rfl
theorem zf.zj0:IR.run zf.t33 C N O K (zf.fr a b c e f i o p q s d g j l u y w v z) h nx =
 za .sub .int c (I 3) λv1=>za .sub .int c (I 4) λv2=>za .add .int j (.int .u32 1) λv3=>j5 (.str [48,48,48,49,48,50,48,51,48,52,48,53,48,54,48,55,48,56,48,57,49,48,49,49,49,50,49,51,49,52,49,53,49,54,49,55,49,56,49,57,50,48,50,49,50,50,50,51,50,52,50,53,50,54,50,55,50,56,50,57,51,48,51,49,51,50,51,51,51,52,51,53,51,54,51,55,51,56,51,57,52,48,52,49,52,50,52,51,52,52,52,53,52,54,52,55,52,56,52,57,53,48,53,49,53,50,53,51,53,52,53,53,53,54,53,55,53,56,53,57,54,48,54,49,54,50,54,51,54,52,54,53,54,54,54,55,54,56,54,57,55,48,55,49,55,50,55,51,55,52,55,53,55,54,55,55,55,56,55,57,56,48,56,49,56,50,56,51,56,52,56,53,56,54,56,55,56,56,56,57,57,48,57,49,57,50,57,51,57,52,57,53,57,54,57,55,57,56,57,57]) v3 λv4=>j5 (.str [48,48,48,49,48,50,48,51,48,52,48,53,48,54,48,55,48,56,48,57,49,48,49,49,49,50,49,51,49,52,49,53,49,54,49,55,49,56,49,57,50,48,50,49,50,50,50,51,50,52,50,53,50,54,50,55,50,56,50,57,51,48,51,49,51,50,51,51,51,52,51,53,51,54,51,55,51,56,51,57,52,48,52,49,52,50,52,51,52,52,52,53,52,54,52,55,52,56,52,57,53,48,53,49,53,50,53,51,53,52,53,53,53,54,53,55,53,56,53,57,54,48,54,49,54,50,54,51,54,52,54,53,54,54,54,55,54,56,54,57,55,48,55,49,55,50,55,51,55,52,55,53,55,54,55,55,55,56,55,57,56,48,56,49,56,50,56,51,56,52,56,53,56,54,56,55,56,56,56,57,57,48,57,49,57,50,57,51,57,52,57,53,57,54,57,55,57,56,57,57]) j λv5=>zJ 1 a v1 λv6=>zV 1 v6 v4 h nx λv7 h8 n9=>(j5 (.str [48,48,48,49,48,50,48,51,48,52,48,53,48,54,48,55,48,56,48,57,49,48,49,49,49,50,49,51,49,52,49,53,49,54,49,55,49,56,49,57,50,48,50,49,50,50,50,51,50,52,50,53,50,54,50,55,50,56,50,57,51,48,51,49,51,50,51,51,51,52,51,53,51,54,51,55,51,56,51,57,52,48,52,49,52,50,52,51,52,52,52,53,52,54,52,55,52,56,52,57,53,48,53,49,53,50,53,51,53,52,53,53,53,54,53,55,53,56,53,57,54,48,54,49,54,50,54,51,54,52,54,53,54,54,54,55,54,56,54,57,55,48,55,49,55,50,55,51,55,52,55,53,55,54,55,55,55,56,55,57,56,48,56,49,56,50,56,51,56,52,56,53,56,54,56,55,56,56,56,57,57,48,57,49,57,50,57,51,57,52,57,53,57,54,57,55,57,56,57,57]) j λvC=>zQ vC v5 (zQ j j ((za .sub .int c (I 4) λvD=>zQ vD v2 (zQ c c (zQ a a (zJ 1 a v2 λvF=>zV 1 vF v5 h8 n9 λvE hA nB=>K (zf.fr a b c e f i o p q s d g j l u y w v z) hA nB))))))):=by kernel_rfl
theorem zf.zfn:IR.run zf.t34 C N O K (zf.fr a b c e f i o p q s d g j l u y w v z) h nx =
 za .sub .int c (I 4) λv1=>K (zf.fr a b v1 e f i o p q s d g j l u y w v z) h nx:=by kernel_rfl
theorem zf.v16:Arg.ev (.t (.of 16)) ⟨(zf.fr a b c e f i o p q s d g j l u y w v z),[]⟩=w:=by kernel_rfl
theorem zf.zna:IR.run zf.t42 C N O K (zf.fr a b c e f i o p q s d g j l u y w v z) h nx =
 za .geq .int c (I 2) λv1=>K (zf.fr a b c e f i o p q s d g j l u y w v1 z) h nx:=by kernel_rfl
theorem zf.znb:IR.run zf.t43 C N O K (zf.fr a b c e f i o p q s d g j l u y w v z) h nx =
 za .rem .int d (.int .u32 100) λv1=>za .mul .int v1 (.int .u32 2) λv2=>K (zf.fr a b c e f i o p q s d g j l v2 y w v z) h nx:=by kernel_rfl
theorem zf.zni:IR.run zf.t44 C N O K (zf.fr a b c e f i o p q s d g j l u y w v z) h nx =
 za .quo .int d (.int .u32 100) λv1=>K (zf.fr a b c e f i o p q s v1 g j l u y w v z) h nx:=by kernel_rfl
theorem zf.zz7:IR.run zf.t45 C N O K (zf.fr a b c e f i o p q s d g j l u y w v z) h nx =
 za .sub .int c (I 1) λv1=>za .sub .int c (I 2) λv2=>za .add .int u (.int .u32 1) λv3=>j5 (.str [48,48,48,49,48,50,48,51,48,52,48,53,48,54,48,55,48,56,48,57,49,48,49,49,49,50,49,51,49,52,49,53,49,54,49,55,49,56,49,57,50,48,50,49,50,50,50,51,50,52,50,53,50,54,50,55,50,56,50,57,51,48,51,49,51,50,51,51,51,52,51,53,51,54,51,55,51,56,51,57,52,48,52,49,52,50,52,51,52,52,52,53,52,54,52,55,52,56,52,57,53,48,53,49,53,50,53,51,53,52,53,53,53,54,53,55,53,56,53,57,54,48,54,49,54,50,54,51,54,52,54,53,54,54,54,55,54,56,54,57,55,48,55,49,55,50,55,51,55,52,55,53,55,54,55,55,55,56,55,57,56,48,56,49,56,50,56,51,56,52,56,53,56,54,56,55,56,56,56,57,57,48,57,49,57,50,57,51,57,52,57,53,57,54,57,55,57,56,57,57]) v3 λv4=>j5 (.str [48,48,48,49,48,50,48,51,48,52,48,53,48,54,48,55,48,56,48,57,49,48,49,49,49,50,49,51,49,52,49,53,49,54,49,55,49,56,49,57,50,48,50,49,50,50,50,51,50,52,50,53,50,54,50,55,50,56,50,57,51,48,51,49,51,50,51,51,51,52,51,53,51,54,51,55,51,56,51,57,52,48,52,49,52,50,52,51,52,52,52,53,52,54,52,55,52,56,52,57,53,48,53,49,53,50,53,51,53,52,53,53,53,54,53,55,53,56,53,57,54,48,54,49,54,50,54,51,54,52,54,53,54,54,54,55,54,56,54,57,55,48,55,49,55,50,55,51,55,52,55,53,55,54,55,55,55,56,55,57,56,48,56,49,56,50,56,51,56,52,56,53,56,54,56,55,56,56,56,57,57,48,57,49,57,50,57,51,57,52,57,53,57,54,57,55,57,56,57,57]) u λv5=>zJ 1 a v1 λv6=>zV 1 v6 v4 h nx λv7 h8 n9=>(j5 (.str [48,48,48,49,48,50,48,51,48,52,48,53,48,54,48,55,48,56,48,57,49,48,49,49,49,50,49,51,49,52,49,53,49,54,49,55,49,56,49,57,50,48,50,49,50,50,50,51,50,52,50,53,50,54,50,55,50,56,50,57,51,48,51,49,51,50,51,51,51,52,51,53,51,54,51,55,51,56,51,57,52,48,52,49,52,50,52,51,52,52,52,53,52,54,52,55,52,56,52,57,53,48,53,49,53,50,53,51,53,52,53,53,53,54,53,55,53,56,53,57,54,48,54,49,54,50,54,51,54,52,54,53,54,54,54,55,54,56,54,57,55,48,55,49,55,50,55,51,55,52,55,53,55,54,55,55,55,56,55,57,56,48,56,49,56,50,56,51,56,52,56,53,56,54,56,55,56,56,56,57,57,48,57,49,57,50,57,51,57,52,57,53,57,54,57,55,57,56,57,57]) u λvC=>zQ vC v5 (zQ u u ((za .sub .int c (I 2) λvD=>zQ vD v2 (zQ c c (zQ a a (zJ 1 a v2 λvF=>zV 1 vF v5 h8 n9 λvE hA nB=>K (zf.fr a b c e f i o p q s d g j l u y w v z) hA nB))))))):=by kernel_rfl
theorem zf.znc:IR.run zf.t46 C N O K (zf.fr a b c e f i o p q s d g j l u y w v z) h nx =
 za .sub .int c (I 2) λv1=>K (zf.fr a b v1 e f i o p q s d g j l u y w v z) h nx:=by kernel_rfl
theorem zf.v17:Arg.ev (.t (.of 17)) ⟨(zf.fr a b c e f i o p q s d g j l u y w v z),[]⟩=v:=by kernel_rfl
theorem zf.zz8:IR.run zf.t52 C N O K (zf.fr a b c e f i o p q s d g j l u y w v z) h nx =
 za .gtr .int c (I 0) λv1=>K (zf.fr a b c e f i o p q s d g j l u y w v v1) h nx:=by kernel_rfl
theorem zf.zz9:IR.run zf.t53 C N O K (zf.fr a b c e f i o p q s d g j l u y w v z) h nx =
 za .add .int (.int .u32 48) d λv1=>kT .u8 v1 λv2=>zJ 1 a (I 0) λv3=>zV 1 v3 v2 h nx λv4 h5 n6=>K (zf.fr a b c e f i o p q s d g j l u y w v z) h5 n6:=by kernel_rfl
theorem zf.v18:Arg.ev (.t (.of 18)) ⟨(zf.fr a b c e f i o p q s d g j l u y w v z),[]⟩=z:=by kernel_rfl
theorem zf.go:zP tbl N C (.of 317) [a0,a1] h nx K0=IR.run zf.t60 C N (fnO zf.res K0) (zi zf.res K0) (zf.fr a0 a1 .u .u .u .u .u .u .u .u .u .u .u .u .u .u .u .u .u) h nx:=yE (F:=zf) (by kernel_rfl) (λ_=>by kernel_rfl) (by kernel_rfl)
theorem zf.ret:zi zf.res K0 (zf.fr a b c e f i o p q s d g j l u y w v z) h nx=K0 (.tup []) h nx:=by kernel_rfl
theorem yg.zu:IR.run yg.t0 C N O K (yg.fr a b c e f i o p q s d) h nx =
 K (yg.fr a b (.str []) e f i o p q s d) h nx:=by kernel_rfl
theorem yg.zo:IR.run yg.t1 C N O K (yg.fr a b c e f i o p q s d) h nx =
 za .eql .int b (I 10) λv1=>K (yg.fr a b c e f i o v1 q s d) h nx:=by kernel_rfl
theorem yg.yw:IR.run yg.t2 C N O K (yg.fr a b c e f i o p q s d) h nx =
 za .leq .int (I 0) a λv1=>sG v1 true (λk=>k a) λv2=>sG v1 true (λk=>za .lss .int v2 (I 100) k) λv3=>yQ v1 v3 (.bool false) λv4=>K (yg.fr a b c e f i o p v4 s d) h nx:=by kernel_rfl
theorem yg.vk:IR.run yg.t3 C N O K (yg.fr a b c e f i o p q s d) h nx =
 C.fn 315 (.of 315) [a] h nx λv1 h2 n3=>K (yg.fr a b v1 e f i o p q s d) h2 n3:=by kernel_rfl
theorem yg.v8:Arg.ev (.t (.of 8)) ⟨(yg.fr a b c e f i o p q s d),[]⟩=q:=by kernel_rfl
theorem yg.fF:IR.run yg.t7 C N O K (yg.fr a b c e f i o p q s d) h nx =
 yX [(.int .u8 0),(.int .u8 0),(.int .u8 0),(.int .u8 0),(.int .u8 0),(.int .u8 0),(.int .u8 0),(.int .u8 0),(.int .u8 0),(.int .u8 0),(.int .u8 0),(.int .u8 0),(.int .u8 0),(.int .u8 0),(.int .u8 0),(.int .u8 0),(.int .u8 0),(.int .u8 0),(.int .u8 0),(.int .u8 0),(.int .u8 0),(.int .u8 0),(.int .u8 0),(.int .u8 0)] h nx λv1 h2 n3=>K (yg.fr a b c v1 f i o p q s d) h2 n3:=by kernel_rfl
theorem yg.fU:IR.run yg.t8 C N O K (yg.fr a b c e f i o p q s d) h nx =
 kT .u64 a λv1=>K (yg.fr a b c e v1 i o p q s d) h nx:=by kernel_rfl
theorem yg.nu:IR.run yg.t9 C N O K (yg.fr a b c e f i o p q s d) h nx =
 za .lss .int a (I 0) λv1=>K (yg.fr a b c e f i o p q v1 d) h nx:=by kernel_rfl
theorem yg.ny:IR.run yg.t10 C N O K (yg.fr a b c e f i o p q s d) h nx =
 sNeg f λv1=>K (yg.fr a b c e v1 i o p q s d) h nx:=by kernel_rfl
theorem yg.v9:Arg.ev (.t (.of 9)) ⟨(yg.fr a b c e f i o p q s d),[]⟩=s:=by kernel_rfl
theorem yg.rP:IR.run yg.t13 C N O K (yg.fr a b c e f i o p q s d) h nx =
 C.fn 316 (.of 316) [f] h nx λv1 h2 n3=>K (yg.fr a b c e f v1 o p q s d) h2 n3:=by kernel_rfl
theorem yg.rG:IR.run yg.t14 C N O K (yg.fr a b c e f i o p q s d) h nx =
 za .add .int (I 1) i λv1=>dV 1 24 e (some (I 1)) (some v1) none λv2=>C.fn 317 (.of 317) [v2,f] h nx λv3 h4 n5=>K (yg.fr a b c e f i o p q s d) h4 n5:=by kernel_rfl
theorem yg.ol:IR.run yg.t15 C N O K (yg.fr a b c e f i o p q s d) h nx =
 za .lss .int a (I 0) λv1=>K (yg.fr a b c e f i o p q s v1) h nx:=by kernel_rfl
theorem yg.sw:IR.run yg.t16 C N O K (yg.fr a b c e f i o p q s d) h nx =
 zaf 1 24 e (I 0) λv1=>zV 1 v1 (.int .u8 45) h nx λv2 h3 n4=>K (yg.fr a b c e f i o p q s d) h3 n4:=by kernel_rfl
theorem yg.tL:IR.run yg.t17 C N O K (yg.fr a b c e f i o p q s d) h nx =
 za .add .int (I 1) i λv1=>dV 1 24 e none (some v1) none λv2=>sB2s v2 h λv3=>K (yg.fr a b v3 e f i o p q s d) h nx:=by kernel_rfl
theorem yg.v10:Arg.ev (.t (.of 10)) ⟨(yg.fr a b c e f i o p q s d),[]⟩=d:=by kernel_rfl
theorem yg.tO:IR.run yg.t22 C N O K (yg.fr a b c e f i o p q s d) h nx =
 za .add .int (I 1) i λv1=>dV 1 24 e (some (I 1)) (some v1) none λv2=>sB2s v2 h λv3=>K (yg.fr a b v3 e f i o p q s d) h nx:=by kernel_rfl
theorem yg.v7:Arg.ev (.t (.of 7)) ⟨(yg.fr a b c e f i o p q s d),[]⟩=p:=by kernel_rfl
theorem yg.go:zP tbl N C (.of 314) [a0,a1] h nx K0=IR.run yg.t38 C N (fnO yg.res K0) (zi yg.res K0) (yg.fr a0 a1 .u .u .u .u .u .u .u .u .u) h nx:=yE (F:=yg) (by kernel_rfl) (λ_=>by kernel_rfl) (by kernel_rfl)
theorem yg.ret:zi yg.res K0 (yg.fr a b c e f i o p q s d) h nx=K0 c h nx:=by kernel_rfl
theorem bf.zu:IR.run bf.t0 C N O K (bf.fr a b c) h nx =
 K (bf.fr a (.str []) c) h nx:=by kernel_rfl
theorem bf.zo:IR.run bf.t1 C N O K (bf.fr a b c) h nx =
 za .lss .int a (I 10) λv1=>K (bf.fr a b v1) h nx:=by kernel_rfl
theorem bf.yw:IR.run bf.t2 C N O K (bf.fr a b c) h nx =
 za .add .int a (I 1) λv1=>gI (.str [48,49,50,51,52,53,54,55,56,57,97,98,99,100,101,102,103,104,105,106,107,108,109,110,111,112,113,114,115,116,117,118,119,120,121,122]) (some a) (some v1) λv2=>K (bf.fr a v2 c) h nx:=by kernel_rfl
theorem bf.v2:Arg.ev (.t (.of 2)) ⟨(bf.fr a b c),[]⟩=c:=by kernel_rfl
theorem bf.uy:IR.run bf.t6 C N O K (bf.fr a b c) h nx =
 za .mul .int a (I 2) λv1=>za .mul .int a (I 2) λv2=>za .add .int v2 (I 2) λv3=>gI (.str [48,48,48,49,48,50,48,51,48,52,48,53,48,54,48,55,48,56,48,57,49,48,49,49,49,50,49,51,49,52,49,53,49,54,49,55,49,56,49,57,50,48,50,49,50,50,50,51,50,52,50,53,50,54,50,55,50,56,50,57,51,48,51,49,51,50,51,51,51,52,51,53,51,54,51,55,51,56,51,57,52,48,52,49,52,50,52,51,52,52,52,53,52,54,52,55,52,56,52,57,53,48,53,49,53,50,53,51,53,52,53,53,53,54,53,55,53,56,53,57,54,48,54,49,54,50,54,51,54,52,54,53,54,54,54,55,54,56,54,57,55,48,55,49,55,50,55,51,55,52,55,53,55,54,55,55,55,56,55,57,56,48,56,49,56,50,56,51,56,52,56,53,56,54,56,55,56,56,56,57,57,48,57,49,57,50,57,51,57,52,57,53,57,54,57,55,57,56,57,57]) (some v1) (some v3) λv4=>K (bf.fr a v4 c) h nx:=by kernel_rfl
theorem bf.go:zP tbl N C (.of 315) [a0] h nx K0=IR.run bf.t9 C N (fnO bf.res K0) (zi bf.res K0) (bf.fr a0 .u .u) h nx:=yE (F:=bf) (by kernel_rfl) (λ_=>by kernel_rfl) (by kernel_rfl)
theorem bf.ret:zi bf.res K0 (bf.fr a b c) h nx=K0 b h nx:=by kernel_rfl
theorem rq.zu:IR.run rq.t0 C N O K (rq.fr a b) h nx =
 K (rq.fr a (.str [])) h nx:=by kernel_rfl
theorem rq.zo:IR.run rq.t1 C N O K (rq.fr a b) h nx =
 C.fn 314 (.of 314) [a,(I 10)] h nx λv1 h2 n3=>K (rq.fr a v1) h2 n3:=by kernel_rfl
theorem rq.go:zP tbl N C (.of 287) [a0] h nx K0=IR.run rq.t3 C N (fnO rq.res K0) (zi rq.res K0) (rq.fr a0 .u) h nx:=yE (F:=rq) (by kernel_rfl) (λ_=>by kernel_rfl) (by kernel_rfl)
theorem rq.ret:zi rq.res K0 (rq.fr a b) h nx=K0 b h nx:=by kernel_rfl
theorem ru.zu:IR.run ru.t0 C N O K (ru.fr a b) h nx =
 K (ru.fr a (.str [])) h nx:=by kernel_rfl
theorem ru.zo:IR.run ru.t1 C N O K (ru.fr a b) h nx =
 C.fn 287 (.of 287) [a] h nx λv1 h2 n3=>K (ru.fr a v1) h2 n3:=by kernel_rfl
theorem ru.go:zP tbl N C (.of 248) [a0] h nx K0=IR.run ru.t3 C N (fnO ru.res K0) (zi ru.res K0) (ru.fr a0 .u) h nx:=yE (F:=ru) (by kernel_rfl) (λ_=>by kernel_rfl) (by kernel_rfl)
theorem ru.ret:zi ru.res K0 (ru.fr a b) h nx=K0 b h nx:=by kernel_rfl
theorem fI.zu:IR.run fI.t0 C N O K (fI.fr a b c e f i o p q s d g j l u y w v) h nx =
 xq a h nx λv1 h2 n3=>K (fI.fr a v1 (.str []) e f i o p q s d g j l u y w v) h2 n3:=by kernel_rfl
theorem fI.zo:IR.run fI.t1 C N O K (fI.fr a b c e f i o p q s d g j l u y w v) h nx =
 zM 1 b λv1=>zG v1 h λv2=>za .eql (.nil .sl) v2 .zb λv3=>K (fI.fr a b c e f i o p q s d g v3 l u y w v) h nx:=by kernel_rfl
theorem fI.yw:IR.run fI.t2 C N O K (fI.fr a b c e f i o p q s d g j l u y w v) h nx =
 zM 0 b λv1=>zG v1 h λv2=>C.fn 248 (.of 248) [v2] h nx λv3 h4 n5=>K (fI.fr a b v3 e f i o p q s d g j l u y w v) h4 n5:=by kernel_rfl
theorem fI.v12:Arg.ev (.t (.of 12)) ⟨(fI.fr a b c e f i o p q s d g j l u y w v),[]⟩=j:=by kernel_rfl
theorem fI.go:zP tbl N C (.of 188) [a0] h nx K0=IR.run fI.t60 C N (fnO fI.res K0) (zi fI.res K0) (fI.fr a0 .u .u .u .u .u .u .u .u .u .u .u .u .u .u .u .u .u) h nx:=yE (F:=fI) (by kernel_rfl) (λ_=>by kernel_rfl) (by kernel_rfl)
theorem fI.ret:zi fI.res K0 (fI.fr a b c e f i o p q s d g j l u y w v) h nx=K0 c h nx:=by kernel_rfl
theorem F97.zu:IR.run F97.t0 C N O K (F97.fr a b c e) h nx =
 xq a h nx λv1 h2 n3=>K (F97.fr a v1 (.str []) e) h2 n3:=by kernel_rfl
theorem F97.zo:IR.run F97.t1 C N O K (F97.fr a b c e) h nx =
 zK 4 b h λv1=>C.fn 122 (.of 122) [v1] h nx λv2 h3 n4=>K (F97.fr a b c v2) h3 n4:=by kernel_rfl
theorem F97.yw:IR.run F97.t2 C N O K (F97.fr a b c e) h nx =
 zM 0 b λv1=>zK 2 v1 h λv2=>C.fn 188 (.of 188) [v2] h nx λv3 h4 n5=>K (F97.fr a b v3 e) h4 n5:=by kernel_rfl
theorem F97.v3:Arg.ev (.t (.of 3)) ⟨(F97.fr a b c e),[]⟩=e:=by kernel_rfl
theorem F97.uy:IR.run F97.t6 C N O K (F97.fr a b c e) h nx =
 zM 0 b λv1=>zK 2 v1 h λv2=>zM 2 b λv3=>zK 2 v3 h λv4=>C.fn 188 (.of 188) [v2] h nx λv5 h6 n7=>(zK 2 v3 h6 λvC=>zQ vC v4 ((zM 2 b λvD=>zQ vD v3 (za .add .str v5 (.str [47]) λv8=>C.fn 188 (.of 188) [v4] h6 n7 λv9 hC nD=>(za .add .str v5 (.str [47]) λvY=>zQ vY v8 (za .add .str v8 v9 λvO=>K (F97.fr a b vO e) hC nD)))))):=by kernel_rfl
theorem F97.go:zP tbl N C (.of 97) [a0] h nx K0=IR.run F97.t9 C N (fnO F97.res K0) (zi F97.res K0) (F97.fr a0 .u .u .u) h nx:=yE (F:=F97) (by kernel_rfl) (λ_=>by kernel_rfl) (by kernel_rfl)
theorem F97.ret:zi F97.res K0 (F97.fr a b c e) h nx=K0 c h nx:=by kernel_rfl
theorem jm.zu:IR.run jm.t0 C N O K (jm.fr a b c e f i o p q) h nx =
 K (jm.fr a .zb c e f i o p q) h nx:=by kernel_rfl
theorem jm.zo:IR.run jm.t1 C N O K (jm.fr a b c e f i o p q) h nx =
 sLen a λv1=>q8 1 16 [(.str [])] v1 v1 h nx λv2 h3 n4=>K (jm.fr a b v2 e f i o p q) h3 n4:=by kernel_rfl
theorem jm.yw:IR.run jm.t2 C N O K (jm.fr a b c e f i o p q) h nx =
 sLen a λv1=>K (jm.fr a b c e f a v1 (I 0) q) h nx:=by kernel_rfl
theorem jm.vk:IR.run jm.t3 C N O K (jm.fr a b c e f i o p q) h nx =
 za .lss .int p o λv1=>K (jm.fr a b c e f i o p v1) h nx:=by kernel_rfl
theorem jm.v8:Arg.ev (.t (.of 8)) ⟨(jm.fr a b c e f i o p q),[]⟩=q:=by kernel_rfl
theorem jm.fZ:IR.run jm.t5 C N O K (jm.fr a b c e f i o p q) h nx =
 zJ 4 i p λv1=>zK 4 v1 h λv2=>yX [(I 0),.zb,(I 0),.zb] h nx λv3 h4 n5=>zV 4 v3 v2 h4 n5 λv6 h7 n8=>K (jm.fr a b c p v3 i o p q) h7 n8:=by kernel_rfl
theorem jm.uy:IR.run jm.t6 C N O K (jm.fr a b c e f i o p q) h nx =
 zK 4 f h λv1=>C.fn 97 (.of 97) [v1] h nx λv2 h3 n4=>zJ 1 c e λv5=>zV 1 v5 v2 h3 n4 λv6 h7 n8=>K (jm.fr a b c e f i o p q) h7 n8:=by kernel_rfl
theorem jm.nu:IR.run jm.t9 C N O K (jm.fr a b c e f i o p q) h nx =
 za .add .int p (I 1) λv1=>K (jm.fr a b c e f i o v1 q) h nx:=by kernel_rfl
theorem jm.zfx (Inv:Nat->AV->T Blk->Pa->Prop) {m:Nat} (hm:m<N) (hi:Inv m p h nx)
  (step:∀ (m:Nat) (z3 z4 z7 z8:AV) (h:T Blk) (nx:Pa) (R:Ks Prop),Inv m z7 h nx->(∀ (m':Nat) (w3 w4 w7 w8:AV) (h':T Blk) (nx':Pa),m'<m->Inv m' w7 h' nx'->R (jm.fr a b c w3 w4 i o w7 w8) h' nx'=.ok True)->IR.run jm.t12 C N O R (jm.fr a b c z3 z4 i o z7 z8) h nx=.ok True) :
  IR.run jm.t13 C N O K (jm.fr a b c e f i o p q) h nx=.ok True:=by
 rw [jm.t13];refine yA (λm tm h nx=>∃ z3 z4 z7 z8,tm=(jm.fr a b c z3 z4 i o z7 z8)/\Inv m z7 h nx) ?_ hm ⟨_,_,_,_,rfl,hi⟩;rintro m _ h nx R ⟨_,_,_,_,rfl,q⟩ p;exact step m _ _ _ _ h nx R q λ_ _ _ _ _ _ _ x y=>p _ _ _ _ x ⟨_,_,_,_,rfl,y⟩
theorem jm.sw:IR.run jm.t16 C N O K (jm.fr a b c e f i o p q) h nx =
 K (jm.fr a c c e f i o p q) h nx:=by kernel_rfl
theorem jm.go:zP tbl N C (.of 181) [a0] h nx K0=IR.run jm.t20 C N (fnO jm.res K0) (zi jm.res K0) (jm.fr a0 .u .u .u .u .u .u .u .u) h nx:=yE (F:=jm) (by kernel_rfl) (λ_=>by kernel_rfl) (by kernel_rfl)
theorem jm.ret:zi jm.res K0 (jm.fr a b c e f i o p q) h nx=K0 b h nx:=by kernel_rfl
theorem ug.zu:IR.run ug.t0 C N O K (ug.fr a b c e f) h nx =
 xq a h nx λv1 h2 n3=>K (ug.fr a v1 (I 0) e f) h2 n3:=by kernel_rfl
theorem ug.zo:IR.run ug.t1 C N O K (ug.fr a b c e f) h nx =
 zK 2 b h λv1=>C.fn 249 (.of 249) [v1] h nx λv2 h3 n4=>fO 0 v2 λv5=>fO 1 v2 λv6=>K (ug.fr a b c v6 f) h3 n4:=by kernel_rfl
theorem ug.yw:IR.run ug.t2 C N O K (ug.fr a b c e f) h nx =
 sLen e λv1=>za .eql .int v1 (I 0) λv2=>K (ug.fr a b c e v2) h nx:=by kernel_rfl
theorem ug.vk:IR.run ug.t3 C N O K (ug.fr a b c e f) h nx =
 K (ug.fr a b (I 0) e f) h nx:=by kernel_rfl
theorem ug.v4:Arg.ev (.t (.of 4)) ⟨(ug.fr a b c e f),[]⟩=f:=by kernel_rfl
theorem ug.fF:IR.run ug.t7 C N O K tm h nx=zZ ug.r4_0 C ⟨tm,[]⟩ h nx (λtm h nx=>K tm.v h nx):=jN ..
theorem ug.zd4:zZ (ug.zfv r) C ⟨(ug.fr a b c e f),[]⟩ h nx Kt =
 sLen e λv1=>za .sub .int v1 (I 1) λv2=>za .mul .int (I 64) v2 λv3=>sLen e λv4=>za .sub .int v4 (I 1) λv5=>zZ r C ⟨(ug.fr a b c e f),v5::v4::e::e::v3::v2::v1::e::[]⟩ h nx Kt:=by kernel_rfl
theorem ug.zd5:zZ (ug.zfw r) C ⟨(ug.fr a b c e f),s0::s1::s2::s3::sT⟩ h nx Kt =
 zJ 1 s3 s0 λv1=>zG v1 h λv2=>C.fn 312 (.of 312) [v2] h nx λv3 h4 n5=>zZ r C ⟨(ug.fr a b c e f),v3::v2::v1::s0::s1::s2::s3::sT⟩ h4 n5 Kt:=by kernel_rfl
theorem ug.zw3:zZ (ug.zu5 []) C ⟨(ug.fr a b c e f),s0::s1::s2::s3::s4::s5::s6::s7::sT⟩ h nx Kt =
 za .add .int s7 s0 λv1=>Kt ⟨(ug.fr a b v1 e f),v1::s0::s1::s2::s3::s4::s5::s6::s7::sT⟩ h nx:=by kernel_rfl
theorem ug.go:zP tbl N C (.of 285) [a0] h nx K0=IR.run ug.t11 C N (fnO ug.res K0) (zi ug.res K0) (ug.fr a0 .u .u .u .u) h nx:=yE (F:=ug) (by kernel_rfl) (λ_=>by kernel_rfl) (by kernel_rfl)
theorem ug.ret:zi ug.res K0 (ug.fr a b c e f) h nx=K0 c h nx:=by kernel_rfl
theorem kg.zu:IR.run kg.t0 C N O K (kg.fr a b c) h nx =
 xq a h nx λv1 h2 n3=>K (kg.fr a v1 (.bool false)) h2 n3:=by kernel_rfl
theorem kg.zo:IR.run kg.t1 C N O K tm h nx=zZ kg.tJ C ⟨tm,[]⟩ h nx (λtm h nx=>K tm.v h nx):=jN ..
theorem kg.tK:zZ (kg.sK r) C ⟨(kg.fr a b c),[]⟩ h nx Kt =
 zK 2 b h λv1=>C.fn 285 (.of 285) [v1] h nx λv2 h3 n4=>zZ r C ⟨(kg.fr a b c),v2::v1::[]⟩ h3 n4 Kt:=by kernel_rfl
theorem kg.sQ:zZ (kg.sM r) C ⟨(kg.fr a b c),s0::sT⟩ h nx Kt =
 za .gtr .int s0 (I 1800) λv1=>sG v1 true (λk=>zK 2 b h k) λv2=>sGW v1 true (λk=>C.fn 188 (.of 188) [v2] h nx k) h nx λv3 h4 n5=>zZ r C ⟨(kg.fr a b c),v3::v2::v1::v1::s0::sT⟩ h4 n5 Kt:=by kernel_rfl
theorem kg.zd6:zZ (kg.zfz r) C ⟨(kg.fr a b c),s0::s1::s2::sT⟩ h nx Kt =
 sGW s2 true (λk=>C.fn 286 (.of 286) [s0,(.str [45])] h nx k) h nx λv1 h2 n3=>zZ r C ⟨(kg.fr a b c),v1::s0::s1::s2::sT⟩ h2 n3 Kt:=by kernel_rfl
theorem kg.zah:zZ (kg.zf0 []) C ⟨(kg.fr a b c),s0::s1::s2::s3::sT⟩ h nx Kt =
 sG s3 true (λk=>qC s0 k) λv1=>sG s3 true (λk=>za .gtr .int v1 (I 600) k) λv2=>yQ s3 v2 (.bool false) λv3=>Kt ⟨(kg.fr a b v3),v3::v2::v1::s0::s1::s2::s3::sT⟩ h nx:=by kernel_rfl
theorem kg.go:zP tbl N C (.of 246) [a0] h nx K0=IR.run kg.t3 C N (fnO kg.res K0) (zi kg.res K0) (kg.fr a0 .u .u) h nx:=yE (F:=kg) (by kernel_rfl) (λ_=>by kernel_rfl) (by kernel_rfl)
theorem kg.ret:zi kg.res K0 (kg.fr a b c) h nx=K0 c h nx:=by kernel_rfl
theorem rA.zu:IR.run rA.t0 C N O K (rA.fr a b c) h nx =
 xq a h nx λv1 h2 n3=>K (rA.fr a v1 (.bool false)) h2 n3:=by kernel_rfl
theorem rA.zo:IR.run rA.t1 C N O K (rA.fr a b c) h nx =
 zM 0 b λv1=>zK 2 v1 h λv2=>C.fn 246 (.of 246) [v2] h nx λv3 h4 n5=>sG v3 false (λk=>zM 2 b k) λv6=>sG v3 false (λk=>zK 2 v6 h4 k) λv7=>sGW v3 false (λk=>C.fn 246 (.of 246) [v7] h4 n5 k) h4 n5 λv8 h9 nA=>yQ v3 (.bool true) v8 λvE=>K (rA.fr a b vE) h9 nA:=by kernel_rfl
theorem rA.go:zP tbl N C (.of 180) [a0] h nx K0=IR.run rA.t3 C N (fnO rA.res K0) (zi rA.res K0) (rA.fr a0 .u .u) h nx:=yE (F:=rA) (by kernel_rfl) (λ_=>by kernel_rfl) (by kernel_rfl)
theorem rA.ret:zi rA.res K0 (rA.fr a b c) h nx=K0 c h nx:=by kernel_rfl
theorem gy.zu:IR.run gy.t0 C N O K (gy.fr a b c e f i o p) h nx =
 K (gy.fr a b (I 0) e f i o p) h nx:=by kernel_rfl
theorem gy.zo:IR.run gy.t1 C N O K (gy.fr a b c e f i o p) h nx =
 sLen a λv1=>K (gy.fr a b c e v1 (I 0) o p) h nx:=by kernel_rfl
theorem gy.yw:IR.run gy.t2 C N O K (gy.fr a b c e f i o p) h nx =
 za .lss .int i f λv1=>K (gy.fr a b c e f i v1 p) h nx:=by kernel_rfl
theorem gy.v6:Arg.ev (.t (.of 6)) ⟨(gy.fr a b c e f i o p),[]⟩=o:=by kernel_rfl
theorem gy.ng:IR.run gy.t4 C N O K (gy.fr a b c e f i o p) h nx =
 K (gy.fr a b c i f i o p) h nx:=by kernel_rfl
theorem gy.fZ:IR.run gy.t5 C N O K (gy.fr a b c e f i o p) h nx =
 zJ 4 a e λv1=>zK 4 v1 h λv2=>zae C b [v2] h nx λv3 h4 n5=>K (gy.fr a b c e f i o v3) h4 n5:=by kernel_rfl
theorem gy.v7:Arg.ev (.t (.of 7)) ⟨(gy.fr a b c e f i o p),[]⟩=p:=by kernel_rfl
theorem gy.rH:IR.run gy.t12 C N O K (gy.fr a b c e f i o p) h nx =
 za .add .int i (I 1) λv1=>K (gy.fr a b c e f v1 o p) h nx:=by kernel_rfl
theorem gy.zab (Inv:Nat->AV->T Blk->Pa->Prop) {m:Nat} (hm:m<N) (hi:Inv m i h nx)
  (step:∀ (m:Nat) (z2 z3 z5 z6 z7:AV) (h:T Blk) (nx:Pa) (R:Ks Prop),Inv m z5 h nx->(∀ (m':Nat) (w2 w3 w5 w6 w7:AV) (h':T Blk) (nx':Pa),m'<m->Inv m' w5 h' nx'->R (gy.fr a b w2 w3 f w5 w6 w7) h' nx'=.ok True)->IR.run gy.t15 C N O R (gy.fr a b z2 z3 f z5 z6 z7) h nx=.ok True) :
  IR.run gy.t16 C N O K (gy.fr a b c e f i o p) h nx=.ok True:=by
 rw [gy.t16];refine yA (λm tm h nx=>∃ z2 z3 z5 z6 z7,tm=(gy.fr a b z2 z3 f z5 z6 z7)/\Inv m z5 h nx) ?_ hm ⟨_,_,_,_,_,rfl,hi⟩;rintro m _ h nx R ⟨_,_,_,_,_,rfl,q⟩ p;exact step m _ _ _ _ _ h nx R q λ_ _ _ _ _ _ _ _ x y=>p _ _ _ _ x ⟨_,_,_,_,_,rfl,y⟩
theorem gy.sJ:IR.run gy.t19 C N O K (gy.fr a b c e f i o p) h nx =
 K (gy.fr a b (I (-1)) e f i o p) h nx:=by kernel_rfl
theorem gy.go:zP tbl N C (.of 108) [a0,a1] h nx K0=IR.run gy.t22 C N (fnO gy.res K0) (zi gy.res K0) (gy.fr a0 a1 .u .u .u .u .u .u) h nx:=yE (F:=gy) (by kernel_rfl) (λ_=>by kernel_rfl) (by kernel_rfl)
theorem gy.ret:zi gy.res K0 (gy.fr a b c e f i o p) h nx=K0 c h nx:=by kernel_rfl
theorem rC.zu:IR.run rC.t0 C N O K (rC.fr a b c) h nx =
 K (rC.fr a b (.bool false)) h nx:=by kernel_rfl
theorem rC.zo:IR.run rC.t1 C N O K (rC.fr a b c) h nx =
 C.fn 108 (.of 108) [a,b] h nx λv1 h2 n3=>za .geq .int v1 (I 0) λv4=>K (rC.fr a b v4) h2 n3:=by kernel_rfl
theorem rC.go:zP tbl N C (.of 179) [a0,a1] h nx K0=IR.run rC.t3 C N (fnO rC.res K0) (zi rC.res K0) (rC.fr a0 a1 .u) h nx:=yE (F:=rC) (by kernel_rfl) (λ_=>by kernel_rfl) (by kernel_rfl)
theorem rC.ret:zi rC.res K0 (rC.fr a b c) h nx=K0 c h nx:=by kernel_rfl
theorem F92.zu:IR.run F92.t0 C N O K (F92.fr a b c e f i o p q s) h nx =
 K (F92.fr a .zb (I 0) e f i o p q s) h nx:=by kernel_rfl
theorem F92.zo:IR.run F92.t1 C N O K (F92.fr a b c e f i o p q s) h nx =
 K (F92.fr a b c .zb f i o p q s) h nx:=by kernel_rfl
theorem F92.yw:IR.run F92.t2 C N O K (F92.fr a b c e f i o p q s) h nx =
 sLen a λv1=>K (F92.fr a b c e f a v1 (I 0) q s) h nx:=by kernel_rfl
theorem F92.vk:IR.run F92.t3 C N O K (F92.fr a b c e f i o p q s) h nx =
 za .lss .int p o λv1=>K (F92.fr a b c e f i o p v1 s) h nx:=by kernel_rfl
theorem F92.v8:Arg.ev (.t (.of 8)) ⟨(F92.fr a b c e f i o p q s),[]⟩=q:=by kernel_rfl
theorem F92.fZ:IR.run F92.t5 C N O K (F92.fr a b c e f i o p q s) h nx =
 zJ 1 i p λv1=>zG v1 h λv2=>K (F92.fr a b c e v2 i o p q s) h nx:=by kernel_rfl
theorem F92.uy:IR.run F92.t6 C N O K (F92.fr a b c e f i o p q s) h nx =
 C.fn 179 (.of 179) [f,(.fn 180 (.of 180) [])] h nx λv1 h2 n3=>K (F92.fr a b c e f i o p q v1) h2 n3:=by kernel_rfl
theorem F92.v9:Arg.ev (.t (.of 9)) ⟨(F92.fr a b c e f i o p q s),[]⟩=s:=by kernel_rfl
theorem F92.xu:IR.run F92.t11 C N O K (F92.fr a b c e f i o p q s) h nx =
 C.fn 181 (.of 181) [f] h nx λv1 h2 n3=>yS 1 1 [.zb] [(0,1,v1)] h2 n3 λv4 h5 n6=>rY 1 24 e v4 h5 n6 λv7 h8 n9=>K (F92.fr a b c v7 f i o p q s) h8 n9:=by kernel_rfl
theorem F92.ol:IR.run F92.t15 C N O K (F92.fr a b c e f i o p q s) h nx =
 za .add .int p (I 1) λv1=>K (F92.fr a b c e f i o v1 q s) h nx:=by kernel_rfl
theorem F92.zfu (Inv:Nat->AV->AV->T Blk->Pa->Prop) {m:Nat} (hm:m<N) (hi:Inv m e p h nx)
  (step:∀ (m:Nat) (z1 z2 z3 z4 z7 z8 z9:AV) (h:T Blk) (nx:Pa) (R:Ks Prop),Inv m z3 z7 h nx->(∀ (m':Nat) (w1 w2 w3 w4 w7 w8 w9:AV) (h':T Blk) (nx':Pa),m'<m->Inv m' w3 w7 h' nx'->R (F92.fr a w1 w2 w3 w4 i o w7 w8 w9) h' nx'=.ok True)->IR.run F92.t18 C N O R (F92.fr a z1 z2 z3 z4 i o z7 z8 z9) h nx=.ok True) :
  IR.run F92.t19 C N O K (F92.fr a b c e f i o p q s) h nx=.ok True:=by
 rw [F92.t19];refine yA (λm tm h nx=>∃ z1 z2 z3 z4 z7 z8 z9,tm=(F92.fr a z1 z2 z3 z4 i o z7 z8 z9)/\Inv m z3 z7 h nx) ?_ hm ⟨_,_,_,_,_,_,_,rfl,hi⟩;rintro m _ h nx R ⟨_,_,_,_,_,_,_,rfl,q⟩ p;exact step m _ _ _ _ _ _ _ h nx R q λ_ _ _ _ _ _ _ _ _ _ x y=>p _ _ _ _ x ⟨_,_,_,_,_,_,_,rfl,y⟩
theorem F92.tO:IR.run F92.t22 C N O K (F92.fr a b c e f i o p q s) h nx =
 K (F92.fr a e (I 0) e f i o p q s) h nx:=by kernel_rfl
theorem F92.go:zP tbl N C (.of 92) [a0] h nx K0=IR.run F92.t26 C N (fnO F92.res K0) (zi F92.res K0) (F92.fr a0 .u .u .u .u .u .u .u .u .u) h nx:=yE (F:=F92) (by kernel_rfl) (λ_=>by kernel_rfl) (by kernel_rfl)
theorem F92.ret:zi F92.res K0 (F92.fr a b c e f i o p q s) h nx=K0 (.tup [b,c]) h nx:=by kernel_rfl
theorem F23.zu:IR.run F23.t0 C N O K (F23.fr a b c e f i) h nx =
 xq a h nx λv1 h2 n3=>K (F23.fr a v1 .zb (I 0) f i) h2 n3:=by kernel_rfl
theorem F23.zo:IR.run F23.t1 C N O K (F23.fr a b c e f i) h nx =
 zK 2 b h λv1=>C.fn 18 (.of 18) [v1] h nx λv2 h3 n4=>K (F23.fr a b c e v2 i) h3 n4:=by kernel_rfl
theorem F23.yw:IR.run F23.t2 C N O K (F23.fr a b c e f i) h nx =
 za .neq .int f (I 0) λv1=>K (F23.fr a b c e f v1) h nx:=by kernel_rfl
theorem F23.vk:IR.run F23.t3 C N O K (F23.fr a b c e f i) h nx =
 K (F23.fr a b .zb f f i) h nx:=by kernel_rfl
theorem F23.v5:Arg.ev (.t (.of 5)) ⟨(F23.fr a b c e f i),[]⟩=i:=by kernel_rfl
theorem F23.fU:IR.run F23.t8 C N O K (F23.fr a b c e f i) h nx =
 zK 2 b h λv1=>C.fn 93 (.of 93) [v1] h nx λv2 h3 n4=>zcv 1 none v2 λv5=>C.fn 92 (.of 92) [v5] h3 n4 λv6 h7 n8=>fO 0 v6 λv9=>fO 1 v6 λvF=>K (F23.fr a b v9 vF f i) h7 n8:=by kernel_rfl
theorem F23.go:zP tbl N C (.of 23) [a0] h nx K0=IR.run F23.t11 C N (fnO F23.res K0) (zi F23.res K0) (F23.fr a0 .u .u .u .u .u) h nx:=yE (F:=F23) (by kernel_rfl) (λ_=>by kernel_rfl) (by kernel_rfl)
theorem F23.ret:zi F23.res K0 (F23.fr a b c e f i) h nx=K0 (.tup [c,e]) h nx:=by kernel_rfl
theorem F36.zu:IR.run F36.t0 C N O K (F36.fr a b c e f) h nx =
 K (F36.fr a .zb c e f) h nx:=by kernel_rfl
theorem F36.zo:IR.run F36.t1 C N O K (F36.fr a b c e f) h nx =
 K (F36.fr a b .zb e f) h nx:=by kernel_rfl
theorem F36.yw:IR.run F36.t2 C N O K (F36.fr a b c e f) h nx =
 K (F36.fr a b c (I 0) f) h nx:=by kernel_rfl
theorem F36.vk:IR.run F36.t3 C N O K (F36.fr a b c e f) h nx =
 za .lss .int e a λv1=>K (F36.fr a b c e v1) h nx:=by kernel_rfl
theorem F36.v4:Arg.ev (.t (.of 4)) ⟨(F36.fr a b c e f),[]⟩=f:=by kernel_rfl
theorem F36.uy:IR.run F36.t6 C N O K (F36.fr a b c e f) h nx =
 yS 1 1 [(.str [])] [(0,1,(.str [48]))] h nx λv1 h2 n3=>rY 1 16 c v1 h2 n3 λv4 h5 n6=>K (F36.fr a b v4 e f) h5 n6:=by kernel_rfl
theorem F36.fU:IR.run F36.t8 C N O K (F36.fr a b c e f) h nx =
 za .add .int e (I 1) λv1=>K (F36.fr a b c v1 f) h nx:=by kernel_rfl
theorem F36.zac (Inv:Nat->AV->AV->T Blk->Pa->Prop) {m:Nat} (hm:m<N) (hi:Inv m c e h nx)
  (step:∀ (m:Nat) (z2 z3 z4:AV) (h:T Blk) (nx:Pa) (R:Ks Prop),Inv m z2 z3 h nx->(∀ (m':Nat) (w2 w3 w4:AV) (h':T Blk) (nx':Pa),m'<m->Inv m' w2 w3 h' nx'->R (F36.fr a b w2 w3 w4) h' nx'=.ok True)->IR.run F36.t10 C N O R (F36.fr a b z2 z3 z4) h nx=.ok True) :
  IR.run F36.t11 C N O K (F36.fr a b c e f) h nx=.ok True:=by
 rw [F36.t11];refine yA (λm tm h nx=>∃ z2 z3 z4,tm=(F36.fr a b z2 z3 z4)/\Inv m z2 z3 h nx) ?_ hm ⟨_,_,_,rfl,hi⟩;rintro m _ h nx R ⟨_,_,_,rfl,q⟩ p;exact step m _ _ _ h nx R q λ_ _ _ _ _ _ x y=>p _ _ _ _ x ⟨_,_,_,rfl,y⟩
theorem F36.rG:IR.run F36.t14 C N O K (F36.fr a b c e f) h nx =
 K (F36.fr a c c e f) h nx:=by kernel_rfl
theorem F36.go:zP tbl N C (.of 36) [a0] h nx K0=IR.run F36.t18 C N (fnO F36.res K0) (zi F36.res K0) (F36.fr a0 .u .u .u .u) h nx:=yE (F:=F36) (by kernel_rfl) (λ_=>by kernel_rfl) (by kernel_rfl)
theorem F36.ret:zi F36.res K0 (F36.fr a b c e f) h nx=K0 b h nx:=by kernel_rfl
theorem F98.zu:IR.run F98.t0 C N O K (F98.fr a b c e f i o) h nx =
 xq a h nx λv1 h2 n3=>K (F98.fr a b v1 .zb f i o) h2 n3:=by kernel_rfl
theorem F98.zo:IR.run F98.t1 C N O K (F98.fr a b c e f i o) h nx =
 zM 0 c λv1=>zG v1 h λv2=>C.fn 36 (.of 36) [v2] h nx λv3 h4 n5=>K (F98.fr a b c e v3 i o) h4 n5:=by kernel_rfl
theorem F98.yw:IR.run F98.t2 C N O K (F98.fr a b c e f i o) h nx =
 K (F98.fr a b c e f (I 0) o) h nx:=by kernel_rfl
theorem F98.vk:IR.run F98.t3 C N O K (F98.fr a b c e f i o) h nx =
 zM 1 c λv1=>zG v1 h λv2=>zJ 1 v2 b λv3=>zG v3 h λv4=>sLen v4 λv5=>za .lss .int i v5 λv6=>K (F98.fr a b c e f i v6) h nx:=by kernel_rfl
theorem F98.v6:Arg.ev (.t (.of 6)) ⟨(F98.fr a b c e f i o),[]⟩=o:=by kernel_rfl
theorem F98.uy:IR.run F98.t6 C N O K (F98.fr a b c e f i o) h nx =
 zM 1 c λv1=>zG v1 h λv2=>zJ 1 v2 b λv3=>zG v3 h λv4=>zJ 1 v4 i λv5=>zG v5 h λv6=>zJ 1 f v6 λv7=>zV 1 v7 (.str [49]) h nx λv8 h9 nA=>K (F98.fr a b c e f i o) h9 nA:=by kernel_rfl
theorem F98.fU:IR.run F98.t8 C N O K (F98.fr a b c e f i o) h nx =
 za .add .int i (I 1) λv1=>K (F98.fr a b c e f v1 o) h nx:=by kernel_rfl
theorem F98.zac (Inv:Nat->AV->T Blk->Pa->Prop) {m:Nat} (hm:m<N) (hi:Inv m i h nx)
  (step:∀ (m:Nat) (z5 z6:AV) (h:T Blk) (nx:Pa) (R:Ks Prop),Inv m z5 h nx->(∀ (m':Nat) (w5 w6:AV) (h':T Blk) (nx':Pa),m'<m->Inv m' w5 h' nx'->R (F98.fr a b c e f w5 w6) h' nx'=.ok True)->IR.run F98.t10 C N O R (F98.fr a b c e f z5 z6) h nx=.ok True) :
  IR.run F98.t11 C N O K (F98.fr a b c e f i o) h nx=.ok True:=by
 rw [F98.t11];refine yA (λm tm h nx=>∃ z5 z6,tm=(F98.fr a b c e f z5 z6)/\Inv m z5 h nx) ?_ hm ⟨_,_,rfl,hi⟩;rintro m _ h nx R ⟨_,_,rfl,q⟩ p;exact step m _ _ h nx R q λ_ _ _ _ _ x y=>p _ _ _ _ x ⟨_,_,rfl,y⟩
theorem F98.rG:IR.run F98.t14 C N O K (F98.fr a b c e f i o) h nx =
 K (F98.fr a b c f f i o) h nx:=by kernel_rfl
theorem F98.go:zP tbl N C (.of 98) [a0,a1] h nx K0=IR.run F98.t18 C N (fnO F98.res K0) (zi F98.res K0) (F98.fr a0 a1 .u .u .u .u .u) h nx:=yE (F:=F98) (by kernel_rfl) (λ_=>by kernel_rfl) (by kernel_rfl)
theorem F98.ret:zi F98.res K0 (F98.fr a b c e f i o) h nx=K0 e h nx:=by kernel_rfl
theorem fT.zu:IR.run fT.t0 C N O K (fT.fr a b c) h nx =
 K (fT.fr a .zb c) h nx:=by kernel_rfl
theorem fT.zo:IR.run fT.t1 C N O K (fT.fr a b c) h nx =
 C.fn 190 (.of 190) [a] h nx λv1 h2 n3=>fO 0 v1 λv4=>fO 1 v1 λv5=>K (fT.fr a b v4) h2 n3:=by kernel_rfl
theorem fT.yw:IR.run fT.t2 C N O K (fT.fr a b c) h nx =
 K (fT.fr a c c) h nx:=by kernel_rfl
theorem fT.go:zP tbl N C (.of 100) [a0] h nx K0=IR.run fT.t5 C N (fnO fT.res K0) (zi fT.res K0) (fT.fr a0 .u .u) h nx:=yE (F:=fT) (by kernel_rfl) (λ_=>by kernel_rfl) (by kernel_rfl)
theorem fT.ret:zi fT.res K0 (fT.fr a b c) h nx=K0 b h nx:=by kernel_rfl
theorem zy.zu:IR.run zy.t0 C N O K (zy.fr a b c e f i o p q s d g) h nx =
 K (zy.fr a b .zb e f i o p q s d g) h nx:=by kernel_rfl
theorem zy.zo:IR.run zy.t1 C N O K (zy.fr a b c e f i o p q s d g) h nx =
 C.fn 190 (.of 190) [a] h nx λv1 h2 n3=>fO 0 v1 λv4=>fO 1 v1 λv5=>K (zy.fr a b c v4 v5 i o p q s d g) h2 n3:=by kernel_rfl
theorem zy.yw:IR.run zy.t2 C N O K (zy.fr a b c e f i o p q s d g) h nx =
 K (zy.fr a b c e f .zb o p q s d g) h nx:=by kernel_rfl
theorem zy.vk:IR.run zy.t3 C N O K (zy.fr a b c e f i o p q s d g) h nx =
 K (zy.fr a b c e f i (I 0) p q s d g) h nx:=by kernel_rfl
theorem zy.ng:IR.run zy.t4 C N O K (zy.fr a b c e f i o p q s d g) h nx =
 za .lss .int o b λv1=>K (zy.fr a b c e f i o p q v1 d g) h nx:=by kernel_rfl
theorem zy.v9:Arg.ev (.t (.of 9)) ⟨(zy.fr a b c e f i o p q s d g),[]⟩=s:=by kernel_rfl
theorem zy.fF:IR.run zy.t7 C N O K (zy.fr a b c e f i o p q s d g) h nx =
 C.fn 191 (.of 191) [f,o] h nx λv1 h2 n3=>K (zy.fr a b c e f i o p q s v1 g) h2 n3:=by kernel_rfl
theorem zy.v10:Arg.ev (.t (.of 10)) ⟨(zy.fr a b c e f i o p q s d g),[]⟩=d:=by kernel_rfl
theorem zy.ny:IR.run zy.t10 C N O K (zy.fr a b c e f i o p q s d g) h nx =
 C.fn 36 (.of 36) [b] h nx λv1 h2 n3=>K (zy.fr a b c e f i o v1 q s d g) h2 n3:=by kernel_rfl
theorem zy.xu:IR.run zy.t11 C N O K (zy.fr a b c e f i o p q s d g) h nx =
 zJ 1 p o λv1=>zV 1 v1 (.str [49]) h nx λv2 h3 n4=>K (zy.fr a b c e f i o p q s d g) h3 n4:=by kernel_rfl
theorem zy.rH:IR.run zy.t12 C N O K (zy.fr a b c e f i o p q s d g) h nx =
 K (zy.fr a b c e f i o p (I 0) s d g) h nx:=by kernel_rfl
theorem zy.rP:IR.run zy.t13 C N O K (zy.fr a b c e f i o p q s d g) h nx =
 sLen f λv1=>za .lss .int q v1 λv2=>K (zy.fr a b c e f i o p q s d v2) h nx:=by kernel_rfl
theorem zy.v11:Arg.ev (.t (.of 11)) ⟨(zy.fr a b c e f i o p q s d g),[]⟩=g:=by kernel_rfl
theorem zy.sw:IR.run zy.t16 C N O K (zy.fr a b c e f i o p q s d g) h nx =
 zJ 1 f q λv1=>zG v1 h λv2=>zJ 1 e q λv3=>zG v3 h λv4=>zJ 1 v4 o λv5=>zG v5 h λv6=>C.fn 189 (.of 189) [v6] h nx λv7 h8 n9=>(zG v1 h8 λvC=>zQ vC v2 ((zJ 1 f q λvD=>zQ vD v1 (zQ q q (zQ f f (zQ p p (zJ 1 p v2 λvF=>zV 1 vF v7 h8 n9 λvE hA nB=>K (zy.fr a b c e f i o p q s d g) hA nB))))))):=by kernel_rfl
theorem zy.zad:IR.run zy.t18 C N O K (zy.fr a b c e f i o p q s d g) h nx =
 za .add .int q (I 1) λv1=>K (zy.fr a b c e f i o p v1 s d g) h nx:=by kernel_rfl
theorem zy.znd (Inv:Nat->AV->T Blk->Pa->Prop) {m:Nat} (hm:m<N) (hi:Inv m q h nx)
  (step:∀ (m:Nat) (z8 zE:AV) (h:T Blk) (nx:Pa) (R:Ks Prop),Inv m z8 h nx->(∀ (m':Nat) (w8 wE:AV) (h':T Blk) (nx':Pa),m'<m->Inv m' w8 h' nx'->R (zy.fr a b c e f i o p w8 s d wE) h' nx'=.ok True)->IR.run zy.t20 C N O R (zy.fr a b c e f i o p z8 s d zE) h nx=.ok True) :
  IR.run zy.t21 C N O K (zy.fr a b c e f i o p q s d g) h nx=.ok True:=by
 rw [zy.t21];refine yA (λm tm h nx=>∃ z8 zE,tm=(zy.fr a b c e f i o p z8 s d zE)/\Inv m z8 h nx) ?_ hm ⟨_,_,rfl,hi⟩;rintro m _ h nx R ⟨_,_,rfl,q⟩ p;exact step m _ _ h nx R q λ_ _ _ _ _ x y=>p _ _ _ _ x ⟨_,_,rfl,y⟩
theorem zy.aV:IR.run zy.t24 C N O K (zy.fr a b c e f i o p q s d g) h nx =
 yS 1 1 [.zb] [(0,1,p)] h nx λv1 h2 n3=>rY 1 24 i v1 h2 n3 λv4 h5 n6=>K (zy.fr a b c e f v4 o p q s d g) h5 n6:=by kernel_rfl
theorem zy.zj1:IR.run zy.t30 C N O K (zy.fr a b c e f i o p q s d g) h nx =
 za .add .int o (I 1) λv1=>K (zy.fr a b c e f i v1 p q s d g) h nx:=by kernel_rfl
theorem zy.qaa (Inv:Nat->AV->AV->T Blk->Pa->Prop) {m:Nat} (hm:m<N) (hi:Inv m i o h nx)
  (step:∀ (m:Nat) (z5 z6 z7 z8 z9 zC zE:AV) (h:T Blk) (nx:Pa) (R:Ks Prop),Inv m z5 z6 h nx->(∀ (m':Nat) (w5 w6 w7 w8 w9 wC wE:AV) (h':T Blk) (nx':Pa),m'<m->Inv m' w5 w6 h' nx'->R (zy.fr a b c e f w5 w6 w7 w8 w9 wC wE) h' nx'=.ok True)->IR.run zy.t32 C N O R (zy.fr a b c e f z5 z6 z7 z8 z9 zC zE) h nx=.ok True) :
  IR.run zy.t33 C N O K (zy.fr a b c e f i o p q s d g) h nx=.ok True:=by
 rw [zy.t33];refine yA (λm tm h nx=>∃ z5 z6 z7 z8 z9 zC zE,tm=(zy.fr a b c e f z5 z6 z7 z8 z9 zC zE)/\Inv m z5 z6 h nx) ?_ hm ⟨_,_,_,_,_,_,_,rfl,hi⟩;rintro m _ h nx R ⟨_,_,_,_,_,_,_,rfl,q⟩ p;exact step m _ _ _ _ _ _ _ h nx R q λ_ _ _ _ _ _ _ _ _ _ x y=>p _ _ _ _ x ⟨_,_,_,_,_,_,_,rfl,y⟩
theorem zy.znh:IR.run zy.t36 C N O K (zy.fr a b c e f i o p q s d g) h nx =
 C.fn 100 (.of 100) [i] h nx λv1 h2 n3=>K (zy.fr a b v1 e f i o p q s d g) h2 n3:=by kernel_rfl
theorem zy.go:zP tbl N C (.of 101) [a0,a1] h nx K0=IR.run zy.t41 C N (fnO zy.res K0) (zi zy.res K0) (zy.fr a0 a1 .u .u .u .u .u .u .u .u .u .u) h nx:=yE (F:=zy) (by kernel_rfl) (λ_=>by kernel_rfl) (by kernel_rfl)
theorem zy.ret:zi zy.res K0 (zy.fr a b c e f i o p q s d g) h nx=K0 c h nx:=by kernel_rfl
theorem gm.zu:IR.run gm.t0 C N O K (gm.fr a b c e f i) h nx =
 K (gm.fr a b (.bool false) e f i) h nx:=by kernel_rfl
theorem gm.zo:IR.run gm.t1 C N O K (gm.fr a b c e f i) h nx =
 K (gm.fr a b c (I 0) f i) h nx:=by kernel_rfl
theorem gm.yw:IR.run gm.t2 C N O K (gm.fr a b c e f i) h nx =
 sLen a λv1=>za .lss .int e v1 λv2=>K (gm.fr a b c e v2 i) h nx:=by kernel_rfl
theorem gm.v4:Arg.ev (.t (.of 4)) ⟨(gm.fr a b c e f i),[]⟩=f:=by kernel_rfl
theorem gm.fZ:IR.run gm.t5 C N O K (gm.fr a b c e f i) h nx =
 zJ 1 a e λv1=>zG v1 h λv2=>za .eql .int v2 b λv3=>K (gm.fr a b c e f v3) h nx:=by kernel_rfl
theorem gm.uy:IR.run gm.t6 C N O K (gm.fr a b c e f i) h nx =
 K (gm.fr a b (.bool true) e f i) h nx:=by kernel_rfl
theorem gm.v5:Arg.ev (.t (.of 5)) ⟨(gm.fr a b c e f i),[]⟩=i:=by kernel_rfl
theorem gm.xu:IR.run gm.t11 C N O K (gm.fr a b c e f i) h nx =
 za .add .int e (I 1) λv1=>K (gm.fr a b c v1 f i) h nx:=by kernel_rfl
theorem gm.zfp (Inv:Nat->AV->T Blk->Pa->Prop) {m:Nat} (hm:m<N) (hi:Inv m e h nx)
  (step:∀ (m:Nat) (z2 z3 z4 z5:AV) (h:T Blk) (nx:Pa) (R:Ks Prop),Inv m z3 h nx->(∀ (m':Nat) (w2 w3 w4 w5:AV) (h':T Blk) (nx':Pa),m'<m->Inv m' w3 h' nx'->R (gm.fr a b w2 w3 w4 w5) h' nx'=.ok True)->IR.run gm.t13 C N O R (gm.fr a b z2 z3 z4 z5) h nx=.ok True) :
  IR.run gm.t14 C N O K (gm.fr a b c e f i) h nx=.ok True:=by
 rw [gm.t14];refine yA (λm tm h nx=>∃ z2 z3 z4 z5,tm=(gm.fr a b z2 z3 z4 z5)/\Inv m z3 h nx) ?_ hm ⟨_,_,_,_,rfl,hi⟩;rintro m _ h nx R ⟨_,_,_,_,rfl,q⟩ p;exact step m _ _ _ _ h nx R q λ_ _ _ _ _ _ _ x y=>p _ _ _ _ x ⟨_,_,_,_,rfl,y⟩
theorem gm.tL:IR.run gm.t17 C N O K (gm.fr a b c e f i) h nx =
 K (gm.fr a b (.bool false) e f i) h nx:=by kernel_rfl
theorem gm.go:zP tbl N C (.of 191) [a0,a1] h nx K0=IR.run gm.t20 C N (fnO gm.res K0) (zi gm.res K0) (gm.fr a0 a1 .u .u .u .u) h nx:=yE (F:=gm) (by kernel_rfl) (λ_=>by kernel_rfl) (by kernel_rfl)
theorem gm.ret:zi gm.res K0 (gm.fr a b c e f i) h nx=K0 c h nx:=by kernel_rfl
theorem eF.tab:T.get none (.of 183) tbl=some eF:=by kernel_rfl
theorem eF.go:zP tbl N C (.of 183) [a0] h nx K0 =
 C.fn 87 (.of 87) [(I (-999999999)),(I 999999999),a0] h nx λv1 h2 n3=>K0 v1 h2 n3:=by
 rw [yK eF.tab];kernel_rfl
theorem vz.rZ (X2:IR) (C:Calls Prop) (N:Nat) (O:fK Prop) (K:Ks Prop) (a b c e f:AV) (h:T Blk) (nx:Pa):IR.run (vz.g1 X2) C N O K (vz.fr a b c e f) h nx =
 IR.run X2 C N (O.blk 0 K) K (vz.fr a b c e f) h nx:=by kernel_rfl
theorem vz.tab:T.get none (.of 102) tbl=some vz:=by kernel_rfl
theorem vz.go:zP tbl N C (.of 102) [a0] h nx K0 =
 IR.run vz.b1 C N (fnO vz.res K0) (IR.run vz.b8 C N (fnO vz.res K0) (zi vz.res K0)) (vz.fr a0 (I 0) (I 0) .u .u) h nx:=by
 rw [yK vz.tab];kernel_rfl
theorem vz.e1:IR.run vz.b3 C N ((fnO vz.res K0).blk 0 K) R (vz.fr a b c e f) h nx =
 sLen a λv1=>za .lss .int c v1 λv2=>yH v2 (zJ 1 a c λv3=>zG v3 h λv4=>za .lss .int v4 (I (-999999999)) λv5=>sG v5 false (λk=>k a) λv6=>sG v5 false (λk=>k c) λv7=>sG v5 false (λk=>zJ 1 v6 v7 k) λv8=>sG v5 false (λk=>zG v8 h k) λv9=>sG v5 false (λk=>za .gtr .int v9 (I 999999999) k) λvF=>yQ v5 (.bool true) vF λvE=>yH vE (K0 (I 3) h nx) (za .add .int c (I 1) λvO=>R (vz.fr a b vO v2 vE) h nx)) (K (vz.fr a b c v2 f) h nx):=by kernel_rfl
theorem vz.L1 (Inv:Nat->AV->T Blk->Pa->Prop) {m:Nat} (hm:m<N) (hi:Inv m c h nx)
  (step:∀ (m:Nat) (z1 z2 z3 z4:AV) (h:T Blk) (nx:Pa) (R:Ks Prop),Inv m z2 h nx->(∀ (m':Nat) (w1 w2 w3 w4:AV) (h':T Blk) (nx':Pa),m'<m->Inv m' w2 h' nx'->R (vz.fr a w1 w2 w3 w4) h' nx'=.ok True) ->
   (sLen a λv1=>za .lss .int z2 v1 λv2=>yH v2 (zJ 1 a z2 λv3=>zG v3 h λv4=>za .lss .int v4 (I (-999999999)) λv5=>sG v5 false (λk=>k a) λv6=>sG v5 false (λk=>k z2) λv7=>sG v5 false (λk=>zJ 1 v6 v7 k) λv8=>sG v5 false (λk=>zG v8 h k) λv9=>sG v5 false (λk=>za .gtr .int v9 (I 999999999) k) λvF=>yQ v5 (.bool true) vF λvE=>yH vE (K0 (I 3) h nx) (za .add .int z2 (I 1) λvO=>R (vz.fr a z1 vO v2 vE) h nx)) (K (vz.fr a z1 z2 v2 z4) h nx))=.ok True) :
  IR.run vz.b1 C N (fnO vz.res K0) K (vz.fr a b c e f) h nx=.ok True:=by
 rw [vz.b1,vz.rZ,vz.b2];refine yA (λm tm h nx=>∃ z1 z2 z3 z4,tm=(vz.fr a z1 z2 z3 z4)/\Inv m z2 h nx) ?_ hm ⟨_,_,_,_,rfl,hi⟩;rintro m tm h nx R ⟨z1,z2,z3,z4,rfl,hi⟩ hR;rw [vz.e1];exact step m z1 z2 z3 z4 h nx R hi λm' w1 w2 w3 w4 h' nx' hlt hi'=>hR m' _ h' nx' hlt ⟨_,_,_,_,rfl,hi'⟩
theorem vz.k8:IR.run vz.b8 C N (fnO vz.res K0) K (vz.fr a b c e f) h nx =
 K0 (I 0) h nx:=by kernel_rfl
theorem F26.zu:IR.run F26.t0 C N O K (F26.fr a b c e f i o p q s) h nx =
 xq a h nx λv1 h2 n3=>K (F26.fr a v1 .zb e f i o p q s) h2 n3:=by kernel_rfl
theorem F26.zo:IR.run F26.t1 C N O K (F26.fr a b c e f i o p q s) h nx =
 K (F26.fr a b c .zb f i o p q s) h nx:=by kernel_rfl
theorem F26.yw:IR.run F26.t2 C N O K (F26.fr a b c e f i o p q s) h nx =
 K (F26.fr a b c e (I 1) i o p q s) h nx:=by kernel_rfl
theorem F26.vk:IR.run F26.t3 C N O K (F26.fr a b c e f i o p q s) h nx =
 zM 1 b λv1=>zG v1 h λv2=>sLen v2 λv3=>za .lss .int f v3 λv4=>K (F26.fr a b c e f i o p v4 s) h nx:=by kernel_rfl
theorem F26.v8:Arg.ev (.t (.of 8)) ⟨(F26.fr a b c e f i o p q s),[]⟩=q:=by kernel_rfl
theorem F26.uy:IR.run F26.t6 C N O K (F26.fr a b c e f i o p q s) h nx =
 zK 2 b h λv1=>C.fn 98 (.of 98) [v1,f] h nx λv2 h3 n4=>K (F26.fr a b c e f v2 o p q s) h3 n4:=by kernel_rfl
theorem F26.fF:IR.run F26.t7 C N O K (F26.fr a b c e f i o p q s) h nx =
 zK 2 b h λv1=>C.fn 98 (.of 98) [v1,(I 0)] h nx λv2 h3 n4=>K (F26.fr a b c e f i v2 p q s) h3 n4:=by kernel_rfl
theorem F26.fU:IR.run F26.t8 C N O K (F26.fr a b c e f i o p q s) h nx =
 K (F26.fr a b c e f i o (I 0) q s) h nx:=by kernel_rfl
theorem F26.nu:IR.run F26.t9 C N O K (F26.fr a b c e f i o p q s) h nx =
 sLen i λv1=>za .lss .int p v1 λv2=>K (F26.fr a b c e f i o p q v2) h nx:=by kernel_rfl
theorem F26.v9:Arg.ev (.t (.of 9)) ⟨(F26.fr a b c e f i o p q s),[]⟩=s:=by kernel_rfl
theorem F26.rH:IR.run F26.t12 C N O K (F26.fr a b c e f i o p q s) h nx =
 zJ 1 i p λv1=>zG v1 h λv2=>zJ 1 o p λv3=>zG v3 h λv4=>C.fn 99 (.of 99) [v2,v4] h nx λv5 h6 n7=>zQ p p (zQ i i (zJ 1 i p λv8=>zV 1 v8 v5 h6 n7 λv9 hC nD=>K (F26.fr a b c e f i o p q s) hC nD)):=by kernel_rfl
theorem F26.rG:IR.run F26.t14 C N O K (F26.fr a b c e f i o p q s) h nx =
 za .add .int p (I 1) λv1=>K (F26.fr a b c e f i o v1 q s) h nx:=by kernel_rfl
theorem F26.qab (Inv:Nat->AV->T Blk->Pa->Prop) {m:Nat} (hm:m<N) (hi:Inv m p h nx)
  (step:∀ (m:Nat) (z7 z9:AV) (h:T Blk) (nx:Pa) (R:Ks Prop),Inv m z7 h nx->(∀ (m':Nat) (w7 w9:AV) (h':T Blk) (nx':Pa),m'<m->Inv m' w7 h' nx'->R (F26.fr a b c e f i o w7 q w9) h' nx'=.ok True)->IR.run F26.t16 C N O R (F26.fr a b c e f i o z7 q z9) h nx=.ok True) :
  IR.run F26.t17 C N O K (F26.fr a b c e f i o p q s) h nx=.ok True:=by
 rw [F26.t17];refine yA (λm tm h nx=>∃ z7 z9,tm=(F26.fr a b c e f i o z7 q z9)/\Inv m z7 h nx) ?_ hm ⟨_,_,rfl,hi⟩;rintro m _ h nx R ⟨_,_,rfl,q⟩ p;exact step m _ _ h nx R q λ_ _ _ _ _ x y=>p _ _ _ _ x ⟨_,_,rfl,y⟩
theorem F26.aI:IR.run F26.t20 C N O K (F26.fr a b c e f i o p q s) h nx =
 yS 1 1 [.zb] [(0,1,i)] h nx λv1 h2 n3=>rY 1 24 e v1 h2 n3 λv4 h5 n6=>K (F26.fr a b c v4 f i o p q s) h5 n6:=by kernel_rfl
theorem F26.zfy:IR.run F26.t25 C N O K (F26.fr a b c e f i o p q s) h nx =
 za .add .int f (I 1) λv1=>K (F26.fr a b c e v1 i o p q s) h nx:=by kernel_rfl
theorem F26.qac (Inv:Nat->AV->AV->T Blk->Pa->Prop) {m:Nat} (hm:m<N) (hi:Inv m e f h nx)
  (step:∀ (m:Nat) (z3 z4 z5 z6 z7 z8 z9:AV) (h:T Blk) (nx:Pa) (R:Ks Prop),Inv m z3 z4 h nx->(∀ (m':Nat) (w3 w4 w5 w6 w7 w8 w9:AV) (h':T Blk) (nx':Pa),m'<m->Inv m' w3 w4 h' nx'->R (F26.fr a b c w3 w4 w5 w6 w7 w8 w9) h' nx'=.ok True)->IR.run F26.t27 C N O R (F26.fr a b c z3 z4 z5 z6 z7 z8 z9) h nx=.ok True) :
  IR.run F26.t28 C N O K (F26.fr a b c e f i o p q s) h nx=.ok True:=by
 rw [F26.t28];refine yA (λm tm h nx=>∃ z3 z4 z5 z6 z7 z8 z9,tm=(F26.fr a b c z3 z4 z5 z6 z7 z8 z9)/\Inv m z3 z4 h nx) ?_ hm ⟨_,_,_,_,_,_,_,rfl,hi⟩;rintro m _ h nx R ⟨_,_,_,_,_,_,_,rfl,q⟩ p;exact step m _ _ _ _ _ _ _ h nx R q λ_ _ _ _ _ _ _ _ _ _ x y=>p _ _ _ _ x ⟨_,_,_,_,_,_,_,rfl,y⟩
theorem F26.znl:IR.run F26.t31 C N O K (F26.fr a b c e f i o p q s) h nx =
 zM 0 b λv1=>zG v1 h λv2=>C.fn 101 (.of 101) [e,v2] h nx λv3 h4 n5=>C.fn 100 (.of 100) [v3] h4 n5 λv6 h7 n8=>K (F26.fr a b v6 e f i o p q s) h7 n8:=by kernel_rfl
theorem F26.go:zP tbl N C (.of 26) [a0] h nx K0=IR.run F26.t35 C N (fnO F26.res K0) (zi F26.res K0) (F26.fr a0 .u .u .u .u .u .u .u .u .u) h nx:=yE (F:=F26) (by kernel_rfl) (λ_=>by kernel_rfl) (by kernel_rfl)
theorem F26.ret:zi F26.res K0 (F26.fr a b c e f i o p q s) h nx=K0 c h nx:=by kernel_rfl
theorem F59.rZ (X2:IR) (C:Calls Prop) (N:Nat) (O:fK Prop) (K:Ks Prop) (a b c e f i o:AV) (h:T Blk) (nx:Pa):IR.run (F59.g1 X2) C N O K (F59.fr a b c e f i o) h nx =
 IR.run X2 C N (O.blk 0 K) K (F59.fr a b c e f i o) h nx:=by kernel_rfl
theorem F59.tab:T.get none (.of 59) tbl=some F59:=by kernel_rfl
theorem F59.go:zP tbl N C (.of 59) [a0,a1] h nx K0 =
 xq a0 h nx λv1 h2 n3=>IR.run F59.b1 C N (fnO F59.res K0) (IR.run F59.b8 C N (fnO F59.res K0) (zi F59.res K0)) (F59.fr a0 a1 v1 .zb .zb (I 0) .u) h2 n3:=by
 rw [yK F59.tab];kernel_rfl
theorem F59.e1:IR.run F59.b3 C N ((fnO F59.res K0).blk 0 K) R (F59.fr a b c e f i o) h nx =
 zM 1 c λv1=>zG v1 h λv2=>sLen v2 λv3=>za .lss .int i v3 λv4=>yH v4 (zM 1 c λv5=>zG v5 h λv6=>zJ 1 v6 i λv7=>zG v7 h λv8=>C.fn 143 (.of 143) [v8,b] h nx λv9 hC nD=>yS 1 1 [(I 0)] [(0,1,v9)] hC nD λvO hD nE=>rY 1 8 f vO hD nE λvC hE nF=>za .add .int i (I 1) λvV=>R (F59.fr a b c e vC vV v4) hE nF) (K (F59.fr a b c e f i v4) h nx):=by kernel_rfl
theorem F59.L1 (Inv:Nat->AV->AV->T Blk->Pa->Prop) {m:Nat} (hm:m<N) (hi:Inv m f i h nx)
  (step:∀ (m:Nat) (z4 z5 z6:AV) (h:T Blk) (nx:Pa) (R:Ks Prop),Inv m z4 z5 h nx->(∀ (m':Nat) (w4 w5 w6:AV) (h':T Blk) (nx':Pa),m'<m->Inv m' w4 w5 h' nx'->R (F59.fr a b c e w4 w5 w6) h' nx'=.ok True) ->
   (zM 1 c λv1=>zG v1 h λv2=>sLen v2 λv3=>za .lss .int z5 v3 λv4=>yH v4 (zM 1 c λv5=>zG v5 h λv6=>zJ 1 v6 z5 λv7=>zG v7 h λv8=>C.fn 143 (.of 143) [v8,b] h nx λv9 hC nD=>yS 1 1 [(I 0)] [(0,1,v9)] hC nD λvO hD nE=>rY 1 8 z4 vO hD nE λvC hE nF=>za .add .int z5 (I 1) λvV=>R (F59.fr a b c e vC vV v4) hE nF) (K (F59.fr a b c e z4 z5 v4) h nx))=.ok True) :
  IR.run F59.b1 C N (fnO F59.res K0) K (F59.fr a b c e f i o) h nx=.ok True:=by
 rw [F59.b1,F59.rZ,F59.b2];refine yA (λm tm h nx=>∃ z4 z5 z6,tm=(F59.fr a b c e z4 z5 z6)/\Inv m z4 z5 h nx) ?_ hm ⟨_,_,_,rfl,hi⟩;rintro m tm h nx R ⟨z4,z5,z6,rfl,hi⟩ hR;rw [F59.e1];exact step m z4 z5 z6 h nx R hi λm' w4 w5 w6 h' nx' hlt hi'=>hR m' _ h' nx' hlt ⟨_,_,_,rfl,hi'⟩
theorem F59.k8:IR.run F59.b8 C N (fnO F59.res K0) K (F59.fr a b c e f i o) h nx =
 K0 f h nx:=by kernel_rfl
theorem F28.tab:T.get none (.of 28) tbl=some F28:=by kernel_rfl
theorem F28.go:zP tbl N C (.of 28) [a0,a1] h nx K0 =
 xq a0 h nx λv1 h2 n3=>zK 2 v1 h2 λv4=>C.fn 60 (.of 60) [v4,a1] h2 n3 λv5 h6 n7=>za .lss .int v5 (I 0) λv8=>K0 v8 h6 n7:=by
 rw [yK F28.tab];kernel_rfl
theorem F60.rZ (X2:IR) (C:Calls Prop) (N:Nat) (O:fK Prop) (K:Ks Prop) (a b c e f i o p:AV) (h:T Blk) (nx:Pa):IR.run (F60.g1 X2) C N O K (F60.fr a b c e f i o p) h nx =
 IR.run X2 C N (O.blk 0 K) K (F60.fr a b c e f i o p) h nx:=by kernel_rfl
theorem F60.tab:T.get none (.of 60) tbl=some F60:=by kernel_rfl
theorem F60.go:zP tbl N C (.of 60) [a0,a1] h nx K0 =
 xq a0 h nx λv1 h2 n3=>zK 2 v1 h2 λv4=>C.fn 59 (.of 59) [v4,a1] h2 n3 λv5 h6 n7=>IR.run F60.b1 C N (fnO F60.res K0) (IR.run F60.b8 C N (fnO F60.res K0) (zi F60.res K0)) (F60.fr a0 a1 v1 (I 0) v5 (I 0) .u .u) h6 n7:=by
 rw [yK F60.tab];kernel_rfl
theorem F60.e1:IR.run F60.b3 C N ((fnO F60.res K0).blk 0 K) R (F60.fr a b c e f i o p) h nx =
 sLen f λv1=>za .lss .int i v1 λv2=>yH v2 (zJ 1 f i λv3=>zG v3 h λv4=>zJ 1 f (I 0) λv5=>zG v5 h λv6=>za .neq .int v4 v6 λv7=>yH v7 (K0 i h nx) (za .add .int i (I 1) λv8=>R (F60.fr a b c e f v8 v2 v7) h nx)) (K (F60.fr a b c e f i v2 p) h nx):=by kernel_rfl
theorem F60.L1 (Inv:Nat->AV->T Blk->Pa->Prop) {m:Nat} (hm:m<N) (hi:Inv m i h nx)
  (step:∀ (m:Nat) (z3 z5 z6 z7:AV) (h:T Blk) (nx:Pa) (R:Ks Prop),Inv m z5 h nx->(∀ (m':Nat) (w3 w5 w6 w7:AV) (h':T Blk) (nx':Pa),m'<m->Inv m' w5 h' nx'->R (F60.fr a b c w3 f w5 w6 w7) h' nx'=.ok True) ->
   (sLen f λv1=>za .lss .int z5 v1 λv2=>yH v2 (zJ 1 f z5 λv3=>zG v3 h λv4=>zJ 1 f (I 0) λv5=>zG v5 h λv6=>za .neq .int v4 v6 λv7=>yH v7 (K0 z5 h nx) (za .add .int z5 (I 1) λv8=>R (F60.fr a b c z3 f v8 v2 v7) h nx)) (K (F60.fr a b c z3 f z5 v2 z7) h nx))=.ok True) :
  IR.run F60.b1 C N (fnO F60.res K0) K (F60.fr a b c e f i o p) h nx=.ok True:=by
 rw [F60.b1,F60.rZ,F60.b2];refine yA (λm tm h nx=>∃ z3 z5 z6 z7,tm=(F60.fr a b c z3 f z5 z6 z7)/\Inv m z5 h nx) ?_ hm ⟨_,_,_,_,rfl,hi⟩;rintro m tm h nx R ⟨z3,z5,z6,z7,rfl,hi⟩ hR;rw [F60.e1];exact step m z3 z5 z6 z7 h nx R hi λm' w3 w5 w6 w7 h' nx' hlt hi'=>hR m' _ h' nx' hlt ⟨_,_,_,_,rfl,hi'⟩
theorem F60.k8:IR.run F60.b8 C N (fnO F60.res K0) K (F60.fr a b c e f i o p) h nx =
 K0 (I (-1)) h nx:=by kernel_rfl
theorem F27.tab:T.get none (.of 27) tbl=some F27:=by kernel_rfl
theorem F27.go:zP tbl N C (.of 27) [a0,a1] h nx K0 =
 xq a0 h nx λv1 h2 n3=>sLen a1 λv4=>zM 0 v1 λv5=>zG v5 h2 λv6=>za .neq .int v4 v6 λv7=>yH v7 (K0 (I 2) h2 n3) (C.fn 102 (.of 102) [a1] h2 n3 λv8 h9 nA=>K0 v8 h9 nA):=by
 rw [yK F27.tab];kernel_rfl
theorem dh.rZ (X2:IR) (C:Calls Prop) (N:Nat) (O:fK Prop) (K:Ks Prop) (a b c e f i:AV) (h:T Blk) (nx:Pa):IR.run (dh.g1 X2) C N O K (dh.fr a b c e f i) h nx =
 IR.run X2 C N (O.blk 0 K) K (dh.fr a b c e f i) h nx:=by kernel_rfl
theorem dh.tab:T.get none (.of 143) tbl=some dh:=by kernel_rfl
theorem dh.go:zP tbl N C (.of 143) [a0,a1] h nx K0 =
 IR.run dh.b1 C N (fnO dh.res K0) (IR.run dh.b8 C N (fnO dh.res K0) (zi dh.res K0)) (dh.fr a0 a1 (I 0) (I 0) (I 0) .u) h nx:=by
 rw [yK dh.tab];kernel_rfl
theorem dh.e1:IR.run dh.b3 C N ((fnO dh.res K0).blk 0 K) R (dh.fr a b c e f i) h nx =
 sLen a λv1=>za .lss .int f v1 λv2=>yH v2 (zJ 1 a f λv3=>zG v3 h λv4=>zJ 1 b v4 λv5=>zG v5 h λv6=>za .add .int e v6 λv7=>za .add .int f (I 1) λv8=>R (dh.fr a b c v7 v8 v2) h nx) (K (dh.fr a b c e f v2) h nx):=by kernel_rfl
theorem dh.L1 (Inv:Nat->AV->AV->T Blk->Pa->Prop) {m:Nat} (hm:m<N) (hi:Inv m e f h nx)
  (step:∀ (m:Nat) (z3 z4 z5:AV) (h:T Blk) (nx:Pa) (R:Ks Prop),Inv m z3 z4 h nx->(∀ (m':Nat) (w3 w4 w5:AV) (h':T Blk) (nx':Pa),m'<m->Inv m' w3 w4 h' nx'->R (dh.fr a b c w3 w4 w5) h' nx'=.ok True) ->
   (sLen a λv1=>za .lss .int z4 v1 λv2=>yH v2 (zJ 1 a z4 λv3=>zG v3 h λv4=>zJ 1 b v4 λv5=>zG v5 h λv6=>za .add .int z3 v6 λv7=>za .add .int z4 (I 1) λv8=>R (dh.fr a b c v7 v8 v2) h nx) (K (dh.fr a b c z3 z4 v2) h nx))=.ok True) :
  IR.run dh.b1 C N (fnO dh.res K0) K (dh.fr a b c e f i) h nx=.ok True:=by
 rw [dh.b1,dh.rZ,dh.b2];refine yA (λm tm h nx=>∃ z3 z4 z5,tm=(dh.fr a b c z3 z4 z5)/\Inv m z3 z4 h nx) ?_ hm ⟨_,_,_,rfl,hi⟩;rintro m tm h nx R ⟨z3,z4,z5,rfl,hi⟩ hR;rw [dh.e1];exact step m z3 z4 z5 h nx R hi λm' w3 w4 w5 h' nx' hlt hi'=>hR m' _ h' nx' hlt ⟨_,_,_,rfl,hi'⟩
theorem dh.k8:IR.run dh.b8 C N (fnO dh.res K0) K (dh.fr a b c e f i) h nx =
 K0 e h nx:=by kernel_rfl
theorem di.rZ (X2:IR) (C:Calls Prop) (N:Nat) (O:fK Prop) (K:Ks Prop) (a b c e f i o p q s:AV) (h:T Blk) (nx:Pa):IR.run (di.g1 X2) C N O K (di.fr a b c e f i o p q s) h nx =
 IR.run X2 C N (O.blk 0 K) K (di.fr a b c e f i o p q s) h nx:=by kernel_rfl
theorem di.tab:T.get none (.of 139) tbl=some di:=by kernel_rfl
theorem di.go:zP tbl N C (.of 139) [a0,a1] h nx K0 =
 xq a0 h nx λv1 h2 n3=>zM 1 v1 λv4=>zG v4 h2 λv5=>sLen v5 λv6=>IR.run di.b1 C N (fnO di.res K0) (IR.run di.b8 C N (fnO di.res K0) (zi di.res K0)) (di.fr a0 a1 v1 .zb .zb .u v5 v6 (I 0) .u) h2 n3:=by
 rw [yK di.tab];kernel_rfl
theorem di.e1:IR.run di.b3 C N ((fnO di.res K0).blk 0 K) R (di.fr a b c e f i o p q s) h nx =
 za .lss .int q p λv1=>yH v1 (zJ 1 o q λv2=>zG v2 h λv3=>C.fn 219 (.of 219) [v3,b] h nx λv4 h5 n6=>yS 1 1 [(I 0)] [(0,1,v4)] h5 n6 λv7 h8 n9=>rY 1 8 f v7 h8 n9 λvF hB nC=>za .add .int q (I 1) λvY=>R (di.fr a b c e vF v3 o p vY v1) hB nC) (K (di.fr a b c e f i o p q v1) h nx):=by kernel_rfl
theorem di.L1 (Inv:Nat->AV->AV->T Blk->Pa->Prop) {m:Nat} (hm:m<N) (hi:Inv m f q h nx)
  (step:∀ (m:Nat) (z4 z5 z8 z9:AV) (h:T Blk) (nx:Pa) (R:Ks Prop),Inv m z4 z8 h nx->(∀ (m':Nat) (w4 w5 w8 w9:AV) (h':T Blk) (nx':Pa),m'<m->Inv m' w4 w8 h' nx'->R (di.fr a b c e w4 w5 o p w8 w9) h' nx'=.ok True) ->
   (za .lss .int z8 p λv1=>yH v1 (zJ 1 o z8 λv2=>zG v2 h λv3=>C.fn 219 (.of 219) [v3,b] h nx λv4 h5 n6=>yS 1 1 [(I 0)] [(0,1,v4)] h5 n6 λv7 h8 n9=>rY 1 8 z4 v7 h8 n9 λvF hB nC=>za .add .int z8 (I 1) λvY=>R (di.fr a b c e vF v3 o p vY v1) hB nC) (K (di.fr a b c e z4 z5 o p z8 v1) h nx))=.ok True) :
  IR.run di.b1 C N (fnO di.res K0) K (di.fr a b c e f i o p q s) h nx=.ok True:=by
 rw [di.b1,di.rZ,di.b2];refine yA (λm tm h nx=>∃ z4 z5 z8 z9,tm=(di.fr a b c e z4 z5 o p z8 z9)/\Inv m z4 z8 h nx) ?_ hm ⟨_,_,_,_,rfl,hi⟩;rintro m tm h nx R ⟨z4,z5,z8,z9,rfl,hi⟩ hR;rw [di.e1];exact step m z4 z5 z8 z9 h nx R hi λm' w4 w5 w8 w9 h' nx' hlt hi'=>hR m' _ h' nx' hlt ⟨_,_,_,_,rfl,hi'⟩
theorem di.k8:IR.run di.b8 C N (fnO di.res K0) K (di.fr a b c e f i o p q s) h nx =
 K0 f h nx:=by kernel_rfl
theorem F95.tab:T.get none (.of 95) tbl=some F95:=by kernel_rfl
theorem F95.go:zP tbl N C (.of 95) [a0,a1] h nx K0 =
 xq a0 h nx λv1 h2 n3=>zK 2 v1 h2 λv4=>C.fn 139 (.of 139) [v4,a1] h2 n3 λv5 h6 n7=>yX [.zb] h6 n7 λv8 h9 nA=>zV 1 v8 v5 h9 nA λvE hA nB=>zG v8 hA λvD=>C.fn 184 (.of 184) [vD,(.fn 185 (.of 185) [v8])] hA nB λvC hE nF=>K0 vC hE nF:=by
 rw [yK F95.tab];kernel_rfl
theorem eG.tab:T.get none (.of 185) tbl=some eG:=by kernel_rfl
theorem eG.go:zP tbl N C (.of 185) [a0,a1] h nx K0 =
 zG a1 h λv1=>zJ 1 v1 (I 0) λv2=>zG v2 h λv3=>za .neq .int a0 v3 λv4=>K0 v4 h nx:=by
 rw [yK eG.tab];kernel_rfl
theorem F94.tab:T.get none (.of 94) tbl=some F94:=by kernel_rfl
theorem F94.go:zP tbl N C (.of 94) [a0,a1] h nx K0 =
 xq a0 h nx λv1 h2 n3=>zK 2 v1 h2 λv4=>sLen a1 λv5=>zM 0 v1 λv6=>zG v6 h2 λv7=>za .neq .int v5 v7 λv8=>C.fn 18 (.of 18) [v4] h2 n3 λv9 hC nD=>zQ a1 a1 ((za .neq .int v5 v7 λvS=>zQ vS v8 ((zG v6 hC λvT=>zQ vT v7 ((zM 0 v1 λvU=>zQ vU v6 ((sLen a1 λvZ=>zQ vZ v5 (zQ a1 a1 (C.fn 88 (.of 88) [v8,(I 2)] hC nD λvO hD nE=>zQ a1 a1 (C.fn 183 (.of 183) [a1] hD nE λvC hE nF=>yS 1 3 [(I 0)] [(0,1,v9),(1,1,vO),(2,1,vC)] hE nF λvV hF nG=>C.fn 86 (.of 86) [vV] hF nG λvW hH nI=>K0 vW hH nI))))))))))):=by
 rw [yK F94.tab];kernel_rfl
theorem dm.rZ (X2:IR) (C:Calls Prop) (N:Nat) (O:fK Prop) (K:Ks Prop) (a b c e f i o p q:AV) (h:T Blk) (nx:Pa):IR.run (dm.g1 X2) C N O K (dm.fr a b c e f i o p q) h nx =
 IR.run X2 C N (O.blk 0 K) K (dm.fr a b c e f i o p q) h nx:=by kernel_rfl
theorem dm.tab:T.get none (.of 219) tbl=some dm:=by kernel_rfl
theorem dm.go:zP tbl N C (.of 219) [a0,a1] h nx K0 =
 sLen a0 λv1=>IR.run dm.b1 C N (fnO dm.res K0) (IR.run dm.b8 C N (fnO dm.res K0) (zi dm.res K0)) (dm.fr a0 a1 (I 0) (I 0) .u a0 v1 (I 0) .u) h nx:=by
 rw [yK dm.tab];kernel_rfl
theorem dm.e1:IR.run dm.b3 C N ((fnO dm.res K0).blk 0 K) R (dm.fr a b c e f i o p q) h nx =
 za .lss .int p o λv1=>yH v1 (zJ 1 i p λv2=>zG v2 h λv3=>zJ 1 b v3 λv4=>zG v4 h λv5=>za .add .int e v5 λv6=>za .add .int p (I 1) λv7=>R (dm.fr a b c v6 v3 i o v7 v1) h nx) (K (dm.fr a b c e f i o p v1) h nx):=by kernel_rfl
theorem dm.L1 (Inv:Nat->AV->AV->T Blk->Pa->Prop) {m:Nat} (hm:m<N) (hi:Inv m e p h nx)
  (step:∀ (m:Nat) (z3 z4 z7 z8:AV) (h:T Blk) (nx:Pa) (R:Ks Prop),Inv m z3 z7 h nx->(∀ (m':Nat) (w3 w4 w7 w8:AV) (h':T Blk) (nx':Pa),m'<m->Inv m' w3 w7 h' nx'->R (dm.fr a b c w3 w4 i o w7 w8) h' nx'=.ok True) ->
   (za .lss .int z7 o λv1=>yH v1 (zJ 1 i z7 λv2=>zG v2 h λv3=>zJ 1 b v3 λv4=>zG v4 h λv5=>za .add .int z3 v5 λv6=>za .add .int z7 (I 1) λv7=>R (dm.fr a b c v6 v3 i o v7 v1) h nx) (K (dm.fr a b c z3 z4 i o z7 v1) h nx))=.ok True) :
  IR.run dm.b1 C N (fnO dm.res K0) K (dm.fr a b c e f i o p q) h nx=.ok True:=by
 rw [dm.b1,dm.rZ,dm.b2];refine yA (λm tm h nx=>∃ z3 z4 z7 z8,tm=(dm.fr a b c z3 z4 i o z7 z8)/\Inv m z3 z7 h nx) ?_ hm ⟨_,_,_,_,rfl,hi⟩;rintro m tm h nx R ⟨z3,z4,z7,z8,rfl,hi⟩ hR;rw [dm.e1];exact step m z3 z4 z7 z8 h nx R hi λm' w3 w4 w7 w8 h' nx' hlt hi'=>hR m' _ h' nx' hlt ⟨_,_,_,_,rfl,hi'⟩
theorem dm.k8:IR.run dm.b8 C N (fnO dm.res K0) K (dm.fr a b c e f i o p q) h nx =
 K0 e h nx:=by kernel_rfl
theorem F24.zu:IR.run F24.t0 C N O K (F24.fr a b c e f i o p q s d g j l) h nx =
 xq a h nx λv1 h2 n3=>K (F24.fr a b v1 .zb (I 0) i o p q s d g j l) h2 n3:=by kernel_rfl
theorem F24.zo:IR.run F24.t1 C N O K (F24.fr a b c e f i o p q s d g j l) h nx =
 zK 2 c h λv1=>C.fn 94 (.of 94) [v1,b] h nx λv2 h3 n4=>K (F24.fr a b c e f v2 o p q s d g j l) h3 n4:=by kernel_rfl
theorem F24.yw:IR.run F24.t2 C N O K (F24.fr a b c e f i o p q s d g j l) h nx =
 za .neq .int i (I 0) λv1=>K (F24.fr a b c e f i o p v1 s d g j l) h nx:=by kernel_rfl
theorem F24.vk:IR.run F24.t3 C N O K (F24.fr a b c e f i o p q s d g j l) h nx =
 K (F24.fr a b c .zb i i o p q s d g j l) h nx:=by kernel_rfl
theorem F24.v8:Arg.ev (.t (.of 8)) ⟨(F24.fr a b c e f i o p q s d g j l),[]⟩=q:=by kernel_rfl
theorem F24.fU:IR.run F24.t8 C N O K (F24.fr a b c e f i o p q s d g j l) h nx =
 zK 2 c h λv1=>C.fn 95 (.of 95) [v1,b] h nx λv2 h3 n4=>za .geq .int v2 (I 0) λv5=>K (F24.fr a b c e f i o p q v5 d g j l) h3 n4:=by kernel_rfl
theorem F24.nu:IR.run F24.t9 C N O K (F24.fr a b c e f i o p q s d g j l) h nx =
 K (F24.fr a b c .zb (I 16) i o p q s d g j l) h nx:=by kernel_rfl
theorem F24.v9:Arg.ev (.t (.of 9)) ⟨(F24.fr a b c e f i o p q s d g j l),[]⟩=s:=by kernel_rfl
theorem F24.rP:IR.run F24.t13 C N O K (F24.fr a b c e f i o p q s d g j l) h nx =
 K (F24.fr a b c e f i .zb p q s d g j l) h nx:=by kernel_rfl
theorem F24.rG:IR.run F24.t14 C N O K (F24.fr a b c e f i o p q s d g j l) h nx =
 zK 2 c h λv1=>C.fn 93 (.of 93) [v1] h nx λv2 h3 n4=>zcv 0 none v2 λv5=>sLen v5 λv6=>K (F24.fr a b c e f i o p q s v5 v6 (I 0) l) h3 n4:=by kernel_rfl
theorem F24.ol:IR.run F24.t15 C N O K (F24.fr a b c e f i o p q s d g j l) h nx =
 za .lss .int j g λv1=>K (F24.fr a b c e f i o p q s d g j v1) h nx:=by kernel_rfl
theorem F24.v13:Arg.ev (.t (.of 13)) ⟨(F24.fr a b c e f i o p q s d g j l),[]⟩=l:=by kernel_rfl
theorem F24.tL:IR.run F24.t17 C N O K (F24.fr a b c e f i o p q s d g j l) h nx =
 zJ 1 d j λv1=>zG v1 h λv2=>K (F24.fr a b c e f i o v2 q s d g j l) h nx:=by kernel_rfl
theorem F24.zad:IR.run F24.t18 C N O K (F24.fr a b c e f i o p q s d g j l) h nx =
 zJ 1 b p λv1=>zG v1 h λv2=>C.fn 96 (.of 96) [v2] h nx λv3 h4 n5=>C.fn 97 (.of 97) [v3] h4 n5 λv6 h7 n8=>yS 1 1 [(.str [])] [(0,1,v6)] h7 n8 λv9 hC nD=>rY 1 16 o v9 hC nD λvO hD nE=>K (F24.fr a b c e f i vO p q s d g j l) hD nE:=by kernel_rfl
theorem F24.zaa:IR.run F24.t21 C N O K (F24.fr a b c e f i o p q s d g j l) h nx =
 za .add .int j (I 1) λv1=>K (F24.fr a b c e f i o p q s d g v1 l) h nx:=by kernel_rfl
theorem F24.znj (Inv:Nat->AV->AV->T Blk->Pa->Prop) {m:Nat} (hm:m<N) (hi:Inv m o j h nx)
  (step:∀ (m:Nat) (z6 z7 z12 zY:AV) (h:T Blk) (nx:Pa) (R:Ks Prop),Inv m z6 z12 h nx->(∀ (m':Nat) (w6 w7 wY wR:AV) (h':T Blk) (nx':Pa),m'<m->Inv m' w6 wY h' nx'->R (F24.fr a b c e f i w6 w7 q s d g wY wR) h' nx'=.ok True)->IR.run F24.t24 C N O R (F24.fr a b c e f i z6 z7 q s d g z12 zY) h nx=.ok True) :
  IR.run F24.t25 C N O K (F24.fr a b c e f i o p q s d g j l) h nx=.ok True:=by
 rw [F24.t25];refine yA (λm tm h nx=>∃ z6 z7 z12 zY,tm=(F24.fr a b c e f i z6 z7 q s d g z12 zY)/\Inv m z6 z12 h nx) ?_ hm ⟨_,_,_,_,rfl,hi⟩;rintro m _ h nx R ⟨_,_,_,_,rfl,q⟩ p;exact step m _ _ _ _ h nx R q λ_ _ _ _ _ _ _ x y=>p _ _ _ _ x ⟨_,_,_,_,rfl,y⟩
theorem F24.om:IR.run F24.t28 C N O K (F24.fr a b c e f i o p q s d g j l) h nx =
 K (F24.fr a b c o (I 0) i o p q s d g j l) h nx:=by kernel_rfl
theorem F24.go:zP tbl N C (.of 24) [a0,a1] h nx K0=IR.run F24.t34 C N (fnO F24.res K0) (zi F24.res K0) (F24.fr a0 a1 .u .u .u .u .u .u .u .u .u .u .u .u) h nx:=yE (F:=F24) (by kernel_rfl) (λ_=>by kernel_rfl) (by kernel_rfl)
theorem F24.ret:zi F24.res K0 (F24.fr a b c e f i o p q s d g j l) h nx=K0 (.tup [e,f]) h nx:=by kernel_rfl
theorem F30.zu:IR.run F30.t0 C N O K (F30.fr a b c e f i o p) h nx =
 xq a h nx λv1 h2 n3=>K (F30.fr a b v1 .zb f i o p) h2 n3:=by kernel_rfl
theorem F30.zo:IR.run F30.t1 C N O K (F30.fr a b c e f i o p) h nx =
 K (F30.fr a b c e .zb i o p) h nx:=by kernel_rfl
theorem F30.yw:IR.run F30.t2 C N O K (F30.fr a b c e f i o p) h nx =
 zK 2 c h λv1=>C.fn 26 (.of 26) [v1] h nx λv2 h3 n4=>K (F30.fr a b c e f v2 o p) h3 n4:=by kernel_rfl
theorem F30.vk:IR.run F30.t3 C N O K (F30.fr a b c e f i o p) h nx =
 K (F30.fr a b c e f i (I 0) p) h nx:=by kernel_rfl
theorem F30.ng:IR.run F30.t4 C N O K (F30.fr a b c e f i o p) h nx =
 sLen i λv1=>za .lss .int o v1 λv2=>K (F30.fr a b c e f i o v2) h nx:=by kernel_rfl
theorem F30.v7:Arg.ev (.t (.of 7)) ⟨(F30.fr a b c e f i o p),[]⟩=p:=by kernel_rfl
theorem F30.fF:IR.run F30.t7 C N O K tm h nx=zZ F30.r5_0 C ⟨tm,[]⟩ h nx (λtm h nx=>K tm.v h nx):=jN ..
theorem F30.zw4:zZ (F30.zu6 r) C ⟨(F30.fr a b c e f i o p),[]⟩ h nx Kt =
 zJ 1 i o λv1=>zG v1 h λv2=>C.fn 103 (.of 103) [v2] h nx λv3 h4 n5=>zZ r C ⟨(F30.fr a b c e f i o p),v3::v2::v1::o::i::b::f::[]⟩ h4 n5 Kt:=by kernel_rfl
theorem F30.zw5:zZ (F30.zu7 r) C ⟨(F30.fr a b c e f i o p),s0::s1::s2::s3::s4::s5::sT⟩ h nx Kt =
 zJ 1 s5 s0 λv1=>zG v1 h λv2=>C.fn 42 (.of 42) [v2] h nx λv3 h4 n5=>zZ r C ⟨(F30.fr a b c e f i o p),v3::v2::v1::s0::s1::s2::s3::s4::s5::sT⟩ h4 n5 Kt:=by kernel_rfl
theorem F30.zw6:zZ (F30.zu8 r) C ⟨(F30.fr a b c e f i o p),s0::sT⟩ h nx Kt =
 yS 1 1 [(.str [])] [(0,1,s0)] h nx λv1 h2 n3=>zZ r C ⟨(F30.fr a b c e f i o p),v1::s0::sT⟩ h2 n3 Kt:=by kernel_rfl
theorem F30.zw7:zZ (F30.zu9 r) C ⟨(F30.fr a b c e f i o p),s0::s1::s2::s3::s4::s5::s6::s7::s8::s9::s10::[]⟩ h nx Kt =
 rY 1 16 s10 s0 h nx λv1 h2 n3=>zZ r C ⟨(F30.fr a b c e f i o p),v1::s0::s1::s2::s3::s4::s5::s6::s7::s8::s9::s10::[]⟩ h2 n3 Kt:=by kernel_rfl
theorem F30.zw8:zZ (F30.zva []) C ⟨(F30.fr a b c e f i o p),s0::sT⟩ h nx Kt =
 Kt ⟨(F30.fr a b c e s0 i o p),s0::sT⟩ h nx:=by kernel_rfl
theorem F30.nu:IR.run F30.t9 C N O K (F30.fr a b c e f i o p) h nx =
 za .add .int o (I 1) λv1=>K (F30.fr a b c e f i v1 p) h nx:=by kernel_rfl
theorem F30.qad (Inv:Nat->AV->AV->T Blk->Pa->Prop) {m:Nat} (hm:m<N) (hi:Inv m f o h nx)
  (step:∀ (m:Nat) (z4 z6 z7:AV) (h:T Blk) (nx:Pa) (R:Ks Prop),Inv m z4 z6 h nx->(∀ (m':Nat) (w4 w6 w7:AV) (h':T Blk) (nx':Pa),m'<m->Inv m' w4 w6 h' nx'->R (F30.fr a b c e w4 i w6 w7) h' nx'=.ok True)->IR.run F30.t11 C N O R (F30.fr a b c e z4 i z6 z7) h nx=.ok True) :
  IR.run F30.t12 C N O K (F30.fr a b c e f i o p) h nx=.ok True:=by
 rw [F30.t12];refine yA (λm tm h nx=>∃ z4 z6 z7,tm=(F30.fr a b c e z4 i z6 z7)/\Inv m z4 z6 h nx) ?_ hm ⟨_,_,_,rfl,hi⟩;rintro m _ h nx R ⟨_,_,_,rfl,q⟩ p;exact step m _ _ _ h nx R q λ_ _ _ _ _ _ x y=>p _ _ _ _ x ⟨_,_,_,rfl,y⟩
theorem F30.ol:IR.run F30.t15 C N O K (F30.fr a b c e f i o p) h nx =
 K (F30.fr a b c f f i o p) h nx:=by kernel_rfl
theorem F30.go:zP tbl N C (.of 30) [a0,a1] h nx K0=IR.run F30.t20 C N (fnO F30.res K0) (zi F30.res K0) (F30.fr a0 a1 .u .u .u .u .u .u) h nx:=yE (F:=F30) (by kernel_rfl) (λ_=>by kernel_rfl) (by kernel_rfl)
theorem F30.ret:zi F30.res K0 (F30.fr a b c e f i o p) h nx=K0 e h nx:=by kernel_rfl
theorem kz.zu:IR.run kz.t0 C N O K (kz.fr a b c e) h nx =
 K (kz.fr a (I 0) c e) h nx:=by kernel_rfl
theorem kz.zo:IR.run kz.t1 C N O K (kz.fr a b c e) h nx =
 K (kz.fr a b (I 0) e) h nx:=by kernel_rfl
theorem kz.yw:IR.run kz.t2 C N O K (kz.fr a b c e) h nx =
 zJ 1 a c λv1=>zG v1 h λv2=>C.fn 39 (.of 39) [v2] h nx λv3 h4 n5=>K (kz.fr a b c v3) h4 n5:=by kernel_rfl
theorem kz.v3:Arg.ev (.t (.of 3)) ⟨(kz.fr a b c e),[]⟩=e:=by kernel_rfl
theorem kz.fZ:IR.run kz.t5 C N O K (kz.fr a b c e) h nx =
 za .add .int c (I 1) λv1=>K (kz.fr a b v1 e) h nx:=by kernel_rfl
theorem kz.t8_L (Inv:Nat->AV->T Blk->Pa->Prop) {m:Nat} (hm:m<N) (hi:Inv m c h nx)
  (step:∀ (m:Nat) (z2 z3:AV) (h:T Blk) (nx:Pa) (R:Ks Prop),Inv m z2 h nx->(∀ (m':Nat) (w2 w3:AV) (h':T Blk) (nx':Pa),m'<m->Inv m' w2 h' nx'->R (kz.fr a b w2 w3) h' nx'=.ok True)->IR.run kz.t7 C N O R (kz.fr a b z2 z3) h nx=.ok True) :
  IR.run kz.t8 C N O K (kz.fr a b c e) h nx=.ok True:=by
 rw [kz.t8];refine yA (λm tm h nx=>∃ z2 z3,tm=(kz.fr a b z2 z3)/\Inv m z2 h nx) ?_ hm ⟨_,_,rfl,hi⟩;rintro m _ h nx R ⟨_,_,rfl,q⟩ p;exact step m _ _ h nx R q λ_ _ _ _ _ x y=>p _ _ _ _ x ⟨_,_,rfl,y⟩
theorem kz.ny:IR.run kz.t10 C N O K (kz.fr a b c e) h nx =
 K (kz.fr a c c e) h nx:=by kernel_rfl
theorem kz.go:zP tbl N C (.of 103) [a0] h nx K0=IR.run kz.t14 C N (fnO kz.res K0) (zi kz.res K0) (kz.fr a0 .u .u .u) h nx:=yE (F:=kz) (by kernel_rfl) (λ_=>by kernel_rfl) (by kernel_rfl)
theorem kz.ret:zi kz.res K0 (kz.fr a b c e) h nx=K0 b h nx:=by kernel_rfl
theorem F42.zu:IR.run F42.t0 C N O K (F42.fr a b) h nx =
 K (F42.fr a (.str [])) h nx:=by kernel_rfl
theorem F42.zo:IR.run F42.t1 C N O K (F42.fr a b) h nx =
 C.fn 134 (.of 134) [a] h nx λv1 h2 n3=>C.fn 133 (.of 133) [v1] h2 n3 λv4 h5 n6=>K (F42.fr a v4) h5 n6:=by kernel_rfl
theorem F42.go:zP tbl N C (.of 42) [a0] h nx K0=IR.run F42.t3 C N (fnO F42.res K0) (zi F42.res K0) (F42.fr a0 .u) h nx:=yE (F:=F42) (by kernel_rfl) (λ_=>by kernel_rfl) (by kernel_rfl)
theorem F42.ret:zi F42.res K0 (F42.fr a b) h nx=K0 b h nx:=by kernel_rfl
theorem F35.zu:IR.run F35.t0 C N O K (F35.fr a b c e f) h nx =
 xq a h nx λv1 h2 n3=>K (F35.fr a b c v1 (.bool false)) h2 n3:=by kernel_rfl
theorem F35.zo:IR.run F35.t1 C N O K tm h nx=zZ F35.tJ C ⟨tm,[]⟩ h nx (λtm h nx=>K tm.v h nx):=jN ..
theorem F35.tK:zZ (F35.sK r) C ⟨(F35.fr a b c e f),[]⟩ h nx Kt =
 zK 2 e h λv1=>C.fn 16 (.of 16) [v1,b,c] h nx λv2 h3 n4=>zZ r C ⟨(F35.fr a b c e f),v2::c::b::v1::[]⟩ h3 n4 Kt:=by kernel_rfl
theorem F35.sQ:zZ (F35.sM r) C ⟨(F35.fr a b c e f),s0::sT⟩ h nx Kt =
 sG s0 true (λk=>zK 2 e h k) λv1=>sGW s0 true (λk=>C.fn 19 (.of 19) [v1] h nx k) h nx λv2 h3 n4=>zZ r C ⟨(F35.fr a b c e f),v2::v1::s0::s0::sT⟩ h3 n4 Kt:=by kernel_rfl
theorem F35.zd6:zZ (F35.zfz r) C ⟨(F35.fr a b c e f),s0::s1::s2::sT⟩ h nx Kt =
 sG s2 true (λk=>za .eql .int s0 (I 0) k) λv1=>yQ s2 v1 (.bool false) λv2=>sG v2 true (λk=>zM 0 e k) λv3=>sG v2 true (λk=>zG v3 h k) λv4=>sG v2 true (λk=>k b) λv5=>sG v2 true (λk=>za .leq .int v4 v5 k) λv6=>yQ v2 v6 (.bool false) λv7=>zZ r C ⟨(F35.fr a b c e f),v7::v6::v5::v4::v3::v2::v2::v1::s0::s1::s2::sT⟩ h nx Kt:=by kernel_rfl
theorem F35.zah:zZ (F35.zf0 []) C ⟨(F35.fr a b c e f),s0::sT⟩ h nx Kt =
 Kt ⟨(F35.fr a b c e s0),s0::sT⟩ h nx:=by kernel_rfl
theorem F35.go:zP tbl N C (.of 35) [a0,a1,a2] h nx K0=IR.run F35.t3 C N (fnO F35.res K0) (zi F35.res K0) (F35.fr a0 a1 a2 .u .u) h nx:=yE (F:=F35) (by kernel_rfl) (λ_=>by kernel_rfl) (by kernel_rfl)
theorem F35.ret:zi F35.res K0 (F35.fr a b c e f) h nx=K0 f h nx:=by kernel_rfl
theorem F22.zu:IR.run F22.t0 C N O K (F22.fr a b c e) h nx =
 xq a h nx λv1 h2 n3=>K (F22.fr a v1 (.bool false) e) h2 n3:=by kernel_rfl
theorem F22.zo:IR.run F22.t1 C N O K (F22.fr a b c e) h nx =
 zK 2 b h λv1=>C.fn 16 (.of 16) [v1,(I 40),(I 130)] h nx λv2 h3 n4=>sNot v2 λv5=>K (F22.fr a b c v5) h3 n4:=by kernel_rfl
theorem F22.yw:IR.run F22.t2 C N O K (F22.fr a b c e) h nx =
 K (F22.fr a b (.bool false) e) h nx:=by kernel_rfl
theorem F22.v3:Arg.ev (.t (.of 3)) ⟨(F22.fr a b c e),[]⟩=e:=by kernel_rfl
theorem F22.uy:IR.run F22.t6 C N O K (F22.fr a b c e) h nx =
 zK 2 b h λv1=>C.fn 19 (.of 19) [v1] h nx λv2 h3 n4=>za .neq .int v2 (I 0) λv5=>sG v5 false (λk=>zK 2 b h3 k) λv6=>sGW v5 false (λk=>C.fn 35 (.of 35) [v6,(I 16),(I 12)] h3 n4 k) h3 n4 λv7 h8 n9=>yQ v5 (.bool true) v7 λvF=>K (F22.fr a b vF e) h8 n9:=by kernel_rfl
theorem F22.go:zP tbl N C (.of 22) [a0] h nx K0=IR.run F22.t9 C N (fnO F22.res K0) (zi F22.res K0) (F22.fr a0 .u .u .u) h nx:=yE (F:=F22) (by kernel_rfl) (λ_=>by kernel_rfl) (by kernel_rfl)
theorem F22.ret:zi F22.res K0 (F22.fr a b c e) h nx=K0 c h nx:=by kernel_rfl
theorem F4.zu:IR.run F4.t0 C N O K (F4.fr a b c e f i o p q s d g j l) h nx =
 xq a h nx λv1 h2 n3=>K (F4.fr a b v1 (.bool false) f i o p q s d g j l) h2 n3:=by kernel_rfl
theorem F4.zo:IR.run F4.t1 C N O K (F4.fr a b c e f i o p q s d g j l) h nx =
 zK 2 c h λv1=>C.fn 22 (.of 22) [v1] h nx λv2 h3 n4=>sNot v2 λv5=>sG v5 false (λk=>k b) λv6=>sG v5 false (λk=>sLen v6 k) λv7=>sG v5 false (λk=>za .gtr .int v7 (I 300) k) λv8=>yQ v5 (.bool true) v8 λv9=>K (F4.fr a b c e f i o p q v9 d g j l) h3 n4:=by kernel_rfl
theorem F4.yw:IR.run F4.t2 C N O K (F4.fr a b c e f i o p q s d g j l) h nx =
 C.fn 17 (.of 17) [] h nx λv1 h2 n3=>K (F4.fr a b c v1 f i o p q s d g j l) h2 n3:=by kernel_rfl
theorem F4.v9:Arg.ev (.t (.of 9)) ⟨(F4.fr a b c e f i o p q s d g j l),[]⟩=s:=by kernel_rfl
theorem F4.uy:IR.run F4.t6 C N O K (F4.fr a b c e f i o p q s d g j l) h nx =
 zK 2 c h λv1=>C.fn 23 (.of 23) [v1] h nx λv2 h3 n4=>fO 0 v2 λv5=>fO 1 v2 λv6=>K (F4.fr a b c e v5 v6 o p q s d g j l) h3 n4:=by kernel_rfl
theorem F4.fF:IR.run F4.t7 C N O K (F4.fr a b c e f i o p q s d g j l) h nx =
 zK 2 c h λv1=>C.fn 24 (.of 24) [v1,b] h nx λv2 h3 n4=>fO 0 v2 λv5=>fO 1 v2 λv6=>K (F4.fr a b c e f i v5 v6 q s d g j l) h3 n4:=by kernel_rfl
theorem F4.fU:IR.run F4.t8 C N O K (F4.fr a b c e f i o p q s d g j l) h nx =
 zK 2 c h λv1=>C.fn 19 (.of 19) [v1] h nx λv2 h3 n4=>K (F4.fr a b c e f i o p v2 s d g j l) h3 n4:=by kernel_rfl
theorem F4.nu:IR.run F4.t9 C N O K (F4.fr a b c e f i o p q s d g j l) h nx =
 za .neq .int q (I 0) λv1=>K (F4.fr a b c e f i o p q s v1 g j l) h nx:=by kernel_rfl
theorem F4.ny:IR.run F4.t10 C N O K tm h nx=zZ F4.r7_0 C ⟨tm,[]⟩ h nx (λtm h nx=>K tm.v h nx):=jN ..
theorem F4.zw9:zZ (F4.zvb r) C ⟨(F4.fr a b c e f i o p q s d g j l),[]⟩ h nx Kt =
 sLen f λv1=>za .eql .int v1 (I 0) λv2=>sG v2 true (λk=>k i) λv3=>sG v2 true (λk=>k q) λv4=>sG v2 true (λk=>za .eql .int v3 v4 k) λv5=>yQ v2 v5 (.bool false) λv6=>zZ r C ⟨(F4.fr a b c e f i o p q s d g j l),v6::v5::v4::v3::v2::v2::v1::f::[]⟩ h nx Kt:=by kernel_rfl
theorem F4.zxa:zZ (F4.zvc r) C ⟨(F4.fr a b c e f i o p q s d g j l),s0::sT⟩ h nx Kt =
 sG s0 true (λk=>k o) λv1=>sG s0 true (λk=>sLen v1 k) λv2=>sG s0 true (λk=>za .eql .int v2 (I 0) k) λv3=>yQ s0 v3 (.bool false) λv4=>sG v4 true (λk=>k p) λv5=>sG v4 true (λk=>k q) λv6=>zZ r C ⟨(F4.fr a b c e f i o p q s d g j l),v6::v5::v4::v4::v3::v2::v1::s0::s0::sT⟩ h nx Kt:=by kernel_rfl
theorem F4.zxb:zZ (F4.zvd r) C ⟨(F4.fr a b c e f i o p q s d g j l),s0::s1::s2::sT⟩ h nx Kt =
 sG s2 true (λk=>za .eql .int s1 s0 k) λv1=>yQ s2 v1 (.bool false) λv2=>sGW v2 true (λk=>C.fn 17 (.of 17) [] h nx k) h nx λv3 h4 n5=>zZ r C ⟨(F4.fr a b c e f i o p q s d g j l),v3::v2::v2::v1::s0::s1::s2::sT⟩ h4 n5 Kt:=by kernel_rfl
theorem F4.zxc:zZ (F4.zve []) C ⟨(F4.fr a b c e f i o p q s d g j l),s0::s1::sT⟩ h nx Kt =
 yQ s1 s0 (.bool false) λv1=>Kt ⟨(F4.fr a b c v1 f i o p q s d g j l),v1::s0::s1::sT⟩ h nx:=by kernel_rfl
theorem F4.v10:Arg.ev (.t (.of 10)) ⟨(F4.fr a b c e f i o p q s d g j l),[]⟩=d:=by kernel_rfl
theorem F4.rG:IR.run F4.t14 C N O K tm h nx=zZ F4.r8_0 C ⟨tm,[]⟩ h nx (λtm h nx=>K tm.v h nx):=jN ..
theorem F4.zh5:zZ (F4.zfq r) C ⟨(F4.fr a b c e f i o p q s d g j l),[]⟩ h nx Kt =
 za .neq .int i (I 0) λv1=>sG v1 false (λk=>k f) λv2=>sG v1 false (λk=>zK 2 c h k) λv3=>sGW v1 false (λk=>C.fn 26 (.of 26) [v3] h nx k) h nx λv4 h5 n6=>zZ r C ⟨(F4.fr a b c e f i o p q s d g j l),v4::v3::v2::v1::v1::i::[]⟩ h5 n6 Kt:=by kernel_rfl
theorem F4.zh6:zZ (F4.zfr r) C ⟨(F4.fr a b c e f i o p q s d g j l),s0::s1::s2::s3::sT⟩ h nx Kt =
 sGW s3 false (λk=>C.fn 25 (.of 25) [s2,s0] h nx k) h nx λv1 h2 n3=>zZ r C ⟨(F4.fr a b c e f i o p q s d g j l),v1::s0::s1::s2::s3::sT⟩ h2 n3 Kt:=by kernel_rfl
theorem F4.zxd:zZ (F4.zvf []) C ⟨(F4.fr a b c e f i o p q s d g j l),s0::s1::s2::s3::s4::sT⟩ h nx Kt =
 sG s4 false (λk=>sNot s0 k) λv1=>yQ s4 (.bool true) v1 λv2=>Kt ⟨(F4.fr a b c e f i o p q s d v2 j l),v1::s0::s1::s2::s3::s4::sT⟩ h nx:=by kernel_rfl
theorem F4.v11:Arg.ev (.t (.of 11)) ⟨(F4.fr a b c e f i o p q s d g j l),[]⟩=g:=by kernel_rfl
theorem F4.sJ:IR.run F4.t19 C N O K (F4.fr a b c e f i o p q s d g j l) h nx =
 zK 2 c h λv1=>C.fn 27 (.of 27) [v1,b] h nx λv2 h3 n4=>K (F4.fr a b c e f i o p v2 s d g j l) h3 n4:=by kernel_rfl
theorem F4.aI:IR.run F4.t20 C N O K tm h nx=zZ F4.znm C ⟨tm,[]⟩ h nx (λtm h nx=>K tm.v h nx):=jN ..
theorem F4.zsf:zZ (F4.znn r) C ⟨(F4.fr a b c e f i o p q s d g j l),[]⟩ h nx Kt =
 za .eql .int q (I 0) λv1=>sG v1 true (λk=>zK 2 c h k) λv2=>sG v1 true (λk=>k b) λv3=>sGW v1 true (λk=>C.fn 28 (.of 28) [v2,v3] h nx k) h nx λv4 h5 n6=>zZ r C ⟨(F4.fr a b c e f i o p q s d g j l),v4::v3::v2::v1::v1::q::[]⟩ h5 n6 Kt:=by kernel_rfl
theorem F4.zj2:zZ (F4.zno []) C ⟨(F4.fr a b c e f i o p q s d g j l),s0::s1::s2::s3::sT⟩ h nx Kt =
 sG s3 true (λk=>sNot s0 k) λv1=>yQ s3 v1 (.bool false) λv2=>Kt ⟨(F4.fr a b c e f i o p q s d g v2 l),v1::s0::s1::s2::s3::sT⟩ h nx:=by kernel_rfl
theorem F4.zaa:IR.run F4.t21 C N O K (F4.fr a b c e f i o p q s d g j l) h nx =
 K (F4.fr a b c e f i o p (I 16) s d g j l) h nx:=by kernel_rfl
theorem F4.v12:Arg.ev (.t (.of 12)) ⟨(F4.fr a b c e f i o p q s d g j l),[]⟩=j:=by kernel_rfl
theorem F4.aV:IR.run F4.t24 C N O K (F4.fr a b c e f i o p q s d g j l) h nx =
 za .neq .int q (I 0) λv1=>K (F4.fr a b c e f i o p q s d g j v1) h nx:=by kernel_rfl
theorem F4.zfy:IR.run F4.t25 C N O K tm h nx=zZ F4.znp C ⟨tm,[]⟩ h nx (λtm h nx=>K tm.v h nx):=jN ..
theorem F4.zsg:zZ (F4.znq r) C ⟨(F4.fr a b c e f i o p q s d g j l),[]⟩ h nx Kt =
 sLen o λv1=>za .eql .int v1 (I 0) λv2=>sG v2 true (λk=>k p) λv3=>sG v2 true (λk=>k q) λv4=>sG v2 true (λk=>za .eql .int v3 v4 k) λv5=>yQ v2 v5 (.bool false) λv6=>zZ r C ⟨(F4.fr a b c e f i o p q s d g j l),v6::v5::v4::v3::v2::v2::v1::o::[]⟩ h nx Kt:=by kernel_rfl
theorem F4.zsh:zZ (F4.znr r) C ⟨(F4.fr a b c e f i o p q s d g j l),s0::sT⟩ h nx Kt =
 sGW s0 true (λk=>C.fn 17 (.of 17) [] h nx k) h nx λv1 h2 n3=>zZ r C ⟨(F4.fr a b c e f i o p q s d g j l),v1::s0::s0::sT⟩ h2 n3 Kt:=by kernel_rfl
theorem F4.zsi:zZ (F4.zns []) C ⟨(F4.fr a b c e f i o p q s d g j l),s0::s1::sT⟩ h nx Kt =
 yQ s1 s0 (.bool false) λv1=>Kt ⟨(F4.fr a b c v1 f i o p q s d g j l),v1::s0::s1::sT⟩ h nx:=by kernel_rfl
theorem F4.v13:Arg.ev (.t (.of 13)) ⟨(F4.fr a b c e f i o p q s d g j l),[]⟩=l:=by kernel_rfl
theorem F4.znk:IR.run F4.t29 C N O K tm h nx=zZ F4.znt C ⟨tm,[]⟩ h nx (λtm h nx=>K tm.v h nx):=jN ..
theorem F4.zsj:zZ (F4.znu r) C ⟨(F4.fr a b c e f i o p q s d g j l),[]⟩ h nx Kt =
 za .eql .int p (I 0) λv1=>sG v1 true (λk=>k o) λv2=>sG v1 true (λk=>zK 2 c h k) λv3=>sG v1 true (λk=>k b) λv4=>sGW v1 true (λk=>C.fn 30 (.of 30) [v3,v4] h nx k) h nx λv5 h6 n7=>zZ r C ⟨(F4.fr a b c e f i o p q s d g j l),v5::v4::v3::v2::v1::v1::p::[]⟩ h6 n7 Kt:=by kernel_rfl
theorem F4.zsk:zZ (F4.znv r) C ⟨(F4.fr a b c e f i o p q s d g j l),s0::s1::s2::s3::s4::sT⟩ h nx Kt =
 sGW s4 true (λk=>C.fn 29 (.of 29) [s3,s0] h nx k) h nx λv1 h2 n3=>zZ r C ⟨(F4.fr a b c e f i o p q s d g j l),v1::s0::s1::s2::s3::s4::sT⟩ h2 n3 Kt:=by kernel_rfl
theorem F4.zsl:zZ (F4.znw r) C ⟨(F4.fr a b c e f i o p q s d g j l),s0::s1::s2::s3::s4::s5::sT⟩ h nx Kt =
 yQ s5 s0 (.bool false) λv1=>sGW v1 true (λk=>C.fn 17 (.of 17) [] h nx k) h nx λv2 h3 n4=>zZ r C ⟨(F4.fr a b c e f i o p q s d g j l),v2::v1::v1::s0::s1::s2::s3::s4::s5::sT⟩ h3 n4 Kt:=by kernel_rfl
theorem F4.zsm:zZ (F4.znx []) C ⟨(F4.fr a b c e f i o p q s d g j l),s0::s1::sT⟩ h nx Kt =
 yQ s1 s0 (.bool false) λv1=>Kt ⟨(F4.fr a b c v1 f i o p q s d g j l),v1::s0::s1::sT⟩ h nx:=by kernel_rfl
theorem F4.go:zP tbl N C (.of 4) [a0,a1] h nx K0=IR.run F4.t40 C N (fnO F4.res K0) (zi F4.res K0) (F4.fr a0 a1 .u .u .u .u .u .u .u .u .u .u .u .u) h nx:=yE (F:=F4) (by kernel_rfl) (λ_=>by kernel_rfl) (by kernel_rfl)
theorem F4.ret:zi F4.res K0 (F4.fr a b c e f i o p q s d g j l) h nx=K0 e h nx:=by kernel_rfl
end
end Go.Ev
