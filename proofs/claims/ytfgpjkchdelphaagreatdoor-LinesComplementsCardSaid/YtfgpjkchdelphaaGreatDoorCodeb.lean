import Derived.Test.YtfgpjkchdelphaaGreatDoorIrT
import Derived.Test.YtfgpjkchdelphaaGreatDoorEvD
import Derived.KernelRfl
set_option linter.unusedSimpArgs false
set_option linter.unusedVariables false
namespace Go.Ev
open Go Go.Proofs
set_option maxRecDepth 100000
section
variable {N:Nat} {C:Calls Prop} {K0:Kw Prop} {K R:Ks Prop} {h:T Blk} {nx:Pa} {E D G H L M Q U V W d v a b c e p i f l g w y s z q u B A o j P Z x33 x34 x35 a0 s0 s1 s2 s3 s4 s5 s6 s7 s8 s9 s10 s11 s12 s13 s14 s15 s16 s17 s18 s19 s20 s21 s22 s23 s24 s25 s26 s27 s28 s29 s30 s31 s32 s33 s34 s35 s36 s37 s38 s39 s40 s41 s42 s43 s44 s45 s46 s47 s48 s49 s50 s51 s52 s53 s54 s55 s56 s57 s58 s59 a1 a2:AV} {O:dw Prop} {tm:T AV} {Kt:KTm} {r:List RO} {sT:List AV}
theorem F93.jm:IR.run F93.t0 C N O K (F93.fr E D G H L M Q U V W d v a b c e p i f l g w y s z q u B A o j P Z x33 x34 x35) h nx =
 ql E h nx fun v1 h2 n3=>yV [.zf,.zf] h2 n3 fun v4 h5 n6=>K (F93.fr E v1 v4 H L M Q U V W d v a b c e p i f l g w y s z q u B A o j P Z x33 x34 x35) h5 n6:=by kernel_rfl
theorem F93.jl:IR.run F93.t1 C N O K (F93.fr E D G H L M Q U V W d v a b c e p i f l g w y s z q u B A o j P Z x33 x34 x35) h nx =
 zI 0 D fun v1=>zH v1 h fun v2=>K (F93.fr E D G v2 L M Q U V W d v a b c e p i f l g w y s z q u B A o j P Z x33 x34 x35) h nx:=by kernel_rfl
theorem F93.qh:IR.run F93.t2 C N O K (F93.fr E D G H L M Q U V W d v a b c e p i f l g w y s z q u B A o j P Z x33 x34 x35) h nx =
 K (F93.fr E D G H .zf M Q U V W d v a b c e p i f l g w y s z q u B A o j P Z x33 x34 x35) h nx:=by kernel_rfl
theorem F93.rC:IR.run F93.t3 C N O K (F93.fr E D G H L M Q U V W d v a b c e p i f l g w y s z q u B A o j P Z x33 x34 x35) h nx =
 K (F93.fr E D G H L .zf Q U V W d v a b c e p i f l g w y s z q u B A o j P Z x33 x34 x35) h nx:=by kernel_rfl
theorem F93.rD:IR.run F93.t4 C N O K (F93.fr E D G H L M Q U V W d v a b c e p i f l g w y s z q u B A o j P Z x33 x34 x35) h nx =
 K (F93.fr E D G H L M (I 1) U V W d v a b c e p i f l g w y s z q u B A o j P Z x33 x34 x35) h nx:=by kernel_rfl
theorem F93.bJ:IR.run F93.t5 C N O K (F93.fr E D G H L M Q U V W d v a b c e p i f l g w y s z q u B A o j P Z x33 x34 x35) h nx =
 zI 1 D fun v1=>zH v1 h fun v2=>sLen v2 fun v3=>zi .lss .int Q v3 fun v4=>K (F93.fr E D G H L M Q U V W d v a b c e p v4 f l g w y s z q u B A o j P Z x33 x34 x35) h nx:=by kernel_rfl
theorem F93.v17:Arg.ev (.t (.of 17)) ⟨(F93.fr E D G H L M Q U V W d v a b c e p i f l g w y s z q u B A o j P Z x33 x34 x35),[]⟩=i:=by kernel_rfl
theorem F93.sH:IR.run F93.t8 C N O K (F93.fr E D G H L M Q U V W d v a b c e p i f l g w y s z q u B A o j P Z x33 x34 x35) h nx =
 zI 1 D fun v1=>zH v1 h fun v2=>zL 1 v2 Q fun v3=>zH v3 h fun v4=>C.fn 104 (.of 104) [H,v4] h nx fun v5 h6 n7=>K (F93.fr E D G H L M Q v5 V W d v a b c e p i f l g w y s z q u B A o j P Z x33 x34 x35) h6 n7:=by kernel_rfl
theorem F93.ay:IR.run F93.t9 C N O K (F93.fr E D G H L M Q U V W d v a b c e p i f l g w y s z q u B A o j P Z x33 x34 x35) h nx =
 zI 1 D fun v1=>zH v1 h fun v2=>zL 1 v2 (I 0) fun v3=>zH v3 h fun v4=>C.fn 96 (.of 96) [(I 1)] h nx fun v5 h6 n7=>(zH v3 h6 fun vA=>zV vA v4 ((zL 1 v2 (I 0) fun vB=>zV vB v3 ((zH v1 h6 fun vC=>zV vC v2 ((zI 1 D fun vD=>zV vD v1 (zV H H (zV U U (C.fn 104 (.of 104) [H,v4] h6 n7 fun v8 h9 nA=>zV U U (C.fn 106 (.of 106) [U,v5,v8] h9 nA fun vE hA nB=>K (F93.fr E D G H L M Q U V W d v a b c e p i f l g w y s z q u B A o j P Z x33 x34 x35) hA nB))))))))))):=by kernel_rfl
theorem F93.rG:IR.run F93.t10 C N O K (F93.fr E D G H L M Q U V W d v a b c e p i f l g w y s z q u B A o j P Z x33 x34 x35) h nx =
 sLen M fun v1=>K (F93.fr E D G H L M Q U V W d v a b c e p i M v1 (I 0) w y s z q u B A o j P Z x33 x34 x35) h nx:=by kernel_rfl
theorem F93.fZ:IR.run F93.t11 C N O K (F93.fr E D G H L M Q U V W d v a b c e p i f l g w y s z q u B A o j P Z x33 x34 x35) h nx =
 zi .lss .int g l fun v1=>K (F93.fr E D G H L M Q U V W d v a b c e p i f l g v1 y s z q u B A o j P Z x33 x34 x35) h nx:=by kernel_rfl
theorem F93.v21:Arg.ev (.t (.of 21)) ⟨(F93.fr E D G H L M Q U V W d v a b c e p i f l g w y s z q u B A o j P Z x33 x34 x35),[]⟩=w:=by kernel_rfl
theorem F93.fM:IR.run F93.t13 C N O K (F93.fr E D G H L M Q U V W d v a b c e p i f l g w y s z q u B A o j P Z x33 x34 x35) h nx =
 zL 1 f g fun v1=>zH v1 h fun v2=>K (F93.fr E D G H L M Q U g v2 d v a b c e p i f l g w y s z q u B A o j P Z x33 x34 x35) h nx:=by kernel_rfl
theorem F93.nP:IR.run F93.t14 C N O K (F93.fr E D G H L M Q U V W d v a b c e p i f l g w y s z q u B A o j P Z x33 x34 x35) h nx =
 zL 4 U W fun v1=>zE 4 v1 h fun v2=>zL 1 L V fun v3=>zH v3 h fun v4=>C.fn 106 (.of 106) [U,v2,v4] h nx fun v5 h6 n7=>K (F93.fr E D G H L M Q U V W d v a b c e p i f l g w y s z q u B A o j P Z x33 x34 x35) h6 n7:=by kernel_rfl
theorem F93.rV:IR.run F93.t17 C N O K (F93.fr E D G H L M Q U V W d v a b c e p i f l g w y s z q u B A o j P Z x33 x34 x35) h nx =
 zi .add .int g (I 1) fun v1=>K (F93.fr E D G H L M Q U V W d v a b c e p i f l v1 w y s z q u B A o j P Z x33 x34 x35) h nx:=by kernel_rfl
theorem F93.zmy (Inv:Nat->AV->T Blk->Pa->Prop) {m:Nat} (hm:m<N) (hi:Inv m g h nx)
  (step:∀ (m:Nat) (z8 z9 zA zB:AV) (h:T Blk) (nx:Pa) (R:Ks Prop),Inv m zA h nx->(∀ (m':Nat) (w8 w9 wA wB:AV) (h':T Blk) (nx':Pa),m'<m->Inv m' wA h' nx'->R (F93.fr E D G H L M Q U w8 w9 d v a b c e p i f l wA wB y s z q u B A o j P Z x33 x34 x35) h' nx'=.ok True)->IR.run F93.t20 C N O R (F93.fr E D G H L M Q U z8 z9 d v a b c e p i f l zA zB y s z q u B A o j P Z x33 x34 x35) h nx=.ok True) :
  IR.run F93.t21 C N O K (F93.fr E D G H L M Q U V W d v a b c e p i f l g w y s z q u B A o j P Z x33 x34 x35) h nx=.ok True:=by
 rw [F93.t21];refine yE (fun m tm h nx=>∃ z8 z9 zA zB,tm=(F93.fr E D G H L M Q U z8 z9 d v a b c e p i f l zA zB y s z q u B A o j P Z x33 x34 x35)/\Inv m zA h nx) ?_ hm ⟨_,_,_,_,rfl,hi⟩;rintro m tm h nx R ⟨z8,z9,zA,zB,rfl,hi⟩ hR;exact step m z8 z9 zA zB h nx R hi fun m' w8 w9 wA wB h' nx' hlt hi'=>hR m' _ h' nx' hlt ⟨_,_,_,_,rfl,hi'⟩
theorem F93.aF:IR.run F93.t24 C N O K (F93.fr E D G H L M Q U V W d v a b c e p i f l g w y s z q u B A o j P Z x33 x34 x35) h nx =
 zi .sub .int H (I 1) fun v1=>K (F93.fr E D G H L M Q U V W v1 v a b c e p i f l g w y s z q u B A o j P Z x33 x34 x35) h nx:=by kernel_rfl
theorem F93.zat:IR.run F93.t25 C N O K tm h nx=zN F93.znu C ⟨tm,[]⟩ h nx (fun tm h nx=>K tm.v h nx):=jC ..
theorem F93.zsk:zN (F93.znv r) C ⟨(F93.fr E D G H L M Q U V W d v a b c e p i f l g w y s z q u B A o j P Z x33 x34 x35),[]⟩ h nx Kt =
 zi .geq .int d (I 0) fun v1=>sG v1 true (fun k=>k U) fun v2=>sG v1 true (fun k=>k d) fun v3=>sG v1 true (fun k=>zL 4 v2 v3 k) fun v4=>sG v1 true (fun k=>zE 4 v4 h k) fun v5=>sGW v1 true (fun k=>C.fn 110 (.of 110) [v5] h nx k) h nx fun v6 h7 n8=>zN r C ⟨(F93.fr E D G H L M Q U V W d v a b c e p i f l g w y s z q u B A o j P Z x33 x34 x35),v6::v5::v4::v3::v2::v1::v1::d::[]⟩ h7 n8 Kt:=by kernel_rfl
theorem F93.zj0:zN (F93.znw []) C ⟨(F93.fr E D G H L M Q U V W d v a b c e p i f l g w y s z q u B A o j P Z x33 x34 x35),s0::s1::s2::s3::s4::s5::sT⟩ h nx Kt =
 sG s5 true (fun k=>zi .eql .int s0 (I 0) k) fun v1=>yT s5 v1 (.bool false) fun v2=>Kt ⟨(F93.fr E D G H L M Q U V W d v a b c e p i f l g w v2 s z q u B A o j P Z x33 x34 x35),v1::s0::s1::s2::s3::s4::s5::sT⟩ h nx:=by kernel_rfl
theorem F93.v22:Arg.ev (.t (.of 22)) ⟨(F93.fr E D G H L M Q U V W d v a b c e p i f l g w y s z q u B A o j P Z x33 x34 x35),[]⟩=y:=by kernel_rfl
theorem F93.aA:IR.run F93.t28 C N O K (F93.fr E D G H L M Q U V W d v a b c e p i f l g w y s z q u B A o j P Z x33 x34 x35) h nx =
 zi .sub .int d (I 1) fun v1=>K (F93.fr E D G H L M Q U V W v1 v a b c e p i f l g w y s z q u B A o j P Z x33 x34 x35) h nx:=by kernel_rfl
theorem F93.zmu (Inv:Nat->AV->T Blk->Pa->Prop) {m:Nat} (hm:m<N) (hi:Inv m d h nx)
  (step:∀ (m:Nat) (zC zD:AV) (h:T Blk) (nx:Pa) (R:Ks Prop),Inv m zC h nx->(∀ (m':Nat) (wC wD:AV) (h':T Blk) (nx':Pa),m'<m->Inv m' wC h' nx'->R (F93.fr E D G H L M Q U V W wC v a b c e p i f l g w wD s z q u B A o j P Z x33 x34 x35) h' nx'=.ok True)->IR.run F93.t30 C N O R (F93.fr E D G H L M Q U V W zC v a b c e p i f l g w zD s z q u B A o j P Z x33 x34 x35) h nx=.ok True) :
  IR.run F93.t31 C N O K (F93.fr E D G H L M Q U V W d v a b c e p i f l g w y s z q u B A o j P Z x33 x34 x35) h nx=.ok True:=by
 rw [F93.t31];refine yE (fun m tm h nx=>∃ zC zD,tm=(F93.fr E D G H L M Q U V W zC v a b c e p i f l g w zD s z q u B A o j P Z x33 x34 x35)/\Inv m zC h nx) ?_ hm ⟨_,_,rfl,hi⟩;rintro m tm h nx R ⟨zC,zD,rfl,hi⟩ hR;exact step m zC zD h nx R hi fun m' wC wD h' nx' hlt hi'=>hR m' _ h' nx' hlt ⟨_,_,rfl,hi'⟩
theorem F93.zdf:IR.run F93.t33 C N O K (F93.fr E D G H L M Q U V W d v a b c e p i f l g w y s z q u B A o j P Z x33 x34 x35) h nx =
 zi .lss .int d (I 0) fun v1=>K (F93.fr E D G H L M Q U V W d v a b c e p i f l g w y v1 z q u B A o j P Z x33 x34 x35) h nx:=by kernel_rfl
theorem F93.v23:Arg.ev (.t (.of 23)) ⟨(F93.fr E D G H L M Q U V W d v a b c e p i f l g w y s z q u B A o j P Z x33 x34 x35),[]⟩=s:=by kernel_rfl
theorem F93.o9:IR.run F93.t36 C N O K (F93.fr E D G H L M Q U V W d v a b c e p i f l g w y s z q u B A o j P Z x33 x34 x35) h nx =
 zL 4 U d fun v1=>zE 4 v1 h fun v2=>C.fn 112 (.of 112) [v2] h nx fun v3 h4 n5=>C.fn 111 (.of 111) [U,v3] h4 n5 fun v6 h7 n8=>K (F93.fr E D G H L M Q U V W d v a b c e p i f l g w y s z q u B A o j P Z x33 x34 x35) h7 n8:=by kernel_rfl
theorem F93.zfx:IR.run F93.t37 C N O K (F93.fr E D G H L M Q U V W d v a b c e p i f l g w y s z q u B A o j P Z x33 x34 x35) h nx =
 sLen L fun v1=>K (F93.fr E D G H L M Q U V W d v a b c e p i f l g w y s L v1 (I 0) B A o j P Z x33 x34 x35) h nx:=by kernel_rfl
theorem F93.zfy:IR.run F93.t38 C N O K (F93.fr E D G H L M Q U V W d v a b c e p i f l g w y s z q u B A o j P Z x33 x34 x35) h nx =
 zi .lss .int u q fun v1=>K (F93.fr E D G H L M Q U V W d v a b c e p i f l g w y s z q u v1 A o j P Z x33 x34 x35) h nx:=by kernel_rfl
theorem F93.v27:Arg.ev (.t (.of 27)) ⟨(F93.fr E D G H L M Q U V W d v a b c e p i f l g w y s z q u B A o j P Z x33 x34 x35),[]⟩=B:=by kernel_rfl
theorem F93.zzs:IR.run F93.t40 C N O K (F93.fr E D G H L M Q U V W d v a b c e p i f l g w y s z q u B A o j P Z x33 x34 x35) h nx =
 zL 1 z u fun v1=>zH v1 h fun v2=>K (F93.fr E D G H L M Q U V W d v2 a b c e p i f l g w y s z q u B A o j P Z x33 x34 x35) h nx:=by kernel_rfl
theorem F93.znx:IR.run F93.t41 C N O K (F93.fr E D G H L M Q U V W d v a b c e p i f l g w y s z q u B A o j P Z x33 x34 x35) h nx =
 zL 4 v d fun v1=>zE 4 v1 h fun v2=>C.fn 106 (.of 106) [v,v2,U] h nx fun v3 h4 n5=>K (F93.fr E D G H L M Q U V W d v a b c e p i f l g w y s z q u B A o j P Z x33 x34 x35) h4 n5:=by kernel_rfl
theorem F93.zde:IR.run F93.t44 C N O K (F93.fr E D G H L M Q U V W d v a b c e p i f l g w y s z q u B A o j P Z x33 x34 x35) h nx =
 zi .add .int u (I 1) fun v1=>K (F93.fr E D G H L M Q U V W d v a b c e p i f l g w y s z q v1 B A o j P Z x33 x34 x35) h nx:=by kernel_rfl
theorem F93.zzt (Inv:Nat->AV->T Blk->Pa->Prop) {m:Nat} (hm:m<N) (hi:Inv m u h nx)
  (step:∀ (m:Nat) (zF zG zJ:AV) (h:T Blk) (nx:Pa) (R:Ks Prop),Inv m zG h nx->(∀ (m':Nat) (wE wF wG:AV) (h':T Blk) (nx':Pa),m'<m->Inv m' wF h' nx'->R (F93.fr E D G H L M Q U V W d wE a b c e p i f l g w y s z q wF wG A o j P Z x33 x34 x35) h' nx'=.ok True)->IR.run F93.t47 C N O R (F93.fr E D G H L M Q U V W d zF a b c e p i f l g w y s z q zG zJ A o j P Z x33 x34 x35) h nx=.ok True) :
  IR.run F93.t48 C N O K (F93.fr E D G H L M Q U V W d v a b c e p i f l g w y s z q u B A o j P Z x33 x34 x35) h nx=.ok True:=by
 rw [F93.t48];refine yE (fun m tm h nx=>∃ zF zG zJ,tm=(F93.fr E D G H L M Q U V W d zF a b c e p i f l g w y s z q zG zJ A o j P Z x33 x34 x35)/\Inv m zG h nx) ?_ hm ⟨_,_,_,rfl,hi⟩;rintro m tm h nx R ⟨zF,zG,zJ,rfl,hi⟩ hR;exact step m zF zG zJ h nx R hi fun m' wE wF wG h' nx' hlt hi'=>hR m' _ h' nx' hlt ⟨_,_,_,rfl,hi'⟩
theorem F93.zf4:IR.run F93.t51 C N O K (F93.fr E D G H L M Q U V W d v a b c e p i f l g w y s z q u B A o j P Z x33 x34 x35) h nx =
 jU 1 1 [.zf] [(0,1,U)] h nx fun v1 h2 n3=>sApp 1 24 L v1 h2 n3 fun v4 h5 n6=>jU 1 1 [(I 0)] [(0,1,d)] h5 n6 fun v7 h8 n9=>sApp 1 8 M v7 h8 n9 fun vG hB nC=>K (F93.fr E D G H v4 vG Q U V W d v a b c e p i f l g w y s z q u B A o j P Z x33 x34 x35) hB nC:=by kernel_rfl
theorem F93.zjy:IR.run F93.t61 C N O K (F93.fr E D G H L M Q U V W d v a b c e p i f l g w y s z q u B A o j P Z x33 x34 x35) h nx =
 zi .add .int Q (I 1) fun v1=>K (F93.fr E D G H L M v1 U V W d v a b c e p i f l g w y s z q u B A o j P Z x33 x34 x35) h nx:=by kernel_rfl
theorem F93.zny (Inv:Nat->AV->AV->AV->T Blk->Pa->Prop) {m:Nat} (hm:m<N) (hi:Inv m L M Q h nx)
  (step:∀ (m:Nat) (z4 z5 z6 z7 z8 z9 zC zF zK zM zO zA zB zD zP zQ zS zG zJ:AV) (h:T Blk) (nx:Pa) (R:Ks Prop),Inv m z4 z5 z6 h nx->(∀ (m':Nat) (w4 w5 w6 w7 w8 w9 wC wE wH wI wJ wA wB wD wK wL wM wF wG:AV) (h':T Blk) (nx':Pa),m'<m->Inv m' w4 w5 w6 h' nx'->R (F93.fr E D G H w4 w5 w6 w7 w8 w9 wC wE a b c e p wH wI wJ wA wB wD wK wL wM wF wG A o j P Z x33 x34 x35) h' nx'=.ok True)->IR.run F93.t63 C N O R (F93.fr E D G H z4 z5 z6 z7 z8 z9 zC zF a b c e p zK zM zO zA zB zD zP zQ zS zG zJ A o j P Z x33 x34 x35) h nx=.ok True) :
  IR.run F93.t64 C N O K (F93.fr E D G H L M Q U V W d v a b c e p i f l g w y s z q u B A o j P Z x33 x34 x35) h nx=.ok True:=by
 rw [F93.t64];refine yE (fun m tm h nx=>∃ z4 z5 z6 z7 z8 z9 zC zF zK zM zO zA zB zD zP zQ zS zG zJ,tm=(F93.fr E D G H z4 z5 z6 z7 z8 z9 zC zF a b c e p zK zM zO zA zB zD zP zQ zS zG zJ A o j P Z x33 x34 x35)/\Inv m z4 z5 z6 h nx) ?_ hm ⟨_,_,_,_,_,_,_,_,_,_,_,_,_,_,_,_,_,_,_,rfl,hi⟩;rintro m tm h nx R ⟨z4,z5,z6,z7,z8,z9,zC,zF,zK,zM,zO,zA,zB,zD,zP,zQ,zS,zG,zJ,rfl,hi⟩ hR;exact step m z4 z5 z6 z7 z8 z9 zC zF zK zM zO zA zB zD zP zQ zS zG zJ h nx R hi fun m' w4 w5 w6 w7 w8 w9 wC wE wH wI wJ wA wB wD wK wL wM wF wG h' nx' hlt hi'=>hR m' _ h' nx' hlt ⟨_,_,_,_,_,_,_,_,_,_,_,_,_,_,_,_,_,_,_,rfl,hi'⟩
theorem F93.znz:IR.run F93.t67 C N O K (F93.fr E D G H L M Q U V W d v a b c e p i f l g w y s z q u B A o j P Z x33 x34 x35) h nx =
 yV [.zf,.zf] h nx fun v1 h2 n3=>K (F93.fr E D G H L M Q U V W d v v1 b c e p i f l g w y s z q u B A o j P Z x33 x34 x35) h2 n3:=by kernel_rfl
theorem F93.zf8:IR.run F93.t68 C N O K (F93.fr E D G H L M Q U V W d v a b c e p i f l g w y s z q u B A o j P Z x33 x34 x35) h nx =
 K (F93.fr E D G H L M Q U V W d v a b c e p i f l g w y s z q u B H (I 0) j P Z x33 x34 x35) h nx:=by kernel_rfl
theorem F93.zzu:IR.run F93.t69 C N O K (F93.fr E D G H L M Q U V W d v a b c e p i f l g w y s z q u B A o j P Z x33 x34 x35) h nx =
 zi .lss .int o A fun v1=>K (F93.fr E D G H L M Q U V W d v a b c e p i f l g w y s z q u B A o v1 P Z x33 x34 x35) h nx:=by kernel_rfl
theorem F93.v30:Arg.ev (.t (.of 30)) ⟨(F93.fr E D G H L M Q U V W d v a b c e p i f l g w y s z q u B A o j P Z x33 x34 x35),[]⟩=j:=by kernel_rfl
theorem F93.znj:IR.run F93.t71 C N O K (F93.fr E D G H L M Q U V W d v a b c e p i f l g w y s z q u B A o j P Z x33 x34 x35) h nx =
 K (F93.fr E D G H L M Q U V W d v a o c e p i f l g w y s z q u B A o j P Z x33 x34 x35) h nx:=by kernel_rfl
theorem F93.zf6:IR.run F93.t72 C N O K (F93.fr E D G H L M Q U V W d v a b c e p i f l g w y s z q u B A o j P Z x33 x34 x35) h nx =
 C.fn 182 (.of 182) [M,b] h nx fun v1 h2 n3=>K (F93.fr E D G H L M Q U V W d v a b c e p i f l g w y s z q u B A o j v1 Z x33 x34 x35) h2 n3:=by kernel_rfl
theorem F93.v31:Arg.ev (.t (.of 31)) ⟨(F93.fr E D G H L M Q U V W d v a b c e p i f l g w y s z q u B A o j P Z x33 x34 x35),[]⟩=P:=by kernel_rfl
theorem F93.zj1:IR.run F93.t75 C N O K (F93.fr E D G H L M Q U V W d v a b c e p i f l g w y s z q u B A o j P Z x33 x34 x35) h nx =
 C.fn 105 (.of 105) [H] h nx fun v1 h2 n3=>K (F93.fr E D G H L M Q U V W d v a b v1 e p i f l g w y s z q u B A o j P Z x33 x34 x35) h2 n3:=by kernel_rfl
theorem F93.zzv:IR.run F93.t76 C N O K (F93.fr E D G H L M Q U V W d v a b c e p i f l g w y s z q u B A o j P Z x33 x34 x35) h nx =
 C.fn 96 (.of 96) [(I 1)] h nx fun v1 h2 n3=>zL 4 c b fun v4=>zW 4 v4 v1 h2 n3 fun v5 h6 n7=>K (F93.fr E D G H L M Q U V W d v a b c e p i f l g w y s z q u B A o j P Z x33 x34 x35) h6 n7:=by kernel_rfl
theorem F93.zzw:IR.run F93.t77 C N O K (F93.fr E D G H L M Q U V W d v a b c e p i f l g w y s z q u B A o j P Z x33 x34 x35) h nx =
 sLen M fun v1=>K (F93.fr E D G H L M Q U V W d v a b c e p i f l g w y s z q u B A o j P M v1 (I 0) x35) h nx:=by kernel_rfl
theorem F93.zzx:IR.run F93.t78 C N O K (F93.fr E D G H L M Q U V W d v a b c e p i f l g w y s z q u B A o j P Z x33 x34 x35) h nx =
 zi .lss .int x34 x33 fun v1=>K (F93.fr E D G H L M Q U V W d v a b c e p i f l g w y s z q u B A o j P Z x33 x34 v1) h nx:=by kernel_rfl
theorem F93.v35:Arg.ev (.t (.of 35)) ⟨(F93.fr E D G H L M Q U V W d v a b c e p i f l g w y s z q u B A o j P Z x33 x34 x35),[]⟩=x35:=by kernel_rfl
theorem F93.zzy:IR.run F93.t80 C N O K (F93.fr E D G H L M Q U V W d v a b c e p i f l g w y s z q u B A o j P Z x33 x34 x35) h nx =
 zL 1 Z x34 fun v1=>zH v1 h fun v2=>K (F93.fr E D G H L M Q U V W d v a b c x34 v2 i f l g w y s z q u B A o j P Z x33 x34 x35) h nx:=by kernel_rfl
theorem F93.zz0:IR.run F93.t81 C N O K (F93.fr E D G H L M Q U V W d v a b c e p i f l g w y s z q u B A o j P Z x33 x34 x35) h nx =
 zL 1 L e fun v1=>zH v1 h fun v2=>zL 4 v2 b fun v3=>zE 4 v3 h fun v4=>C.fn 107 (.of 107) [v4] h nx fun v5 h6 n7=>zL 4 c p fun v8=>zW 4 v8 v5 h6 n7 fun v9 hC nD=>K (F93.fr E D G H L M Q U V W d v a b c e p i f l g w y s z q u B A o j P Z x33 x34 x35) hC nD:=by kernel_rfl
theorem F93.zz1:IR.run F93.t84 C N O K (F93.fr E D G H L M Q U V W d v a b c e p i f l g w y s z q u B A o j P Z x33 x34 x35) h nx =
 zi .add .int x34 (I 1) fun v1=>K (F93.fr E D G H L M Q U V W d v a b c e p i f l g w y s z q u B A o j P Z x33 v1 x35) h nx:=by kernel_rfl
theorem F93.zz2 (Inv:Nat->AV->T Blk->Pa->Prop) {m:Nat} (hm:m<N) (hi:Inv m x34 h nx)
  (step:∀ (m:Nat) (zT zU zX zY:AV) (h:T Blk) (nx:Pa) (R:Ks Prop),Inv m zX h nx->(∀ (m':Nat) (wN wO wP wQ:AV) (h':T Blk) (nx':Pa),m'<m->Inv m' wP h' nx'->R (F93.fr E D G H L M Q U V W d v a b c wN wO i f l g w y s z q u B A o j P Z x33 wP wQ) h' nx'=.ok True)->IR.run F93.t87 C N O R (F93.fr E D G H L M Q U V W d v a b c zT zU i f l g w y s z q u B A o j P Z x33 zX zY) h nx=.ok True) :
  IR.run F93.t88 C N O K (F93.fr E D G H L M Q U V W d v a b c e p i f l g w y s z q u B A o j P Z x33 x34 x35) h nx=.ok True:=by
 rw [F93.t88];refine yE (fun m tm h nx=>∃ zT zU zX zY,tm=(F93.fr E D G H L M Q U V W d v a b c zT zU i f l g w y s z q u B A o j P Z x33 zX zY)/\Inv m zX h nx) ?_ hm ⟨_,_,_,_,rfl,hi⟩;rintro m tm h nx R ⟨zT,zU,zX,zY,rfl,hi⟩ hR;exact step m zT zU zX zY h nx R hi fun m' wN wO wP wQ h' nx' hlt hi'=>hR m' _ h' nx' hlt ⟨_,_,_,_,rfl,hi'⟩
theorem F93.zz3:IR.run F93.t91 C N O K (F93.fr E D G H L M Q U V W d v a b c e p i f l g w y s z q u B A o j P Z x33 x34 x35) h nx =
 zI 0 a fun v1=>zH v1 h fun v2=>sChk ((gT (bK 1 [(I 0)]) [(0,1,b)]).isSome&&true) (zI 1 a fun v3=>zH v3 h fun v4=>sChk ((gT (bK 1 [.zf]) [(0,1,c)]).isSome&&true) (jU 1 1 [(I 0)] [(0,1,b)] h nx fun v5 h6 n7=>zV c c ((zH v3 h6 fun vH=>zV vH v4 ((zI 1 a fun vI=>zV vI v3 (zV b b ((zH v1 h6 fun vJ=>zV vJ v2 ((zI 0 a fun vK=>zV vK v1 (sApp 1 8 v2 v5 h6 n7 fun v8 h9 nA=>zV c c ((zH v3 h9 fun vL=>zV vL v4 ((zI 1 a fun vM=>zV vM v3 (zV b b ((zH v1 h9 fun vN=>zV vN v2 ((zI 0 a fun vO=>zV vO v1 (zI 0 a fun vE=>jU 1 1 [.zf] [(0,1,c)] h9 nA fun vP hD nE=>(zI 0 a fun vQ=>zV vQ vE ((zH v3 hD fun vR=>zV vR v4 ((zI 1 a fun vS=>zV vS v3 (zV b b ((zH v1 hD fun vT=>zV vT v2 ((zI 0 a fun vU=>zV vU v1 (sApp 1 24 v4 vP hD nE fun vC hE nF=>(zI 0 a fun vV=>zV vV vE (zW 1 vE v8 hE nF fun vW hF nG=>zI 1 a fun vX=>zW 1 vX vC hF nG fun vY hG nH=>K (F93.fr E D G H L M Q U V W d v a b c e p i f l g w y s z q u B A o j P Z x33 x34 x35) hG nH))))))))))))))))))))))))))))))))))):=by kernel_rfl
theorem F93.zvb:IR.run F93.t98 C N O K (F93.fr E D G H L M Q U V W d v a b c e p i f l g w y s z q u B A o j P Z x33 x34 x35) h nx =
 zi .add .int o (I 1) fun v1=>K (F93.fr E D G H L M Q U V W d v a b c e p i f l g w y s z q u B A v1 j P Z x33 x34 x35) h nx:=by kernel_rfl
theorem F93.zxc (Inv:Nat->AV->T Blk->Pa->Prop) {m:Nat} (hm:m<N) (hi:Inv m o h nx)
  (step:∀ (m:Nat) (zZ z14 zT zU z29 z30 z31 z32 z33 zX zY:AV) (h:T Blk) (nx:Pa) (R:Ks Prop),Inv m z29 h nx->(∀ (m':Nat) (wR wS wN wO wT wU wV wW wX wP wQ:AV) (h':T Blk) (nx':Pa),m'<m->Inv m' wT h' nx'->R (F93.fr E D G H L M Q U V W d v a wR wS wN wO i f l g w y s z q u B A wT wU wV wW wX wP wQ) h' nx'=.ok True)->IR.run F93.t101 C N O R (F93.fr E D G H L M Q U V W d v a zZ z14 zT zU i f l g w y s z q u B A z29 z30 z31 z32 z33 zX zY) h nx=.ok True) :
  IR.run F93.t102 C N O K (F93.fr E D G H L M Q U V W d v a b c e p i f l g w y s z q u B A o j P Z x33 x34 x35) h nx=.ok True:=by
 rw [F93.t102];refine yE (fun m tm h nx=>∃ zZ z14 zT zU z29 z30 z31 z32 z33 zX zY,tm=(F93.fr E D G H L M Q U V W d v a zZ z14 zT zU i f l g w y s z q u B A z29 z30 z31 z32 z33 zX zY)/\Inv m z29 h nx) ?_ hm ⟨_,_,_,_,_,_,_,_,_,_,_,rfl,hi⟩;rintro m tm h nx R ⟨zZ,z14,zT,zU,z29,z30,z31,z32,z33,zX,zY,rfl,hi⟩ hR;exact step m zZ z14 zT zU z29 z30 z31 z32 z33 zX zY h nx R hi fun m' wR wS wN wO wT wU wV wW wX wP wQ h' nx' hlt hi'=>hR m' _ h' nx' hlt ⟨_,_,_,_,_,_,_,_,_,_,_,rfl,hi'⟩
theorem F93.zxd:IR.run F93.t105 C N O K (F93.fr E D G H L M Q U V W d v a b c e p i f l g w y s z q u B A o j P Z x33 x34 x35) h nx =
 zE 2 a h fun v1=>zW 2 G v1 h nx fun v2 h3 n4=>K (F93.fr E D G H L M Q U V W d v a b c e p i f l g w y s z q u B A o j P Z x33 x34 x35) h3 n4:=by kernel_rfl
theorem F93.go:zR tbl N C (.of 93) [a0] h nx K0=IR.run F93.t113 C N (fnO F93.res K0) (yx F93.res K0) (F93.fr a0 .u .u .u .u .u .u .u .u .u .u .u .u .u .u .u .u .u .u .u .u .u .u .u .u .u .u .u .u .u .u .u .u .u .u .u) h nx:=yZ (F:=F93) (by kernel_rfl) (fun _=>by kernel_rfl) (by kernel_rfl)
theorem F93.ret:yx F93.res K0 (F93.fr E D G H L M Q U V W d v a b c e p i f l g w y s z q u B A o j P Z x33 x34 x35) h nx=zE 2 G h fun v1=>K0 v1 h nx:=by kernel_rfl
theorem fE.jm:IR.run fE.t0 C N O K (fE.fr E D G) h nx =
 K (fE.fr E D (.bool false)) h nx:=by kernel_rfl
theorem fE.jl:IR.run fE.t1 C N O K (fE.fr E D G) h nx =
 C.fn 199 (.of 199) [E,D] h nx fun v1 h2 n3=>zi .geq .int v1 (I 0) fun v4=>K (fE.fr E D v4) h2 n3:=by kernel_rfl
theorem fE.go:zR tbl N C (.of 116) [a0,a1] h nx K0=IR.run fE.t3 C N (fnO fE.res K0) (yx fE.res K0) (fE.fr a0 a1 .u) h nx:=yZ (F:=fE) (by kernel_rfl) (fun _=>by kernel_rfl) (by kernel_rfl)
theorem fE.ret:yx fE.res K0 (fE.fr E D G) h nx=K0 G h nx:=by kernel_rfl
theorem fF.jm:IR.run fF.t0 C N O K (fF.fr E D G H) h nx =
 ql E h nx fun v1 h2 n3=>K (fF.fr E D v1 (.bool false)) h2 n3:=by kernel_rfl
theorem fF.jl:IR.run fF.t1 C N O K (fF.fr E D G H) h nx =
 zI 0 G fun v1=>zE 4 v1 h fun v2=>zE 4 D h fun v3=>zI 4 G fun v4=>zE 4 v4 h fun v5=>C.fn 119 (.of 119) [v3,v5] h nx fun v6 h7 n8=>(zE 4 v1 h7 fun vD=>zV vD v2 ((zI 0 G fun vZ=>zV vZ v1 (C.fn 118 (.of 118) [v2,v6] h7 n8 fun v9 hC nD=>aG v9 fun vP=>K (fF.fr E D G vP) hC nD)))):=by kernel_rfl
theorem fF.go:zR tbl N C (.of 117) [a0,a1] h nx K0=IR.run fF.t3 C N (fnO fF.res K0) (yx fF.res K0) (fF.fr a0 a1 .u .u) h nx:=yZ (F:=fF) (by kernel_rfl) (fun _=>by kernel_rfl) (by kernel_rfl)
theorem fF.ret:yx fF.res K0 (fF.fr E D G H) h nx=K0 H h nx:=by kernel_rfl
theorem jr.jm:IR.run jr.t0 C N O K (jr.fr E D G H L M Q U) h nx =
 K (jr.fr E D (I 0) H L M Q U) h nx:=by kernel_rfl
theorem jr.jl:IR.run jr.t1 C N O K (jr.fr E D G H L M Q U) h nx =
 sLen E fun v1=>K (jr.fr E D G H v1 (I 0) Q U) h nx:=by kernel_rfl
theorem jr.qh:IR.run jr.t2 C N O K (jr.fr E D G H L M Q U) h nx =
 zi .lss .int M L fun v1=>K (jr.fr E D G H L M v1 U) h nx:=by kernel_rfl
theorem jr.v6:Arg.ev (.t (.of 6)) ⟨(jr.fr E D G H L M Q U),[]⟩=Q:=by kernel_rfl
theorem jr.rD:IR.run jr.t4 C N O K (jr.fr E D G H L M Q U) h nx =
 K (jr.fr E D G M L M Q U) h nx:=by kernel_rfl
theorem jr.bJ:IR.run jr.t5 C N O K (jr.fr E D G H L M Q U) h nx =
 zL 8 E H fun v1=>zE 8 v1 h fun v2=>vF C D [v2] h nx fun v3 h4 n5=>K (jr.fr E D G H L M Q v3) h4 n5:=by kernel_rfl
theorem jr.mg:IR.run jr.t6 C N O K (jr.fr E D G H L M Q U) h nx =
 K (jr.fr E D H H L M Q U) h nx:=by kernel_rfl
theorem jr.v7:Arg.ev (.t (.of 7)) ⟨(jr.fr E D G H L M Q U),[]⟩=U:=by kernel_rfl
theorem jr.ng:IR.run jr.t12 C N O K (jr.fr E D G H L M Q U) h nx =
 zi .add .int M (I 1) fun v1=>K (jr.fr E D G H L v1 Q U) h nx:=by kernel_rfl
theorem jr.znt (Inv:Nat->AV->T Blk->Pa->Prop) {m:Nat} (hm:m<N) (hi:Inv m M h nx)
  (step:∀ (m:Nat) (z2 z3 z5 z6 z7:AV) (h:T Blk) (nx:Pa) (R:Ks Prop),Inv m z5 h nx->(∀ (m':Nat) (w2 w3 w5 w6 w7:AV) (h':T Blk) (nx':Pa),m'<m->Inv m' w5 h' nx'->R (jr.fr E D w2 w3 L w5 w6 w7) h' nx'=.ok True)->IR.run jr.t15 C N O R (jr.fr E D z2 z3 L z5 z6 z7) h nx=.ok True) :
  IR.run jr.t16 C N O K (jr.fr E D G H L M Q U) h nx=.ok True:=by
 rw [jr.t16];refine yE (fun m tm h nx=>∃ z2 z3 z5 z6 z7,tm=(jr.fr E D z2 z3 L z5 z6 z7)/\Inv m z5 h nx) ?_ hm ⟨_,_,_,_,_,rfl,hi⟩;rintro m tm h nx R ⟨z2,z3,z5,z6,z7,rfl,hi⟩ hR;exact step m z2 z3 z5 z6 z7 h nx R hi fun m' w2 w3 w5 w6 w7 h' nx' hlt hi'=>hR m' _ h' nx' hlt ⟨_,_,_,_,_,rfl,hi'⟩
theorem jr.sW:IR.run jr.t19 C N O K (jr.fr E D G H L M Q U) h nx =
 K (jr.fr E D (I (-1)) H L M Q U) h nx:=by kernel_rfl
theorem jr.go:zR tbl N C (.of 199) [a0,a1] h nx K0=IR.run jr.t22 C N (fnO jr.res K0) (yx jr.res K0) (jr.fr a0 a1 .u .u .u .u .u .u) h nx:=yZ (F:=jr) (by kernel_rfl) (fun _=>by kernel_rfl) (by kernel_rfl)
theorem jr.ret:yx jr.res K0 (jr.fr E D G H L M Q U) h nx=K0 G h nx:=by kernel_rfl
theorem bM.jm:IR.run bM.t0 C N O K (bM.fr E D G H) h nx =
 ql E h nx fun v1 h2 n3=>K (bM.fr E v1 (I 0) (.bool false)) h2 n3:=by kernel_rfl
theorem bM.jl:IR.run bM.t1 C N O K (bM.fr E D G H) h nx =
 zI 0 D fun v1=>zH v1 h fun v2=>zI 1 D fun v3=>zH v3 h fun v4=>zi .eql (.nil .sl) v4 .zf fun v5=>K (bM.fr E D v2 v5) h nx:=by kernel_rfl
theorem bM.go:zR tbl N C (.of 121) [a0] h nx K0=IR.run bM.t3 C N (fnO bM.res K0) (yx bM.res K0) (bM.fr a0 .u .u .u) h nx:=yZ (F:=bM) (by kernel_rfl) (fun _=>by kernel_rfl) (by kernel_rfl)
theorem bM.ret:yx bM.res K0 (bM.fr E D G H) h nx=K0 (.tup [G,H]) h nx:=by kernel_rfl
theorem F33.jm:IR.run F33.t0 C N O K (F33.fr E D G H L M Q U V W d v a b c e p i f l g w y s z q u B A o j P) h nx =
 ql E h nx fun v1 h2 n3=>K (F33.fr E v1 (I 0) (I 0) L M Q U V W d v a b c e p i f l g w y s z q u B A o j P) h2 n3:=by kernel_rfl
theorem F33.jl:IR.run F33.t1 C N O K (F33.fr E D G H L M Q U V W d v a b c e p i f l g w y s z q u B A o j P) h nx =
 zE 2 D h fun v1=>C.fn 18 (.of 18) [v1] h nx fun v2 h3 n4=>K (F33.fr E D G H v2 M Q U V W d v a b c e p i f l g w y s z q u B A o j P) h3 n4:=by kernel_rfl
theorem F33.qh:IR.run F33.t2 C N O K (F33.fr E D G H L M Q U V W d v a b c e p i f l g w y s z q u B A o j P) h nx =
 zi .neq .int L (I 0) fun v1=>K (F33.fr E D G H L M Q U V W d v a b c v1 p i f l g w y s z q u B A o j P) h nx:=by kernel_rfl
theorem F33.v15:Arg.ev (.t (.of 15)) ⟨(F33.fr E D G H L M Q U V W d v a b c e p i f l g w y s z q u B A o j P),[]⟩=e:=by kernel_rfl
theorem F33.sH:IR.run F33.t8 C N O K (F33.fr E D G H L M Q U V W d v a b c e p i f l g w y s z q u B A o j P) h nx =
 zI 1 D fun v1=>zH v1 h fun v2=>sLen v2 fun v3=>zi .eql .int v3 (I 0) fun v4=>K (F33.fr E D G H L M Q U V W d v a b c e v4 i f l g w y s z q u B A o j P) h nx:=by kernel_rfl
theorem F33.ay:IR.run F33.t9 C N O K (F33.fr E D G H L M Q U V W d v a b c e p i f l g w y s z q u B A o j P) h nx =
 K (F33.fr E D (I 0) (I 7) L M Q U V W d v a b c e p i f l g w y s z q u B A o j P) h nx:=by kernel_rfl
theorem F33.v16:Arg.ev (.t (.of 16)) ⟨(F33.fr E D G H L M Q U V W d v a b c e p i f l g w y s z q u B A o j P),[]⟩=p:=by kernel_rfl
theorem F33.fM:IR.run F33.t13 C N O K (F33.fr E D G H L M Q U V W d v a b c e p i f l g w y s z q u B A o j P) h nx =
 yV [(I 0),.zf,(I 0),.zf] h nx fun v1 h2 n3=>K (F33.fr E D G H L v1 Q U V W d v a b c e p i f l g w y s z q u B A o j P) h2 n3:=by kernel_rfl
theorem F33.nP:IR.run F33.t14 C N O K (F33.fr E D G H L M Q U V W d v a b c e p i f l g w y s z q u B A o j P) h nx =
 K (F33.fr E D G H L M (.bool false) U V W d v a b c e p i f l g w y s z q u B A o j P) h nx:=by kernel_rfl
theorem F33.sJ:IR.run F33.t15 C N O K (F33.fr E D G H L M Q U V W d v a b c e p i f l g w y s z q u B A o j P) h nx =
 K (F33.fr E D G H L M Q .zf V W d v a b c e p i f l g w y s z q u B A o j P) h nx:=by kernel_rfl
theorem F33.ru:IR.run F33.t16 C N O K (F33.fr E D G H L M Q U V W d v a b c e p i f l g w y s z q u B A o j P) h nx =
 zE 2 D h fun v1=>C.fn 93 (.of 93) [v1] h nx fun v2 h3 n4=>zf9 1 none v2 fun v5=>sLen v5 fun v6=>K (F33.fr E D G H L M Q U V W d v a b c e p v5 v6 (I 0) g w y s z q u B A o j P) h3 n4:=by kernel_rfl
theorem F33.rV:IR.run F33.t17 C N O K (F33.fr E D G H L M Q U V W d v a b c e p i f l g w y s z q u B A o j P) h nx =
 zi .lss .int l f fun v1=>K (F33.fr E D G H L M Q U V W d v a b c e p i f l v1 w y s z q u B A o j P) h nx:=by kernel_rfl
theorem F33.v20:Arg.ev (.t (.of 20)) ⟨(F33.fr E D G H L M Q U V W d v a b c e p i f l g w y s z q u B A o j P),[]⟩=g:=by kernel_rfl
theorem F33.sW:IR.run F33.t19 C N O K (F33.fr E D G H L M Q U V W d v a b c e p i f l g w y s z q u B A o j P) h nx =
 zL 1 i l fun v1=>zH v1 h fun v2=>K (F33.fr E D G H L M Q U v2 W d v a b c e p i f l g w y s z q u B A o j P) h nx:=by kernel_rfl
theorem F33.zfw:IR.run F33.t20 C N O K (F33.fr E D G H L M Q U V W d v a b c e p i f l g w y s z q u B A o j P) h nx =
 C.fn 96 (.of 96) [(I 0)] h nx fun v1 h2 n3=>C.fn 96 (.of 96) [(I 0)] h2 n3 fun v4 h5 n6=>gC [(I 0),.zf,(I 0),.zf,(I 0),.zf,(I 0),.zf] [(0,4,v1),(4,4,v4)] fun v7=>yV [(I 0),.zf,(I 0),.zf,(I 0),.zf,(I 0),.zf] h5 n6 fun v8 h9 nA=>zW 8 v8 v7 h9 nA fun vE hA nB=>K (F33.fr E D G H L M Q U V v8 d v a b c e p i f l g w y s z q u B A o j P) hA nB:=by kernel_rfl
theorem F33.sV:IR.run F33.t21 C N O K (F33.fr E D G H L M Q U V W d v a b c e p i f l g w y s z q u B A o j P) h nx =
 sLen V fun v1=>K (F33.fr E D G H L M Q U V W d v a b c e p i f l g V v1 (I 0) z q u B A o j P) h nx:=by kernel_rfl
theorem F33.aZ:IR.run F33.t22 C N O K (F33.fr E D G H L M Q U V W d v a b c e p i f l g w y s z q u B A o j P) h nx =
 zi .lss .int s y fun v1=>K (F33.fr E D G H L M Q U V W d v a b c e p i f l g w y s v1 q u B A o j P) h nx:=by kernel_rfl
theorem F33.v24:Arg.ev (.t (.of 24)) ⟨(F33.fr E D G H L M Q U V W d v a b c e p i f l g w y s z q u B A o j P),[]⟩=z:=by kernel_rfl
theorem F33.aF:IR.run F33.t24 C N O K (F33.fr E D G H L M Q U V W d v a b c e p i f l g w y s z q u B A o j P) h nx =
 zL 4 w s fun v1=>zE 4 v1 h fun v2=>yV [(I 0),.zf,(I 0),.zf] h nx fun v3 h4 n5=>zW 4 v3 v2 h4 n5 fun v6 h7 n8=>K (F33.fr E D G H L M Q U V W v3 v a b c e p i f l g w y s z q u B A o j P) h7 n8:=by kernel_rfl
theorem F33.zat:IR.run F33.t25 C N O K (F33.fr E D G H L M Q U V W d v a b c e p i f l g w y s z q u B A o j P) h nx =
 zI 0 W fun v1=>zE 4 v1 h fun v2=>zE 4 d h fun v3=>C.fn 114 (.of 114) [v2,v3] h nx fun v4 h5 n6=>zI 0 W fun v7=>zW 4 v7 v4 h5 n6 fun v8 h9 nA=>K (F33.fr E D G H L M Q U V W d v a b c e p i f l g w y s z q u B A o j P) h9 nA:=by kernel_rfl
theorem F33.aA:IR.run F33.t28 C N O K (F33.fr E D G H L M Q U V W d v a b c e p i f l g w y s z q u B A o j P) h nx =
 zi .add .int s (I 1) fun v1=>K (F33.fr E D G H L M Q U V W d v a b c e p i f l g w y v1 z q u B A o j P) h nx:=by kernel_rfl
theorem F33.zz4 (Inv:Nat->AV->T Blk->Pa->Prop) {m:Nat} (hm:m<N) (hi:Inv m s h nx)
  (step:∀ (m:Nat) (zC zP zQ:AV) (h:T Blk) (nx:Pa) (R:Ks Prop),Inv m zP h nx->(∀ (m':Nat) (wC wK wL:AV) (h':T Blk) (nx':Pa),m'<m->Inv m' wK h' nx'->R (F33.fr E D G H L M Q U V W wC v a b c e p i f l g w y wK wL q u B A o j P) h' nx'=.ok True)->IR.run F33.t31 C N O R (F33.fr E D G H L M Q U V W zC v a b c e p i f l g w y zP zQ q u B A o j P) h nx=.ok True) :
  IR.run F33.t32 C N O K (F33.fr E D G H L M Q U V W d v a b c e p i f l g w y s z q u B A o j P) h nx=.ok True:=by
 rw [F33.t32];refine yE (fun m tm h nx=>∃ zC zP zQ,tm=(F33.fr E D G H L M Q U V W zC v a b c e p i f l g w y zP zQ q u B A o j P)/\Inv m zP h nx) ?_ hm ⟨_,_,_,rfl,hi⟩;rintro m tm h nx R ⟨zC,zP,zQ,rfl,hi⟩ hR;exact step m zC zP zQ h nx R hi fun m' wC wK wL h' nx' hlt hi'=>hR m' _ h' nx' hlt ⟨_,_,_,rfl,hi'⟩
theorem F33.zna:IR.run F33.t35 C N O K (F33.fr E D G H L M Q U V W d v a b c e p i f l g w y s z q u B A o j P) h nx =
 zI 1 D fun v1=>zH v1 h fun v2=>zL 1 v2 (I 0) fun v3=>zH v3 h fun v4=>sLen v4 fun v5=>K (F33.fr E D G H L M Q U V W d v a b c e p i f l g w y s z v4 v5 (I 0) A o j P) h nx:=by kernel_rfl
theorem F33.o9:IR.run F33.t36 C N O K (F33.fr E D G H L M Q U V W d v a b c e p i f l g w y s z q u B A o j P) h nx =
 zi .lss .int B u fun v1=>K (F33.fr E D G H L M Q U V W d v a b c e p i f l g w y s z q u B v1 o j P) h nx:=by kernel_rfl
theorem F33.v28:Arg.ev (.t (.of 28)) ⟨(F33.fr E D G H L M Q U V W d v a b c e p i f l g w y s z q u B A o j P),[]⟩=A:=by kernel_rfl
theorem F33.zfy:IR.run F33.t38 C N O K (F33.fr E D G H L M Q U V W d v a b c e p i f l g w y s z q u B A o j P) h nx =
 zL 1 q B fun v1=>zH v1 h fun v2=>K (F33.fr E D G H L M Q U V W d v2 a b c e p i f l g w y s z q u B A o j P) h nx:=by kernel_rfl
theorem F33.zfz:IR.run F33.t39 C N O K (F33.fr E D G H L M Q U V W d v a b c e p i f l g w y s z q u B A o j P) h nx =
 zI 4 W fun v1=>zE 4 v1 h fun v2=>zL 4 V v fun v3=>zE 4 v3 h fun v4=>C.fn 114 (.of 114) [v2,v4] h nx fun v5 h6 n7=>zI 4 W fun v8=>zW 4 v8 v5 h6 n7 fun v9 hC nD=>K (F33.fr E D G H L M Q U V W d v a b c e p i f l g w y s z q u B A o j P) hC nD:=by kernel_rfl
theorem F33.zdd:IR.run F33.t42 C N O K (F33.fr E D G H L M Q U V W d v a b c e p i f l g w y s z q u B A o j P) h nx =
 zi .add .int B (I 1) fun v1=>K (F33.fr E D G H L M Q U V W d v a b c e p i f l g w y s z q u v1 A o j P) h nx:=by kernel_rfl
theorem F33.zz5 (Inv:Nat->AV->T Blk->Pa->Prop) {m:Nat} (hm:m<N) (hi:Inv m B h nx)
  (step:∀ (m:Nat) (zF zJ z28:AV) (h:T Blk) (nx:Pa) (R:Ks Prop),Inv m zJ h nx->(∀ (m':Nat) (wE wG wY:AV) (h':T Blk) (nx':Pa),m'<m->Inv m' wG h' nx'->R (F33.fr E D G H L M Q U V W d wE a b c e p i f l g w y s z q u wG wY o j P) h' nx'=.ok True)->IR.run F33.t45 C N O R (F33.fr E D G H L M Q U V W d zF a b c e p i f l g w y s z q u zJ z28 o j P) h nx=.ok True) :
  IR.run F33.t46 C N O K (F33.fr E D G H L M Q U V W d v a b c e p i f l g w y s z q u B A o j P) h nx=.ok True:=by
 rw [F33.t46];refine yE (fun m tm h nx=>∃ zF zJ z28,tm=(F33.fr E D G H L M Q U V W d zF a b c e p i f l g w y s z q u zJ z28 o j P)/\Inv m zJ h nx) ?_ hm ⟨_,_,_,rfl,hi⟩;rintro m tm h nx R ⟨zF,zJ,z28,rfl,hi⟩ hR;exact step m zF zJ z28 h nx R hi fun m' wE wG wY h' nx' hlt hi'=>hR m' _ h' nx' hlt ⟨_,_,_,rfl,hi'⟩
theorem F33.zf7:IR.run F33.t49 C N O K (F33.fr E D G H L M Q U V W d v a b c e p i f l g w y s z q u B A o j P) h nx =
 zI 4 W fun v1=>zE 4 v1 h fun v2=>C.fn 110 (.of 110) [v2] h nx fun v3 h4 n5=>zi .neq .int v3 (I 0) fun v6=>sG v6 true (fun k=>k Q) fun v7=>sG v6 true (fun k=>aG v7 k) fun v8=>yT v6 v8 (.bool false) fun v9=>K (F33.fr E D G H L M Q U V W d v a b c e p i f l g w y s z q u B A v9 j P) h4 n5:=by kernel_rfl
theorem F33.zf3:IR.run F33.t50 C N O K (F33.fr E D G H L M Q U V W d v a b c e p i f l g w y s z q u B A o j P) h nx =
 zI 0 W fun v1=>zE 4 v1 h fun v2=>zI 4 W fun v3=>zE 4 v3 h fun v4=>C.fn 115 (.of 115) [v2,v4] h nx fun v5 h6 n7=>zW 4 M v5 h6 n7 fun v8 h9 nA=>K (F33.fr E D G H L M (.bool true) U V W d v a b c e p i f l g w y s z q u B A o j P) h9 nA:=by kernel_rfl
theorem F33.v29:Arg.ev (.t (.of 29)) ⟨(F33.fr E D G H L M Q U V W d v a b c e p i f l g w y s z q u B A o j P),[]⟩=o:=by kernel_rfl
theorem F33.zf0:IR.run F33.t53 C N O K (F33.fr E D G H L M Q U V W d v a b c e p i f l g w y s z q u B A o j P) h nx =
 zE 8 W h fun v1=>jU 8 1 [(I 0),.zf,(I 0),.zf,(I 0),.zf,(I 0),.zf] [(0,8,v1)] h nx fun v2 h3 n4=>sApp 8 128 U v2 h3 n4 fun v5 h6 n7=>K (F33.fr E D G H L M Q v5 V W d v a b c e p i f l g w y s z q u B A o j P) h6 n7:=by kernel_rfl
theorem F33.zf5:IR.run F33.t60 C N O K (F33.fr E D G H L M Q U V W d v a b c e p i f l g w y s z q u B A o j P) h nx =
 zi .add .int l (I 1) fun v1=>K (F33.fr E D G H L M Q U V W d v a b c e p i f v1 g w y s z q u B A o j P) h nx:=by kernel_rfl
theorem F33.zny (Inv:Nat->AV->AV->AV->T Blk->Pa->Prop) {m:Nat} (hm:m<N) (hi:Inv m Q U l h nx)
  (step:∀ (m:Nat) (z6 z7 z8 z9 zC zF zO zA zB zD zP zQ zS zG zJ z28 z29:AV) (h:T Blk) (nx:Pa) (R:Ks Prop),Inv m z6 z7 zO h nx->(∀ (m':Nat) (w6 w7 w8 w9 wC wE wJ wA wB wD wK wL wM wF wG wY wT:AV) (h':T Blk) (nx':Pa),m'<m->Inv m' w6 w7 wJ h' nx'->R (F33.fr E D G H L M w6 w7 w8 w9 wC wE a b c e p i f wJ wA wB wD wK wL wM wF wG wY wT j P) h' nx'=.ok True)->IR.run F33.t63 C N O R (F33.fr E D G H L M z6 z7 z8 z9 zC zF a b c e p i f zO zA zB zD zP zQ zS zG zJ z28 z29 j P) h nx=.ok True) :
  IR.run F33.t64 C N O K (F33.fr E D G H L M Q U V W d v a b c e p i f l g w y s z q u B A o j P) h nx=.ok True:=by
 rw [F33.t64];refine yE (fun m tm h nx=>∃ z6 z7 z8 z9 zC zF zO zA zB zD zP zQ zS zG zJ z28 z29,tm=(F33.fr E D G H L M z6 z7 z8 z9 zC zF a b c e p i f zO zA zB zD zP zQ zS zG zJ z28 z29 j P)/\Inv m z6 z7 zO h nx) ?_ hm ⟨_,_,_,_,_,_,_,_,_,_,_,_,_,_,_,_,_,rfl,hi⟩;rintro m tm h nx R ⟨z6,z7,z8,z9,zC,zF,zO,zA,zB,zD,zP,zQ,zS,zG,zJ,z28,z29,rfl,hi⟩ hR;exact step m z6 z7 z8 z9 zC zF zO zA zB zD zP zQ zS zG zJ z28 z29 h nx R hi fun m' w6 w7 w8 w9 wC wE wJ wA wB wD wK wL wM wF wG wY wT h' nx' hlt hi'=>hR m' _ h' nx' hlt ⟨_,_,_,_,_,_,_,_,_,_,_,_,_,_,_,_,_,rfl,hi'⟩
theorem F33.znz:IR.run F33.t67 C N O K tm h nx=zN F33.zac C ⟨tm,[]⟩ h nx (fun tm h nx=>K tm.v h nx):=jC ..
theorem F33.zad:zN (F33.zbc r) C ⟨(F33.fr E D G H L M Q U V W d v a b c e p i f l g w y s z q u B A o j P),[]⟩ h nx Kt =
 aG Q fun v1=>sG v1 false (fun k=>zE 4 M h k) fun v2=>sGW v1 false (fun k=>C.fn 110 (.of 110) [v2] h nx k) h nx fun v3 h4 n5=>zN r C ⟨(F33.fr E D G H L M Q U V W d v a b c e p i f l g w y s z q u B A o j P),v3::v2::v1::v1::Q::[]⟩ h4 n5 Kt:=by kernel_rfl
theorem F33.sZ:zN (F33.zbd r) C ⟨(F33.fr E D G H L M Q U V W d v a b c e p i f l g w y s z q u B A o j P),s0::s1::s2::sT⟩ h nx Kt =
 sG s2 false (fun k=>zi .eql .int s0 (I 0) k) fun v1=>yT s2 (.bool true) v1 fun v2=>sG v2 false (fun k=>k U) fun v3=>sG v2 false (fun k=>k (.fn 117 (.of 117) [M])) fun v4=>sGW v2 false (fun k=>C.fn 116 (.of 116) [v3,v4] h nx k) h nx fun v5 h6 n7=>zN r C ⟨(F33.fr E D G H L M Q U V W d v a b c e p i f l g w y s z q u B A o j P),v5::v4::v3::v2::v2::v1::s0::s1::s2::sT⟩ h6 n7 Kt:=by kernel_rfl
theorem F33.rW:zN (F33.zbe []) C ⟨(F33.fr E D G H L M Q U V W d v a b c e p i f l g w y s z q u B A o j P),s0::s1::s2::s3::sT⟩ h nx Kt =
 yT s3 (.bool true) s0 fun v1=>Kt ⟨(F33.fr E D G H L M Q U V W d v a b c e p i f l g w y s z q u B A o v1 P),s0::s1::s2::s3::sT⟩ h nx:=by kernel_rfl
theorem F33.zf8:IR.run F33.t68 C N O K (F33.fr E D G H L M Q U V W d v a b c e p i f l g w y s z q u B A o j P) h nx =
 K (F33.fr E D (I 0) (I 7) L M Q U V W d v a b c e p i f l g w y s z q u B A o j P) h nx:=by kernel_rfl
theorem F33.v30:Arg.ev (.t (.of 30)) ⟨(F33.fr E D G H L M Q U V W d v a b c e p i f l g w y s z q u B A o j P),[]⟩=j:=by kernel_rfl
theorem F33.zf6:IR.run F33.t72 C N O K (F33.fr E D G H L M Q U V W d v a b c e p i f l g w y s z q u B A o j P) h nx =
 sChk (true&&true) (zI 0 D fun v1=>zH v1 h fun v2=>zI 0 D fun v3=>zH v3 h fun v4=>zi .add .int v4 (I 1) fun v5=>zi .mul .int v2 v5 fun v6=>zi .quo .int v6 (I 2) fun v7=>zE 4 M h fun v8=>C.fn 96 (.of 96) [v7] h nx fun v9 hC nD=>(zE 4 M hC fun v44=>zV v44 v8 ((zi .quo .int v6 (I 2) fun v43=>zV v43 v7 ((zi .mul .int v2 v5 fun v42=>zV v42 v6 ((zi .add .int v4 (I 1) fun v41=>zV v41 v5 ((zH v3 hC fun v40=>zV v40 v4 ((zI 0 D fun v39=>zV v39 v3 ((zH v1 hC fun vH=>zV vH v2 ((zI 0 D fun vI=>zV vI v1 (C.fn 115 (.of 115) [v9,v8] hC nD fun vP hD nE=>(zE 4 M hD fun vJ=>zV vJ v8 ((zi .quo .int v6 (I 2) fun vK=>zV vK v7 ((zi .mul .int v2 v5 fun vL=>zV vL v6 ((zi .add .int v4 (I 1) fun vM=>zV vM v5 ((zH v3 hD fun vN=>zV vN v4 ((zI 0 D fun vO=>zV vO v3 ((zH v1 hD fun vQ=>zV vQ v2 ((zI 0 D fun vR=>zV vR v1 (yV [(I 0),.zf,(I 0),.zf] hD nE fun vC hE nF=>(zE 4 M hE fun vS=>zV vS v8 ((zi .quo .int v6 (I 2) fun vT=>zV vT v7 ((zi .mul .int v2 v5 fun vU=>zV vU v6 ((zi .add .int v4 (I 1) fun vV=>zV vV v5 ((zH v3 hE fun v24=>zV v24 v4 ((zI 0 D fun v23=>zV v23 v3 ((zH v1 hE fun vY=>zV vY v2 ((zI 0 D fun vX=>zV vX v1 (zW 4 vC vP hE nF fun vW hF nG=>K (F33.fr E D G H L M Q U V W d v vC b c e p i f l g w y s z q u B A o j P) hF nG))))))))))))))))))))))))))))))))))))))))))))))))):=by kernel_rfl
theorem F33.zz6:IR.run F33.t73 C N O K (F33.fr E D G H L M Q U V W d v a b c e p i f l g w y s z q u B A o j P) h nx =
 zE 4 a h fun v1=>C.fn 120 (.of 120) [v1] h nx fun v2 h3 n4=>C.fn 121 (.of 121) [v2] h3 n4 fun v5 h6 n7=>uo 0 v5 fun v8=>uo 1 v5 fun v9=>K (F33.fr E D G H L M Q U V W d v a v8 v9 e p i f l g w y s z q u B A o j P) h6 n7:=by kernel_rfl
theorem F33.zz7:IR.run F33.t74 C N O K (F33.fr E D G H L M Q U V W d v a b c e p i f l g w y s z q u B A o j P) h nx =
 zE 4 a h fun v1=>C.fn 122 (.of 122) [v1] h nx fun v2 h3 n4=>aG v2 fun v5=>sG v5 false (fun k=>k c) fun v6=>sG v5 false (fun k=>aG v6 k) fun v7=>yT v5 (.bool true) v7 fun v8=>K (F33.fr E D G H L M Q U V W d v a b c e p i f l g w y s z q u B A o j v8) h3 n4:=by kernel_rfl
theorem F33.zj1:IR.run F33.t75 C N O K (F33.fr E D G H L M Q U V W d v a b c e p i f l g w y s z q u B A o j P) h nx =
 K (F33.fr E D (I 0) (I 21) L M Q U V W d v a b c e p i f l g w y s z q u B A o j P) h nx:=by kernel_rfl
theorem F33.v31:Arg.ev (.t (.of 31)) ⟨(F33.fr E D G H L M Q U V W d v a b c e p i f l g w y s z q u B A o j P),[]⟩=P:=by kernel_rfl
theorem F33.zz8:IR.run F33.t79 C N O K (F33.fr E D G H L M Q U V W d v a b c e p i f l g w y s z q u B A o j P) h nx =
 K (F33.fr E D b (I 0) L M Q U V W d v a b c e p i f l g w y s z q u B A o j P) h nx:=by kernel_rfl
theorem F33.go:zR tbl N C (.of 33) [a0] h nx K0=IR.run F33.t91 C N (fnO F33.res K0) (yx F33.res K0) (F33.fr a0 .u .u .u .u .u .u .u .u .u .u .u .u .u .u .u .u .u .u .u .u .u .u .u .u .u .u .u .u .u .u .u) h nx:=yZ (F:=F33) (by kernel_rfl) (fun _=>by kernel_rfl) (by kernel_rfl)
theorem F33.ret:yx F33.res K0 (F33.fr E D G H L M Q U V W d v a b c e p i f l g w y s z q u B A o j P) h nx=K0 (.tup [G,H]) h nx:=by kernel_rfl
theorem F47.tab:T.get none (.of 47) tbl=some F47:=by kernel_rfl
theorem F47.go:zR tbl N C (.of 47) [a0] h nx K0 =
 ql a0 h nx fun v1 h2 n3=>zH v1 h2 fun v4=>zH v1 h2 fun v5=>C.fn 135 (.of 135) [v4] h2 n3 fun v6 h7 n8=>(zH v1 h7 fun vS=>zV vS v5 (C.fn 136 (.of 136) [v5] h7 n8 fun v9 hC nD=>aG v9 fun vP=>C.fn 88 (.of 88) [vP,(I 14)] hC nD fun vZ hH nI=>jU 1 2 [(I 0)] [(0,1,v6),(1,1,vZ)] hH nI fun vB hI nJ=>C.fn 86 (.of 86) [vB] hI nJ fun v19 hJ nK=>zi .neq .int v19 (I 0) fun vY=>yF vY (K0 (.tup [.zf,v19]) hJ nK) (zH v1 hJ fun v23=>sLen v23 fun v24=>C.fn 137 (.of 137) [v24,(.fn 138 (.of 138) [v1])] hJ nK fun vV hK nL=>K0 (.tup [vV,(I 0)]) hK nL))):=by
 rw [yD F47.tab];kernel_rfl
theorem F46.zz9 (X8:IR) (C:Calls Prop) (N:Nat) (O:dw Prop) (K:Ks Prop) (E D G H L M Q U:AV) (h:T Blk) (nx:Pa):IR.run (F46.g7 X8) C N O K (F46.fr E D G H L M Q U) h nx =
 IR.run X8 C N (O.blk 2 K) K (F46.fr E D G H L M Q U) h nx:=by kernel_rfl
theorem F46.nY (X2:IR) (C:Calls Prop) (N:Nat) (O:dw Prop) (K:Ks Prop) (E D G H L M Q U:AV) (h:T Blk) (nx:Pa):IR.run (F46.g1 X2) C N O K (F46.fr E D G H L M Q U) h nx =
 IR.run X2 C N (O.blk 0 K) K (F46.fr E D G H L M Q U) h nx:=by kernel_rfl
theorem F46.tab:T.get none (.of 46) tbl=some F46:=by kernel_rfl
theorem F46.go:zR tbl N C (.of 46) [a0] h nx K0 =
 IR.run F46.b1 C N (fnO F46.res K0) (IR.run F46.b16 C N (fnO F46.res K0) (yx F46.res K0)) (F46.fr a0 (.bool false) (I 1) .u .u .u .u .u) h nx:=by
 rw [yD F46.tab];kernel_rfl
theorem F46.e1:IR.run F46.b3 C N ((fnO F46.res K0).blk 0 K) R (F46.fr E D G H L M Q U) h nx =
 sLen E fun v1=>zi .leq .int G v1 fun v2=>yF v2 (IR.run F46.b7 C N (((fnO F46.res K0).blk 0 K).blk 1 (IR.run F46.b15 C N ((fnO F46.res K0).blk 0 K) R)) (IR.run F46.b14 C N (((fnO F46.res K0).blk 0 K).blk 1 (IR.run F46.b15 C N ((fnO F46.res K0).blk 0 K) R)) (IR.run F46.b15 C N ((fnO F46.res K0).blk 0 K) R)) (F46.fr E D G (.bool false) (I 0) v2 Q U) h nx) (K (F46.fr E D G H L v2 Q U) h nx):=by kernel_rfl
theorem F46.L1 (Inv:Nat->AV->T Blk->Pa->Prop) {m:Nat} (hm:m<N) (hi:Inv m G h nx)
  (step:∀ (m:Nat) (z1 z2 z3 z4 z5 z6 z7:AV) (h:T Blk) (nx:Pa) (R:Ks Prop),Inv m z2 h nx->(∀ (m':Nat) (w1 w2 w3 w4 w5 w6 w7:AV) (h':T Blk) (nx':Pa),m'<m->Inv m' w2 h' nx'->R (F46.fr E w1 w2 w3 w4 w5 w6 w7) h' nx'=.ok True) ->
   (sLen E fun v1=>zi .leq .int z2 v1 fun v2=>yF v2 (IR.run F46.b7 C N (((fnO F46.res K0).blk 0 K).blk 1 (IR.run F46.b15 C N ((fnO F46.res K0).blk 0 K) R)) (IR.run F46.b14 C N (((fnO F46.res K0).blk 0 K).blk 1 (IR.run F46.b15 C N ((fnO F46.res K0).blk 0 K) R)) (IR.run F46.b15 C N ((fnO F46.res K0).blk 0 K) R)) (F46.fr E z1 z2 (.bool false) (I 0) v2 z6 z7) h nx) (K (F46.fr E z1 z2 z3 z4 v2 z6 z7) h nx))=.ok True) :
  IR.run F46.b1 C N (fnO F46.res K0) K (F46.fr E D G H L M Q U) h nx=.ok True:=by
 rw [F46.b1,F46.nY,F46.b2];refine yE (fun m tm h nx=>∃ z1 z2 z3 z4 z5 z6 z7,tm=(F46.fr E z1 z2 z3 z4 z5 z6 z7)/\Inv m z2 h nx) ?_ hm ⟨_,_,_,_,_,_,_,rfl,hi⟩;rintro m tm h nx R ⟨z1,z2,z3,z4,z5,z6,z7,rfl,hi⟩ hR;rw [F46.e1];exact step m z1 z2 z3 z4 z5 z6 z7 h nx R hi fun m' w1 w2 w3 w4 w5 w6 w7 h' nx' hlt hi'=>hR m' _ h' nx' hlt ⟨_,_,_,_,_,_,_,rfl,hi'⟩
theorem F46.k16:IR.run F46.b16 C N (fnO F46.res K0) K (F46.fr E D G H L M Q U) h nx =
 K0 (.bool true) h nx:=by kernel_rfl
theorem F46.k15 {E0:Ks Prop}:IR.run F46.b15 C N ((fnO F46.res K0).blk 0 E0) K (F46.fr E D G H L M Q U) h nx =
 zi .add .int G (I 1) fun v1=>K (F46.fr E D v1 H L M Q U) h nx:=by kernel_rfl
theorem F46.e7 {E0 E1:Ks Prop}:IR.run F46.b9 C N ((((fnO F46.res K0).blk 0 E0).blk 1 E1).blk 2 K) R (F46.fr E D G H L M Q U) h nx =
 sLen E fun v1=>zi .lss .int L v1 fun v2=>yF v2 (sG H false (fun k=>k E) fun v3=>sG H false (fun k=>k L) fun v4=>sG H false (fun k=>zL 1 v3 v4 k) fun v5=>sG H false (fun k=>zH v5 h k) fun v6=>sG H false (fun k=>k G) fun v7=>sG H false (fun k=>zi .eql .int v6 v7 k) fun v8=>yT H (.bool true) v8 fun v9=>zi .add .int L (I 1) fun vG=>R (F46.fr E D G v9 vG M v2 U) h nx) (K (F46.fr E D G H L M v2 U) h nx):=by kernel_rfl
theorem F46.L7 {E0 E1:Ks Prop} (Inv:Nat->AV->AV->T Blk->Pa->Prop) {m:Nat} (hm:m<N) (hi:Inv m H L h nx)
  (step:∀ (m:Nat) (z3 z4 z6:AV) (h:T Blk) (nx:Pa) (R:Ks Prop),Inv m z3 z4 h nx->(∀ (m':Nat) (w3 w4 w6:AV) (h':T Blk) (nx':Pa),m'<m->Inv m' w3 w4 h' nx'->R (F46.fr E D G w3 w4 M w6 U) h' nx'=.ok True) ->
   (sLen E fun v1=>zi .lss .int z4 v1 fun v2=>yF v2 (sG z3 false (fun k=>k E) fun v3=>sG z3 false (fun k=>k z4) fun v4=>sG z3 false (fun k=>zL 1 v3 v4 k) fun v5=>sG z3 false (fun k=>zH v5 h k) fun v6=>sG z3 false (fun k=>k G) fun v7=>sG z3 false (fun k=>zi .eql .int v6 v7 k) fun v8=>yT z3 (.bool true) v8 fun v9=>zi .add .int z4 (I 1) fun vG=>R (F46.fr E D G v9 vG M v2 U) h nx) (K (F46.fr E D G z3 z4 M v2 U) h nx))=.ok True) :
  IR.run F46.b7 C N (((fnO F46.res K0).blk 0 E0).blk 1 E1) K (F46.fr E D G H L M Q U) h nx=.ok True:=by
 rw [F46.b7,F46.zz9,F46.b8];refine yE (fun m tm h nx=>∃ z3 z4 z6,tm=(F46.fr E D G z3 z4 M z6 U)/\Inv m z3 z4 h nx) ?_ hm ⟨_,_,_,rfl,hi⟩;rintro m tm h nx R ⟨z3,z4,z6,rfl,hi⟩ hR;rw [F46.e7];exact step m z3 z4 z6 h nx R hi fun m' w3 w4 w6 h' nx' hlt hi'=>hR m' _ h' nx' hlt ⟨_,_,_,rfl,hi'⟩
theorem F46.k14 {E0 E1:Ks Prop}:IR.run F46.b14 C N (((fnO F46.res K0).blk 0 E0).blk 1 E1) K (F46.fr E D G H L M Q U) h nx =
 aG H fun v1=>yF v1 (K0 (.bool false) h nx) (K (F46.fr E D G H L M Q v1) h nx):=by kernel_rfl
theorem oD.tab:T.get none (.of 138) tbl=some oD:=by kernel_rfl
theorem oD.go:zR tbl N C (.of 138) [a0,a1] h nx K0 =
 zH a1 h fun v1=>sLen v1 fun v2=>zi .add .int v2 (I 1) fun v3=>zH a1 h fun v4=>zL 1 v4 a0 fun v5=>zH v5 h fun v6=>zi .sub .int v3 v6 fun v7=>K0 v7 h nx:=by
 rw [yD oD.tab];kernel_rfl
theorem wz.nY (X2:IR) (C:Calls Prop) (N:Nat) (O:dw Prop) (K:Ks Prop) (E D G H L M Q U V:AV) (h:T Blk) (nx:Pa):IR.run (wz.g1 X2) C N O K (wz.fr E D G H L M Q U V) h nx =
 IR.run X2 C N (O.blk 0 K) K (wz.fr E D G H L M Q U V) h nx:=by kernel_rfl
theorem wz.tab:T.get none (.of 136) tbl=some wz:=by kernel_rfl
theorem wz.go:zR tbl N C (.of 136) [a0] h nx K0 =
 C.fn 171 (.of 171) [a0] h nx fun v1 h2 n3=>C.fn 170 (.of 170) [v1] h2 n3 fun v4 h5 n6=>sLen v4 fun v7=>IR.run wz.b1 C N (fnO wz.res K0) (IR.run wz.b8 C N (fnO wz.res K0) (yx wz.res K0)) (wz.fr a0 (.bool false) .u .u v4 v7 (I 0) .u .u) h5 n6:=by
 rw [yD wz.tab];kernel_rfl
theorem wz.e1:IR.run wz.b3 C N ((fnO wz.res K0).blk 0 K) R (wz.fr E D G H L M Q U V) h nx =
 zi .lss .int Q M fun v1=>yF v1 (zL 1 L Q fun v2=>zH v2 h fun v3=>zi .add .int Q (I 1) fun v4=>zi .neq .int v3 v4 fun v5=>yF v5 (K0 (.bool false) h nx) (zi .add .int Q (I 1) fun v6=>R (wz.fr E D Q v3 L M v6 v1 v5) h nx)) (K (wz.fr E D G H L M Q v1 V) h nx):=by kernel_rfl
theorem wz.L1 (Inv:Nat->AV->T Blk->Pa->Prop) {m:Nat} (hm:m<N) (hi:Inv m Q h nx)
  (step:∀ (m:Nat) (z1 z2 z3 z6 z7 z8:AV) (h:T Blk) (nx:Pa) (R:Ks Prop),Inv m z6 h nx->(∀ (m':Nat) (w1 w2 w3 w6 w7 w8:AV) (h':T Blk) (nx':Pa),m'<m->Inv m' w6 h' nx'->R (wz.fr E w1 w2 w3 L M w6 w7 w8) h' nx'=.ok True) ->
   (zi .lss .int z6 M fun v1=>yF v1 (zL 1 L z6 fun v2=>zH v2 h fun v3=>zi .add .int z6 (I 1) fun v4=>zi .neq .int v3 v4 fun v5=>yF v5 (K0 (.bool false) h nx) (zi .add .int z6 (I 1) fun v6=>R (wz.fr E z1 z6 v3 L M v6 v1 v5) h nx)) (K (wz.fr E z1 z2 z3 L M z6 v1 z8) h nx))=.ok True) :
  IR.run wz.b1 C N (fnO wz.res K0) K (wz.fr E D G H L M Q U V) h nx=.ok True:=by
 rw [wz.b1,wz.nY,wz.b2];refine yE (fun m tm h nx=>∃ z1 z2 z3 z6 z7 z8,tm=(wz.fr E z1 z2 z3 L M z6 z7 z8)/\Inv m z6 h nx) ?_ hm ⟨_,_,_,_,_,_,rfl,hi⟩;rintro m tm h nx R ⟨z1,z2,z3,z6,z7,z8,rfl,hi⟩ hR;rw [wz.e1];exact step m z1 z2 z3 z6 z7 z8 h nx R hi fun m' w1 w2 w3 w6 w7 w8 h' nx' hlt hi'=>hR m' _ h' nx' hlt ⟨_,_,_,_,_,_,rfl,hi'⟩
theorem wz.k8:IR.run wz.b8 C N (fnO wz.res K0) K (wz.fr E D G H L M Q U V) h nx =
 K0 (.bool true) h nx:=by kernel_rfl
theorem oG.tab:T.get none (.of 183) tbl=some oG:=by kernel_rfl
theorem oG.go:zR tbl N C (.of 183) [a0] h nx K0 =
 C.fn 87 (.of 87) [(I (-999999999)),(I 999999999),a0] h nx fun v1 h2 n3=>K0 v1 h2 n3:=by
 rw [yD oG.tab];kernel_rfl
theorem oH.tab:T.get none (.of 135) tbl=some oH:=by kernel_rfl
theorem oH.go:zR tbl N C (.of 135) [a0] h nx K0 =
 sLen a0 fun v1=>zi .eql .int v1 (I 0) fun v2=>C.fn 88 (.of 88) [v2,(I 12)] h nx fun v3 h4 n5=>sLen a0 fun v6=>zi .gtr .int v6 (I 256) fun v7=>C.fn 88 (.of 88) [v7,(I 5)] h4 n5 fun v8 h9 nA=>C.fn 183 (.of 183) [a0] h9 nA fun vE hA nB=>jU 1 3 [(I 0)] [(0,1,v3),(1,1,v8),(2,1,vE)] hA nB fun vD hL nM=>C.fn 86 (.of 86) [vD] hL nM fun vA hM nN=>K0 vA hM nN:=by
 rw [yD oH.tab];kernel_rfl
theorem xg.nY (X2:IR) (C:Calls Prop) (N:Nat) (O:dw Prop) (K:Ks Prop) (E D G H L M Q U:AV) (h:T Blk) (nx:Pa):IR.run (xg.g1 X2) C N O K (xg.fr E D G H L M Q U) h nx =
 IR.run X2 C N (O.blk 0 K) K (xg.fr E D G H L M Q U) h nx:=by kernel_rfl
theorem xg.tab:T.get none (.of 137) tbl=some xg:=by kernel_rfl
theorem xg.go:zR tbl N C (.of 137) [a0,a1] h nx K0 =
 uD 1 8 [(I 0)] a0 a0 h nx fun v1 h2 n3=>sLen v1 fun v4=>IR.run xg.b1 C N (fnO xg.res K0) (IR.run xg.b8 C N (fnO xg.res K0) (yx xg.res K0)) (xg.fr a0 a1 .zf v1 .u v4 (I 0) .u) h2 n3:=by
 rw [yD xg.tab];kernel_rfl
theorem xg.e1:IR.run xg.b3 C N ((fnO xg.res K0).blk 0 K) R (xg.fr E D G H L M Q U) h nx =
 zi .lss .int Q M fun v1=>yF v1 (vF C D [Q] h nx fun v2 h3 n4=>zL 1 H Q fun v5=>zW 1 v5 v2 h3 n4 fun v6 h7 n8=>zi .add .int Q (I 1) fun v9=>R (xg.fr E D G H Q M v9 v1) h7 n8) (K (xg.fr E D G H L M Q v1) h nx):=by kernel_rfl
theorem xg.L1 (Inv:Nat->AV->T Blk->Pa->Prop) {m:Nat} (hm:m<N) (hi:Inv m Q h nx)
  (step:∀ (m:Nat) (z4 z6 z7:AV) (h:T Blk) (nx:Pa) (R:Ks Prop),Inv m z6 h nx->(∀ (m':Nat) (w4 w6 w7:AV) (h':T Blk) (nx':Pa),m'<m->Inv m' w6 h' nx'->R (xg.fr E D G H w4 M w6 w7) h' nx'=.ok True) ->
   (zi .lss .int z6 M fun v1=>yF v1 (vF C D [z6] h nx fun v2 h3 n4=>zL 1 H z6 fun v5=>zW 1 v5 v2 h3 n4 fun v6 h7 n8=>zi .add .int z6 (I 1) fun v9=>R (xg.fr E D G H z6 M v9 v1) h7 n8) (K (xg.fr E D G H z4 M z6 v1) h nx))=.ok True) :
  IR.run xg.b1 C N (fnO xg.res K0) K (xg.fr E D G H L M Q U) h nx=.ok True:=by
 rw [xg.b1,xg.nY,xg.b2];refine yE (fun m tm h nx=>∃ z4 z6 z7,tm=(xg.fr E D G H z4 M z6 z7)/\Inv m z6 h nx) ?_ hm ⟨_,_,_,rfl,hi⟩;rintro m tm h nx R ⟨z4,z6,z7,rfl,hi⟩ hR;rw [xg.e1];exact step m z4 z6 z7 h nx R hi fun m' w4 w6 w7 h' nx' hlt hi'=>hR m' _ h' nx' hlt ⟨_,_,_,rfl,hi'⟩
theorem xg.k8:IR.run xg.b8 C N (fnO xg.res K0) K (xg.fr E D G H L M Q U) h nx =
 K0 H h nx:=by kernel_rfl
theorem F48.tab:T.get none (.of 48) tbl=some F48:=by kernel_rfl
theorem F48.go:zR tbl N C (.of 48) [a0,a1] h nx K0 =
 ql a0 h nx fun v1 h2 n3=>zE 2 v1 h2 fun v4=>C.fn 94 (.of 94) [v4,a1] h2 n3 fun v5 h6 n7=>zi .neq .int v5 (I 0) fun v8=>yF v8 (K0 (.tup [.zf,v5]) h6 n7) (zE 2 v1 h6 fun v9=>C.fn 139 (.of 139) [v9,a1] h6 n7 fun vG hB nC=>K0 (.tup [vG,(I 0)]) hB nC):=by
 rw [yD F48.tab];kernel_rfl
theorem F43.tab:T.get none (.of 43) tbl=some F43:=by kernel_rfl
theorem F43.go:zR tbl N C (.of 43) [a0,a1] h nx K0 =
 ql a0 h nx fun v1 h2 n3=>zE 2 v1 h2 fun v4=>C.fn 94 (.of 94) [v4,a1] h2 n3 fun v5 h6 n7=>zi .neq .int v5 (I 0) fun v8=>yF v8 (K0 (.tup [(.bool false),v5]) h6 n7) (zE 2 v1 h6 fun v9=>C.fn 95 (.of 95) [v9,a1] h6 n7 fun vG hB nC=>zi .lss .int vG (I 0) fun vZ=>K0 (.tup [vZ,(I 0)]) hB nC):=by
 rw [yD F43.tab];kernel_rfl
theorem xh.nY (X2:IR) (C:Calls Prop) (N:Nat) (O:dw Prop) (K:Ks Prop) (E D G H L M Q U V W:AV) (h:T Blk) (nx:Pa):IR.run (xh.g1 X2) C N O K (xh.fr E D G H L M Q U V W) h nx =
 IR.run X2 C N (O.blk 0 K) K (xh.fr E D G H L M Q U V W) h nx:=by kernel_rfl
theorem xh.tab:T.get none (.of 139) tbl=some xh:=by kernel_rfl
theorem xh.go:zR tbl N C (.of 139) [a0,a1] h nx K0 =
 ql a0 h nx fun v1 h2 n3=>zI 1 v1 fun v4=>zH v4 h2 fun v5=>sLen v5 fun v6=>IR.run xh.b1 C N (fnO xh.res K0) (IR.run xh.b8 C N (fnO xh.res K0) (yx xh.res K0)) (xh.fr a0 a1 v1 .zf .zf .u v5 v6 (I 0) .u) h2 n3:=by
 rw [yD xh.tab];kernel_rfl
theorem xh.e1:IR.run xh.b3 C N ((fnO xh.res K0).blk 0 K) R (xh.fr E D G H L M Q U V W) h nx =
 zi .lss .int V U fun v1=>yF v1 (zL 1 Q V fun v2=>zH v2 h fun v3=>C.fn 219 (.of 219) [v3,D] h nx fun v4 h5 n6=>jU 1 1 [(I 0)] [(0,1,v4)] h5 n6 fun v7 h8 n9=>sApp 1 8 L v7 h8 n9 fun vG hB nC=>zi .add .int V (I 1) fun vZ=>R (xh.fr E D G H vG v3 Q U vZ v1) hB nC) (K (xh.fr E D G H L M Q U V v1) h nx):=by kernel_rfl
theorem xh.L1 (Inv:Nat->AV->AV->T Blk->Pa->Prop) {m:Nat} (hm:m<N) (hi:Inv m L V h nx)
  (step:∀ (m:Nat) (z4 z5 z8 z9:AV) (h:T Blk) (nx:Pa) (R:Ks Prop),Inv m z4 z8 h nx->(∀ (m':Nat) (w4 w5 w8 w9:AV) (h':T Blk) (nx':Pa),m'<m->Inv m' w4 w8 h' nx'->R (xh.fr E D G H w4 w5 Q U w8 w9) h' nx'=.ok True) ->
   (zi .lss .int z8 U fun v1=>yF v1 (zL 1 Q z8 fun v2=>zH v2 h fun v3=>C.fn 219 (.of 219) [v3,D] h nx fun v4 h5 n6=>jU 1 1 [(I 0)] [(0,1,v4)] h5 n6 fun v7 h8 n9=>sApp 1 8 z4 v7 h8 n9 fun vG hB nC=>zi .add .int z8 (I 1) fun vZ=>R (xh.fr E D G H vG v3 Q U vZ v1) hB nC) (K (xh.fr E D G H z4 z5 Q U z8 v1) h nx))=.ok True) :
  IR.run xh.b1 C N (fnO xh.res K0) K (xh.fr E D G H L M Q U V W) h nx=.ok True:=by
 rw [xh.b1,xh.nY,xh.b2];refine yE (fun m tm h nx=>∃ z4 z5 z8 z9,tm=(xh.fr E D G H z4 z5 Q U z8 z9)/\Inv m z4 z8 h nx) ?_ hm ⟨_,_,_,_,rfl,hi⟩;rintro m tm h nx R ⟨z4,z5,z8,z9,rfl,hi⟩ hR;rw [xh.e1];exact step m z4 z5 z8 z9 h nx R hi fun m' w4 w5 w8 w9 h' nx' hlt hi'=>hR m' _ h' nx' hlt ⟨_,_,_,_,rfl,hi'⟩
theorem xh.k8:IR.run xh.b8 C N (fnO xh.res K0) K (xh.fr E D G H L M Q U V W) h nx =
 K0 L h nx:=by kernel_rfl
theorem F95.tab:T.get none (.of 95) tbl=some F95:=by kernel_rfl
theorem F95.go:zR tbl N C (.of 95) [a0,a1] h nx K0 =
 ql a0 h nx fun v1 h2 n3=>zE 2 v1 h2 fun v4=>C.fn 139 (.of 139) [v4,a1] h2 n3 fun v5 h6 n7=>yV [.zf] h6 n7 fun v8 h9 nA=>zW 1 v8 v5 h9 nA fun vE hA nB=>zH v8 hA fun vD=>C.fn 184 (.of 184) [vD,(.fn 185 (.of 185) [v8])] hA nB fun vC hE nF=>K0 vC hE nF:=by
 rw [yD F95.tab];kernel_rfl
theorem oI.tab:T.get none (.of 185) tbl=some oI:=by kernel_rfl
theorem oI.go:zR tbl N C (.of 185) [a0,a1] h nx K0 =
 zH a1 h fun v1=>zL 1 v1 (I 0) fun v2=>zH v2 h fun v3=>zi .neq .int a0 v3 fun v4=>K0 v4 h nx:=by
 rw [yD oI.tab];kernel_rfl
theorem F94.tab:T.get none (.of 94) tbl=some F94:=by kernel_rfl
theorem F94.go:zR tbl N C (.of 94) [a0,a1] h nx K0 =
 ql a0 h nx fun v1 h2 n3=>zE 2 v1 h2 fun v4=>sLen a1 fun v5=>zI 0 v1 fun v6=>zH v6 h2 fun v7=>zi .neq .int v5 v7 fun v8=>C.fn 18 (.of 18) [v4] h2 n3 fun v9 hC nD=>zV a1 a1 ((zi .neq .int v5 v7 fun vT=>zV vT v8 ((zH v6 hC fun vU=>zV vU v7 ((zI 0 v1 fun vV=>zV vV v6 ((sLen a1 fun v24=>zV v24 v5 (zV a1 a1 (C.fn 88 (.of 88) [v8,(I 2)] hC nD fun vP hD nE=>zV a1 a1 (C.fn 183 (.of 183) [a1] hD nE fun vC hE nF=>jU 1 3 [(I 0)] [(0,1,v9),(1,1,vP),(2,1,vC)] hE nF fun vW hF nG=>C.fn 86 (.of 86) [vW] hF nG fun vX hN nO=>K0 vX hN nO))))))))))):=by
 rw [yD F94.tab];kernel_rfl
theorem xk.nY (X2:IR) (C:Calls Prop) (N:Nat) (O:dw Prop) (K:Ks Prop) (E D G H L M Q U V:AV) (h:T Blk) (nx:Pa):IR.run (xk.g1 X2) C N O K (xk.fr E D G H L M Q U V) h nx =
 IR.run X2 C N (O.blk 0 K) K (xk.fr E D G H L M Q U V) h nx:=by kernel_rfl
theorem xk.tab:T.get none (.of 219) tbl=some xk:=by kernel_rfl
theorem xk.go:zR tbl N C (.of 219) [a0,a1] h nx K0 =
 sLen a0 fun v1=>IR.run xk.b1 C N (fnO xk.res K0) (IR.run xk.b8 C N (fnO xk.res K0) (yx xk.res K0)) (xk.fr a0 a1 (I 0) (I 0) .u a0 v1 (I 0) .u) h nx:=by
 rw [yD xk.tab];kernel_rfl
theorem xk.e1:IR.run xk.b3 C N ((fnO xk.res K0).blk 0 K) R (xk.fr E D G H L M Q U V) h nx =
 zi .lss .int U Q fun v1=>yF v1 (zL 1 M U fun v2=>zH v2 h fun v3=>zL 1 D v3 fun v4=>zH v4 h fun v5=>zi .add .int H v5 fun v6=>zi .add .int U (I 1) fun v7=>R (xk.fr E D G v6 v3 M Q v7 v1) h nx) (K (xk.fr E D G H L M Q U v1) h nx):=by kernel_rfl
theorem xk.L1 (Inv:Nat->AV->AV->T Blk->Pa->Prop) {m:Nat} (hm:m<N) (hi:Inv m H U h nx)
  (step:∀ (m:Nat) (z3 z4 z7 z8:AV) (h:T Blk) (nx:Pa) (R:Ks Prop),Inv m z3 z7 h nx->(∀ (m':Nat) (w3 w4 w7 w8:AV) (h':T Blk) (nx':Pa),m'<m->Inv m' w3 w7 h' nx'->R (xk.fr E D G w3 w4 M Q w7 w8) h' nx'=.ok True) ->
   (zi .lss .int z7 Q fun v1=>yF v1 (zL 1 M z7 fun v2=>zH v2 h fun v3=>zL 1 D v3 fun v4=>zH v4 h fun v5=>zi .add .int z3 v5 fun v6=>zi .add .int z7 (I 1) fun v7=>R (xk.fr E D G v6 v3 M Q v7 v1) h nx) (K (xk.fr E D G z3 z4 M Q z7 v1) h nx))=.ok True) :
  IR.run xk.b1 C N (fnO xk.res K0) K (xk.fr E D G H L M Q U V) h nx=.ok True:=by
 rw [xk.b1,xk.nY,xk.b2];refine yE (fun m tm h nx=>∃ z3 z4 z7 z8,tm=(xk.fr E D G z3 z4 M Q z7 z8)/\Inv m z3 z7 h nx) ?_ hm ⟨_,_,_,_,rfl,hi⟩;rintro m tm h nx R ⟨z3,z4,z7,z8,rfl,hi⟩ hR;rw [xk.e1];exact step m z3 z4 z7 z8 h nx R hi fun m' w3 w4 w7 w8 h' nx' hlt hi'=>hR m' _ h' nx' hlt ⟨_,_,_,_,rfl,hi'⟩
theorem xk.k8:IR.run xk.b8 C N (fnO xk.res K0) K (xk.fr E D G H L M Q U V) h nx =
 K0 H h nx:=by kernel_rfl
theorem F9.jm:IR.run F9.t0 C N O K (F9.fr E D G H L M Q U V W d v a b c e p i f l g w y s z q u B A o j) h nx =
 ql E h nx fun v1 h2 n3=>K (F9.fr E D v1 (.bool false) L M Q U V W d v a b c e p i f l g w y s z q u B A o j) h2 n3:=by kernel_rfl
theorem F9.jl:IR.run F9.t1 C N O K tm h nx=zN F9.eF C ⟨tm,[]⟩ h nx (fun tm h nx=>K tm.v h nx):=jC ..
theorem F9.eG:zN (F9.aH r) C ⟨(F9.fr E D G H L M Q U V W d v a b c e p i f l g w y s z q u B A o j),[]⟩ h nx Kt =
 zE 2 G h fun v1=>C.fn 35 (.of 35) [v1,(I 16),(I 12)] h nx fun v2 h3 n4=>zN r C ⟨(F9.fr E D G H L M Q U V W d v a b c e p i f l g w y s z q u B A o j),v2::v1::[]⟩ h3 n4 Kt:=by kernel_rfl
theorem F9.tu:zN (F9.aI r) C ⟨(F9.fr E D G H L M Q U V W d v a b c e p i f l g w y s z q u B A o j),s0::sT⟩ h nx Kt =
 aG s0 fun v1=>sG v1 false (fun k=>k D) fun v2=>sG v1 false (fun k=>sLen v2 k) fun v3=>sG v1 false (fun k=>zI 0 G k) fun v4=>sG v1 false (fun k=>zH v4 h k) fun v5=>sG v1 false (fun k=>zi .neq .int v3 v5 k) fun v6=>yT v1 (.bool true) v6 fun v7=>zN r C ⟨(F9.fr E D G H L M Q U V W d v a b c e p i f l g w y s z q u B A o j),v7::v6::v5::v4::v3::v2::v1::v1::s0::sT⟩ h nx Kt:=by kernel_rfl
theorem F9.zbf:zN (F9.zga r) C ⟨(F9.fr E D G H L M Q U V W d v a b c e p i f l g w y s z q u B A o j),s0::sT⟩ h nx Kt =
 sG s0 false (fun k=>k D) fun v1=>sGW s0 false (fun k=>C.fn 46 (.of 46) [v1] h nx k) h nx fun v2 h3 n4=>zN r C ⟨(F9.fr E D G H L M Q U V W d v a b c e p i f l g w y s z q u B A o j),v2::v1::s0::s0::sT⟩ h3 n4 Kt:=by kernel_rfl
theorem F9.oJ:zN (F9.zgb []) C ⟨(F9.fr E D G H L M Q U V W d v a b c e p i f l g w y s z q u B A o j),s0::s1::s2::sT⟩ h nx Kt =
 sG s2 false (fun k=>aG s0 k) fun v1=>yT s2 (.bool true) v1 fun v2=>Kt ⟨(F9.fr E D G H L M Q U V W d v a b c e p i f l g v2 y s z q u B A o j),v1::s0::s1::s2::sT⟩ h nx:=by kernel_rfl
theorem F9.qh:IR.run F9.t2 C N O K (F9.fr E D G H L M Q U V W d v a b c e p i f l g w y s z q u B A o j) h nx =
 C.fn 17 (.of 17) [] h nx fun v1 h2 n3=>K (F9.fr E D G v1 L M Q U V W d v a b c e p i f l g w y s z q u B A o j) h2 n3:=by kernel_rfl
theorem F9.v21:Arg.ev (.t (.of 21)) ⟨(F9.fr E D G H L M Q U V W d v a b c e p i f l g w y s z q u B A o j),[]⟩=w:=by kernel_rfl
theorem F9.mg:IR.run F9.t6 C N O K (F9.fr E D G H L M Q U V W d v a b c e p i f l g w y s z q u B A o j) h nx =
 C.fn 47 (.of 47) [D] h nx fun v1 h2 n3=>uo 0 v1 fun v4=>uo 1 v1 fun v5=>K (F9.fr E D G H v4 v5 Q U V W d v a b c e p i f l g w y s z q u B A o j) h2 n3:=by kernel_rfl
theorem F9.rq:IR.run F9.t7 C N O K tm h nx=zN F9.r4_0 C ⟨tm,[]⟩ h nx (fun tm h nx=>K tm.v h nx):=jC ..
theorem F9.zxe:zN (F9.zvc r) C ⟨(F9.fr E D G H L M Q U V W d v a b c e p i f l g w y s z q u B A o j),[]⟩ h nx Kt =
 zi .neq .int M (I 0) fun v1=>sG v1 false (fun k=>k L) fun v2=>sG v1 false (fun k=>sLen v2 k) fun v3=>sG v1 false (fun k=>k D) fun v4=>sG v1 false (fun k=>sLen v4 k) fun v5=>sG v1 false (fun k=>zi .neq .int v3 v5 k) fun v6=>zN r C ⟨(F9.fr E D G H L M Q U V W d v a b c e p i f l g w y s z q u B A o j),v6::v5::v4::v3::v2::v1::v1::M::[]⟩ h nx Kt:=by kernel_rfl
theorem F9.zxf:zN (F9.zvd r) C ⟨(F9.fr E D G H L M Q U V W d v a b c e p i f l g w y s z q u B A o j),s0::s1::s2::s3::s4::s5::sT⟩ h nx Kt =
 yT s5 (.bool true) s0 fun v1=>sG v1 false (fun k=>k L) fun v2=>sGW v1 false (fun k=>C.fn 46 (.of 46) [v2] h nx k) h nx fun v3 h4 n5=>zN r C ⟨(F9.fr E D G H L M Q U V W d v a b c e p i f l g w y s z q u B A o j),v3::v2::v1::v1::s0::s1::s2::s3::s4::s5::sT⟩ h4 n5 Kt:=by kernel_rfl
theorem F9.zxg:zN (F9.zve []) C ⟨(F9.fr E D G H L M Q U V W d v a b c e p i f l g w y s z q u B A o j),s0::s1::s2::sT⟩ h nx Kt =
 sG s2 false (fun k=>aG s0 k) fun v1=>yT s2 (.bool true) v1 fun v2=>Kt ⟨(F9.fr E D G H L M Q U V W d v a b c e p i f l g w v2 s z q u B A o j),v1::s0::s1::s2::sT⟩ h nx:=by kernel_rfl
theorem F9.v22:Arg.ev (.t (.of 22)) ⟨(F9.fr E D G H L M Q U V W d v a b c e p i f l g w y s z q u B A o j),[]⟩=y:=by kernel_rfl
theorem F9.ng:IR.run F9.t12 C N O K (F9.fr E D G H L M Q U V W d v a b c e p i f l g w y s z q u B A o j) h nx =
 C.fn 47 (.of 47) [L] h nx fun v1 h2 n3=>uo 0 v1 fun v4=>uo 1 v1 fun v5=>K (F9.fr E D G H L M v4 v5 V W d v a b c e p i f l g w y s z q u B A o j) h2 n3:=by kernel_rfl
theorem F9.fM:IR.run F9.t13 C N O K (F9.fr E D G H L M Q U V W d v a b c e p i f l g w y s z q u B A o j) h nx =
 zE 2 G h fun v1=>C.fn 48 (.of 48) [v1,D] h nx fun v2 h3 n4=>uo 0 v2 fun v5=>uo 1 v2 fun v6=>K (F9.fr E D G H L M Q U v5 v6 d v a b c e p i f l g w y s z q u B A o j) h3 n4:=by kernel_rfl
theorem F9.nP:IR.run F9.t14 C N O K (F9.fr E D G H L M Q U V W d v a b c e p i f l g w y s z q u B A o j) h nx =
 zE 2 G h fun v1=>C.fn 48 (.of 48) [v1,L] h nx fun v2 h3 n4=>uo 0 v2 fun v5=>uo 1 v2 fun v6=>K (F9.fr E D G H L M Q U V W v5 v6 a b c e p i f l g w y s z q u B A o j) h3 n4:=by kernel_rfl
theorem F9.sJ:IR.run F9.t15 C N O K tm h nx=zN F9.r9_0 C ⟨tm,[]⟩ h nx (fun tm h nx=>K tm.v h nx):=jC ..
theorem F9.zaj:zN (F9.zao r) C ⟨(F9.fr E D G H L M Q U V W d v a b c e p i f l g w y s z q u B A o j),[]⟩ h nx Kt =
 zi .add .int U W fun v1=>zi .add .int v1 v fun v2=>zi .neq .int v2 (I 0) fun v3=>sG v3 false (fun k=>k Q) fun v4=>zN r C ⟨(F9.fr E D G H L M Q U V W d v a b c e p i f l g w y s z q u B A o j),v4::v3::v3::v2::v::v1::W::U::[]⟩ h nx Kt:=by kernel_rfl
theorem F9.aB:zN (F9.zaq r) C ⟨(F9.fr E D G H L M Q U V W d v a b c e p i f l g w y s z q u B A o j),s0::s1::sT⟩ h nx Kt =
 sG s1 false (fun k=>k D) fun v1=>sGW s1 false (fun k=>C.fn 49 (.of 49) [s0,v1] h nx k) h nx fun v2 h3 n4=>zN r C ⟨(F9.fr E D G H L M Q U V W d v a b c e p i f l g w y s z q u B A o j),v2::v1::s0::s1::sT⟩ h3 n4 Kt:=by kernel_rfl
theorem F9.aC:zN (F9.zar r) C ⟨(F9.fr E D G H L M Q U V W d v a b c e p i f l g w y s z q u B A o j),s0::s1::s2::s3::sT⟩ h nx Kt =
 sG s3 false (fun k=>aG s0 k) fun v1=>yT s3 (.bool true) v1 fun v2=>sG v2 false (fun k=>k V) fun v3=>sG v2 false (fun k=>sLen v3 k) fun v4=>sG v2 false (fun k=>zI 1 G k) fun v5=>sG v2 false (fun k=>zH v5 h k) fun v6=>sG v2 false (fun k=>sLen v6 k) fun v7=>zN r C ⟨(F9.fr E D G H L M Q U V W d v a b c e p i f l g w y s z q u B A o j),v7::v6::v5::v4::v3::v2::v2::v1::s0::s1::s2::s3::sT⟩ h nx Kt:=by kernel_rfl
theorem F9.zeh:zN (F9.zfu r) C ⟨(F9.fr E D G H L M Q U V W d v a b c e p i f l g w y s z q u B A o j),s0::s1::s2::s3::s4::s5::sT⟩ h nx Kt =
 sG s5 false (fun k=>zi .neq .int s3 s0 k) fun v1=>yT s5 (.bool true) v1 fun v2=>sG v2 false (fun k=>k d) fun v3=>sG v2 false (fun k=>sLen v3 k) fun v4=>sG v2 false (fun k=>zI 1 G k) fun v5=>sG v2 false (fun k=>zH v5 h k) fun v6=>sG v2 false (fun k=>sLen v6 k) fun v7=>zN r C ⟨(F9.fr E D G H L M Q U V W d v a b c e p i f l g w y s z q u B A o j),v7::v6::v5::v4::v3::v2::v2::v1::s0::s1::s2::s3::s4::s5::sT⟩ h nx Kt:=by kernel_rfl
theorem F9.zxh:zN (F9.zvf []) C ⟨(F9.fr E D G H L M Q U V W d v a b c e p i f l g w y s z q u B A o j),s0::s1::s2::s3::s4::s5::sT⟩ h nx Kt =
 sG s5 false (fun k=>zi .neq .int s3 s0 k) fun v1=>yT s5 (.bool true) v1 fun v2=>Kt ⟨(F9.fr E D G H L M Q U V W d v a b c e p i f l g w y v2 z q u B A o j),v1::s0::s1::s2::s3::s4::s5::sT⟩ h nx:=by kernel_rfl
theorem F9.v23:Arg.ev (.t (.of 23)) ⟨(F9.fr E D G H L M Q U V W d v a b c e p i f l g w y s z q u B A o j),[]⟩=s:=by kernel_rfl
theorem F9.zfw:IR.run F9.t20 C N O K (F9.fr E D G H L M Q U V W d v a b c e p i f l g w y s z q u B A o j) h nx =
 K (F9.fr E D G H L M Q U V W d v (.bool true) b c e p i f l g w y s z q u B A o j) h nx:=by kernel_rfl
theorem F9.sV:IR.run F9.t21 C N O K (F9.fr E D G H L M Q U V W d v a b c e p i f l g w y s z q u B A o j) h nx =
 zI 1 G fun v1=>zH v1 h fun v2=>sLen v2 fun v3=>K (F9.fr E D G H L M Q U V W d v a b c e p i f l g w y s v2 v3 (I 0) B A o j) h nx:=by kernel_rfl
theorem F9.aZ:IR.run F9.t22 C N O K (F9.fr E D G H L M Q U V W d v a b c e p i f l g w y s z q u B A o j) h nx =
 zi .lss .int u q fun v1=>K (F9.fr E D G H L M Q U V W d v a b c e p i f l g w y s z q u v1 A o j) h nx:=by kernel_rfl
theorem F9.v27:Arg.ev (.t (.of 27)) ⟨(F9.fr E D G H L M Q U V W d v a b c e p i f l g w y s z q u B A o j),[]⟩=B:=by kernel_rfl
theorem F9.aF:IR.run F9.t24 C N O K (F9.fr E D G H L M Q U V W d v a b c e p i f l g w y s z q u B A o j) h nx =
 zL 1 z u fun v1=>zH v1 h fun v2=>K (F9.fr E D G H L M Q U V W d v a u v2 e p i f l g w y s z q u B A o j) h nx:=by kernel_rfl
theorem F9.zat:IR.run F9.t25 C N O K tm h nx=zN F9.zn0 C ⟨tm,[]⟩ h nx (fun tm h nx=>K tm.v h nx):=xP ..
theorem F9.zsl:zN (F9.zn1 r) C ⟨(F9.fr E D G H L M Q U V W d v a b c e p i f l g w y s z q u B A o j),[]⟩ h nx Kt =
 zL 1 V b fun v1=>zH v1 h fun v2=>zL 1 d b fun v3=>zH v3 h fun v4=>zN r C ⟨(F9.fr E D G H L M Q U V W d v a b c e p i f l g w y s z q u B A o j),v4::v3::b::d::v2::v1::b::V::[]⟩ h nx Kt:=by kernel_rfl
theorem F9.zsm:zN (F9.zn2 []) C ⟨(F9.fr E D G H L M Q U V W d v a b c e p i f l g w y s z q u B A o j),s0::s1::s2::s3::s4::sT⟩ h nx Kt =
 zi .add .int s4 s0 fun v1=>sLen c fun v2=>zI 0 G fun v3=>zH v3 h fun v4=>zi .add .int v4 (I 1) fun v5=>zi .mul .int v2 v5 fun v6=>zi .neq .int v1 v6 fun v7=>Kt ⟨(F9.fr E D G H L M Q U V W d v a b c e p i f l g w y s z q u B v7 o j),v6::v5::v4::v3::v2::c::v1::s0::s1::s2::s3::s4::sT⟩ h nx:=by kernel_rfl
theorem F9.v28:Arg.ev (.t (.of 28)) ⟨(F9.fr E D G H L M Q U V W d v a b c e p i f l g w y s z q u B A o j),[]⟩=A:=by kernel_rfl
theorem F9.znl:IR.run F9.t30 C N O K tm h nx=zN F9.za6 C ⟨tm,[]⟩ h nx (fun tm h nx=>K tm.v h nx):=jC ..
theorem F9.zej:zN (F9.za7 r) C ⟨(F9.fr E D G H L M Q U V W d v a b c e p i f l g w y s z q u B A o j),[]⟩ h nx Kt =
 sG a true (fun k=>k c) fun v1=>sG a true (fun k=>sLen v1 k) fun v2=>sG a true (fun k=>zI 1 G k) fun v3=>sG a true (fun k=>zH v3 h k) fun v4=>sG a true (fun k=>zL 1 v4 (I 0) k) fun v5=>sG a true (fun k=>zH v5 h k) fun v6=>zN r C ⟨(F9.fr E D G H L M Q U V W d v a b c e p i f l g w y s z q u B A o j),v6::v5::v4::v3::v2::v1::a::a::[]⟩ h nx Kt:=by kernel_rfl
theorem F9.zay:zN (F9.za8 []) C ⟨(F9.fr E D G H L M Q U V W d v a b c e p i f l g w y s z q u B A o j),s0::s1::s2::s3::s4::s5::s6::sT⟩ h nx Kt =
 sG s6 true (fun k=>sLen s0 k) fun v1=>sG s6 true (fun k=>zi .eql .int s4 v1 k) fun v2=>yT s6 v2 (.bool false) fun v3=>Kt ⟨(F9.fr E D G H L M Q U V W d v v3 b c e p i f l g w y s z q u B A o j),v3::v2::v1::s0::s1::s2::s3::s4::s5::s6::sT⟩ h nx:=by kernel_rfl
theorem F9.zam:IR.run F9.t34 C N O K (F9.fr E D G H L M Q U V W d v a b c e p i f l g w y s z q u B A o j) h nx =
 zi .add .int u (I 1) fun v1=>K (F9.fr E D G H L M Q U V W d v a b c e p i f l g w y s z q v1 B A o j) h nx:=by kernel_rfl
theorem F9.qaa (Inv:Nat->AV->AV->T Blk->Pa->Prop) {m:Nat} (hm:m<N) (hi:Inv m a u h nx)
  (step:∀ (m:Nat) (z3 z12 zZ z14 zG zJ z28:AV) (h:T Blk) (nx:Pa) (R:Ks Prop),Inv m z12 zG h nx->(∀ (m':Nat) (w3 wZ wR wS wF wG wY:AV) (h':T Blk) (nx':Pa),m'<m->Inv m' wZ wF h' nx'->R (F9.fr E D G w3 L M Q U V W d v wZ wR wS e p i f l g w y s z q wF wG wY o j) h' nx'=.ok True)->IR.run F9.t37 C N O R (F9.fr E D G z3 L M Q U V W d v z12 zZ z14 e p i f l g w y s z q zG zJ z28 o j) h nx=.ok True) :
  IR.run F9.t38 C N O K (F9.fr E D G H L M Q U V W d v a b c e p i f l g w y s z q u B A o j) h nx=.ok True:=by
 rw [F9.t38];refine yE (fun m tm h nx=>∃ z3 z12 zZ z14 zG zJ z28,tm=(F9.fr E D G z3 L M Q U V W d v z12 zZ z14 e p i f l g w y s z q zG zJ z28 o j)/\Inv m z12 zG h nx) ?_ hm ⟨_,_,_,_,_,_,_,rfl,hi⟩;rintro m tm h nx R ⟨z3,z12,zZ,z14,zG,zJ,z28,rfl,hi⟩ hR;exact step m z3 z12 zZ z14 zG zJ z28 h nx R hi fun m' w3 wZ wR wS wF wG wY h' nx' hlt hi'=>hR m' _ h' nx' hlt ⟨_,_,_,_,_,_,_,rfl,hi'⟩
theorem F9.znx:IR.run F9.t41 C N O K (F9.fr E D G H L M Q U V W d v a b c e p i f l g w y s z q u B A o j) h nx =
 zE 2 G h fun v1=>C.fn 43 (.of 43) [v1,D] h nx fun v2 h3 n4=>uo 0 v2 fun v5=>uo 1 v2 fun v6=>K (F9.fr E D G H L M Q U V W d v a b c v5 v6 i f l g w y s z q u B A o j) h3 n4:=by kernel_rfl
theorem F9.zdd:IR.run F9.t42 C N O K (F9.fr E D G H L M Q U V W d v a b c e p i f l g w y s z q u B A o j) h nx =
 zE 2 G h fun v1=>C.fn 43 (.of 43) [v1,L] h nx fun v2 h3 n4=>uo 0 v2 fun v5=>uo 1 v2 fun v6=>K (F9.fr E D G H L M Q U V W d v a b c e p v5 v6 l g w y s z q u B A o j) h3 n4:=by kernel_rfl
theorem F9.zas:IR.run F9.t43 C N O K (F9.fr E D G H L M Q U V W d v a b c e p i f l g w y s z q u B A o j) h nx =
 zE 2 G h fun v1=>C.fn 33 (.of 33) [v1] h nx fun v2 h3 n4=>uo 0 v2 fun v5=>uo 1 v2 fun v6=>K (F9.fr E D G H L M Q U V W d v a b c e p i f v5 v6 w y s z q u B A o j) h3 n4:=by kernel_rfl
theorem F9.zde:IR.run F9.t44 C N O K tm h nx=zN F9.za3 C ⟨tm,[]⟩ h nx (fun tm h nx=>K tm.v h nx):=jC ..
theorem F9.zei:zN (F9.za4 r) C ⟨(F9.fr E D G H L M Q U V W d v a b c e p i f l g w y s z q u B A o j),[]⟩ h nx Kt =
 zi .add .int p f fun v1=>zi .neq .int v1 (I 0) fun v2=>sG v2 false (fun k=>k a) fun v3=>sG v2 false (fun k=>k v3) fun v4=>sG v4 true (fun k=>k e) fun v5=>zN r C ⟨(F9.fr E D G H L M Q U V W d v a b c e p i f l g w y s z q u B A o j),v5::v4::v3::v2::v2::v1::f::p::[]⟩ h nx Kt:=by kernel_rfl
theorem F9.zax:zN (F9.za5 []) C ⟨(F9.fr E D G H L M Q U V W d v a b c e p i f l g w y s z q u B A o j),s0::s1::s2::s3::sT⟩ h nx Kt =
 sG s1 true (fun k=>k i) fun v1=>sG s1 true (fun k=>zi .neq .bool s0 v1 k) fun v2=>sG s3 false (fun k=>yT s1 v2 (.bool false) k) fun v3=>yT s3 (.bool true) v3 fun v4=>Kt ⟨(F9.fr E D G H L M Q U V W d v a b c e p i f l g w y s z q u B A v4 j),v3::v2::v1::s0::s1::s2::s3::sT⟩ h nx:=by kernel_rfl
theorem F9.v29:Arg.ev (.t (.of 29)) ⟨(F9.fr E D G H L M Q U V W d v a b c e p i f l g w y s z q u B A o j),[]⟩=o:=by kernel_rfl
theorem F9.zf7:IR.run F9.t49 C N O K tm h nx=zN F9.za9 C ⟨tm,[]⟩ h nx (fun tm h nx=>K tm.v h nx):=jC ..
theorem F9.zek:zN (F9.zba r) C ⟨(F9.fr E D G H L M Q U V W d v a b c e p i f l g w y s z q u B A o j),[]⟩ h nx Kt =
 sG e true (fun k=>k g) fun v1=>sG e true (fun k=>zi .eql .int v1 (I 0) k) fun v2=>yT e v2 (.bool false) fun v3=>sG v3 true (fun k=>k V) fun v4=>sG v3 true (fun k=>sLen v4 k) fun v5=>zN r C ⟨(F9.fr E D G H L M Q U V W d v a b c e p i f l g w y s z q u B A o j),v5::v4::v3::v3::v2::v1::e::e::[]⟩ h nx Kt:=by kernel_rfl
theorem F9.zaa:zN (F9.zbb r) C ⟨(F9.fr E D G H L M Q U V W d v a b c e p i f l g w y s z q u B A o j),s0::s1::s2::sT⟩ h nx Kt =
 sG s2 true (fun k=>zi .eql .int s0 (I 0) k) fun v1=>sG s2 true (fun k=>k v1) fun v2=>sG v2 false (fun k=>k l) fun v3=>sG v2 false (fun k=>k V) fun v4=>sG v2 false (fun k=>zL 1 v4 (I 0) k) fun v5=>sG v2 false (fun k=>zH v5 h k) fun v6=>sG v2 false (fun k=>zi .neq .int v3 v6 k) fun v7=>sG s2 true (fun k=>yT v2 (.bool true) v7 k) fun v8=>zN r C ⟨(F9.fr E D G H L M Q U V W d v a b c e p i f l g w y s z q u B A o j),v8::v7::v6::v5::v4::v3::v2::v1::s0::s1::s2::sT⟩ h nx Kt:=by kernel_rfl
theorem F9.zel:zN (F9.zn3 []) C ⟨(F9.fr E D G H L M Q U V W d v a b c e p i f l g w y s z q u B A o j),s0::s1::s2::s3::s4::s5::s6::s7::s8::s9::s10::sT⟩ h nx Kt =
 yT s10 s0 (.bool false) fun v1=>Kt ⟨(F9.fr E D G H L M Q U V W d v a b c e p i f l g w y s z q u B A o v1),s0::s1::s2::s3::s4::s5::s6::s7::s8::s9::s10::sT⟩ h nx:=by kernel_rfl
theorem F9.v30:Arg.ev (.t (.of 30)) ⟨(F9.fr E D G H L M Q U V W d v a b c e p i f l g w y s z q u B A o j),[]⟩=j:=by kernel_rfl
theorem F9.zn4:IR.run F9.t54 C N O K tm h nx=zN F9.zac C ⟨tm,[]⟩ h nx (fun tm h nx=>K tm.v h nx):=jC ..
theorem F9.zad:zN (F9.zbc r) C ⟨(F9.fr E D G H L M Q U V W d v a b c e p i f l g w y s z q u B A o j),[]⟩ h nx Kt =
 zi .eql .int g (I 0) fun v1=>sG v1 false (fun k=>k g) fun v2=>sG v1 false (fun k=>zi .eql .int v2 (I 7) k) fun v3=>yT v1 (.bool true) v3 fun v4=>sG v4 false (fun k=>k g) fun v5=>zN r C ⟨(F9.fr E D G H L M Q U V W d v a b c e p i f l g w y s z q u B A o j),v5::v4::v4::v3::v2::v1::v1::g::[]⟩ h nx Kt:=by kernel_rfl
theorem F9.sZ:zN (F9.zbd r) C ⟨(F9.fr E D G H L M Q U V W d v a b c e p i f l g w y s z q u B A o j),s0::s1::sT⟩ h nx Kt =
 sG s1 false (fun k=>zi .eql .int s0 (I 21) k) fun v1=>sG s1 false (fun k=>k v1) fun v2=>sG v2 true (fun k=>k e) fun v3=>sG v2 true (fun k=>aG v3 k) fun v4=>sG s1 false (fun k=>yT v2 v4 (.bool false) k) fun v5=>yT s1 (.bool true) v5 fun v6=>sGW v6 true (fun k=>C.fn 17 (.of 17) [] h nx k) h nx fun v7 h8 n9=>zN r C ⟨(F9.fr E D G H L M Q U V W d v a b c e p i f l g w y s z q u B A o j),v7::v6::v6::v5::v4::v3::v2::v1::s0::s1::sT⟩ h8 n9 Kt:=by kernel_rfl
theorem F9.rW:zN (F9.zbe []) C ⟨(F9.fr E D G H L M Q U V W d v a b c e p i f l g w y s z q u B A o j),s0::s1::sT⟩ h nx Kt =
 yT s1 s0 (.bool false) fun v1=>Kt ⟨(F9.fr E D G v1 L M Q U V W d v a b c e p i f l g w y s z q u B A o j),v1::s0::s1::sT⟩ h nx:=by kernel_rfl
theorem F9.go:zR tbl N C (.of 9) [a0,a1] h nx K0=IR.run F9.t70 C N (fnO F9.res K0) (yx F9.res K0) (F9.fr a0 a1 .u .u .u .u .u .u .u .u .u .u .u .u .u .u .u .u .u .u .u .u .u .u .u .u .u .u .u .u .u) h nx:=yZ (F:=F9) (by kernel_rfl) (fun _=>by kernel_rfl) (by kernel_rfl)
theorem F9.ret:yx F9.res K0 (F9.fr E D G H L M Q U V W d v a b c e p i f l g w y s z q u B A o j) h nx=K0 H h nx:=by kernel_rfl
theorem F35.jm:IR.run F35.t0 C N O K (F35.fr E D G H L) h nx =
 ql E h nx fun v1 h2 n3=>K (F35.fr E D G v1 (.bool false)) h2 n3:=by kernel_rfl
theorem F35.jl:IR.run F35.t1 C N O K tm h nx=zN F35.eF C ⟨tm,[]⟩ h nx (fun tm h nx=>K tm.v h nx):=jC ..
theorem F35.eG:zN (F35.aH r) C ⟨(F35.fr E D G H L),[]⟩ h nx Kt =
 zE 2 H h fun v1=>C.fn 16 (.of 16) [v1,D,G] h nx fun v2 h3 n4=>zN r C ⟨(F35.fr E D G H L),v2::G::D::v1::[]⟩ h3 n4 Kt:=by kernel_rfl
theorem F35.tu:zN (F35.aI r) C ⟨(F35.fr E D G H L),s0::sT⟩ h nx Kt =
 sG s0 true (fun k=>zE 2 H h k) fun v1=>sGW s0 true (fun k=>C.fn 19 (.of 19) [v1] h nx k) h nx fun v2 h3 n4=>zN r C ⟨(F35.fr E D G H L),v2::v1::s0::s0::sT⟩ h3 n4 Kt:=by kernel_rfl
theorem F35.zbf:zN (F35.zga r) C ⟨(F35.fr E D G H L),s0::s1::s2::sT⟩ h nx Kt =
 sG s2 true (fun k=>zi .eql .int s0 (I 0) k) fun v1=>yT s2 v1 (.bool false) fun v2=>sG v2 true (fun k=>zI 0 H k) fun v3=>sG v2 true (fun k=>zH v3 h k) fun v4=>sG v2 true (fun k=>k D) fun v5=>sG v2 true (fun k=>zi .leq .int v4 v5 k) fun v6=>yT v2 v6 (.bool false) fun v7=>zN r C ⟨(F35.fr E D G H L),v7::v6::v5::v4::v3::v2::v2::v1::s0::s1::s2::sT⟩ h nx Kt:=by kernel_rfl
theorem F35.oJ:zN (F35.zgb []) C ⟨(F35.fr E D G H L),s0::sT⟩ h nx Kt =
 Kt ⟨(F35.fr E D G H s0),s0::sT⟩ h nx:=by kernel_rfl
theorem F35.go:zR tbl N C (.of 35) [a0,a1,a2] h nx K0=IR.run F35.t3 C N (fnO F35.res K0) (yx F35.res K0) (F35.fr a0 a1 a2 .u .u) h nx:=yZ (F:=F35) (by kernel_rfl) (fun _=>by kernel_rfl) (by kernel_rfl)
theorem F35.ret:yx F35.res K0 (F35.fr E D G H L) h nx=K0 L h nx:=by kernel_rfl
end
end Go.Ev
