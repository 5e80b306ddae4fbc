import Derived.Test.YtbghckepkajplabGreatDoorIrT
import Derived.Test.YtbghckepkajplabGreatDoorEvD
import Derived.KernelRfl
set_option linter.unusedSimpArgs false
set_option linter.unusedVariables false
namespace Go.Ev
open Go Go.Proofs
set_option maxRecDepth 100000
section
variable {N:Nat} {C:Calls Prop} {K0:Kw Prop} {K R:Ks Prop} {h:T Blk} {n:Pa} {a c d f i j q p s D b e g o l v w u E U V L M y z A H W B G P Q Z x33 x34 x35 a0 s0 s1 s2 s3 s4 s5 s6 s7 s8 s9 s10 s11 s12 s13 s14 s15 s16 s17 s18 s19 s20 s21 s22 s23 s24 s25 s26 s27 s28 s29 s30 s31 s32 s33 s34 s35 s36 s37 s38 s39 s40 s41 s42 s43 s44 s45 s46 s47 s48 s49 s50 s51 s52 s53 s54 s55 s56 s57 s58 s59 a1 a2:AV} {O:pq Prop} {tm:T AV} {Kt:KTm} {r:List RO} {sT:List AV}
theorem F38.zu:IR.run F38.t0 C N O K (F38.fr a c d f i j q p s D b e g o l v w u E U V L M y z A H W B G P Q Z x33 x34 x35) h n=qm a h n λv1 h2 n3=>yT [.zb,.zb] h2 n3 λv4 h5 n6=>K (F38.fr a v1 v4 f i j q p s D b e g o l v w u E U V L M y z A H W B G P Q Z x33 x34 x35) h5 n6:=by kernel_rfl
theorem F38.zo:IR.run F38.t1 C N O K (F38.fr a c d f i j q p s D b e g o l v w u E U V L M y z A H W B G P Q Z x33 x34 x35) h n=zM 0 c λv1=>zH v1 h λv2=>K (F38.fr a c d v2 i j q p s D b e g o l v w u E U V L M y z A H W B G P Q Z x33 x34 x35) h n:=by kernel_rfl
theorem F38.yt:IR.run F38.t2 C N O K (F38.fr a c d f i j q p s D b e g o l v w u E U V L M y z A H W B G P Q Z x33 x34 x35) h n=K (F38.fr a c d f .zb j q p s D b e g o l v w u E U V L M y z A H W B G P Q Z x33 x34 x35) h n:=by kernel_rfl
theorem F38.vk:IR.run F38.t3 C N O K (F38.fr a c d f i j q p s D b e g o l v w u E U V L M y z A H W B G P Q Z x33 x34 x35) h n=K (F38.fr a c d f i .zb q p s D b e g o l v w u E U V L M y z A H W B G P Q Z x33 x34 x35) h n:=by kernel_rfl
theorem F38.nY:IR.run F38.t4 C N O K (F38.fr a c d f i j q p s D b e g o l v w u E U V L M y z A H W B G P Q Z x33 x34 x35) h n=K (F38.fr a c d f i j (I 1) p s D b e g o l v w u E U V L M y z A H W B G P Q Z x33 x34 x35) h n:=by kernel_rfl
theorem F38.dz:IR.run F38.t5 C N O K (F38.fr a c d f i j q p s D b e g o l v w u E U V L M y z A H W B G P Q Z x33 x34 x35) h n=zM 1 c λv1=>zH v1 h λv2=>sLen v2 λv3=>za .lss .int q v3 λv4=>K (F38.fr a c d f i j q p s D b e g o l v w v4 E U V L M y z A H W B G P Q Z x33 x34 x35) h n:=by kernel_rfl
theorem F38.v17:Arg.ev (.t (.of 17)) ⟨(F38.fr a c d f i j q p s D b e g o l v w u E U V L M y z A H W B G P Q Z x33 x34 x35),[]⟩=u:=by kernel_rfl
theorem F38.rE:IR.run F38.t8 C N O K (F38.fr a c d f i j q p s D b e g o l v w u E U V L M y z A H W B G P Q Z x33 x34 x35) h n=zM 1 c λv1=>zH v1 h λv2=>zN 1 v2 q λv3=>zH v3 h λv4=>C.fn 72 (.of 72) [f,v4] h n λv5 h6 n7=>K (F38.fr a c d f i j q v5 s D b e g o l v w u E U V L M y z A H W B G P Q Z x33 x34 x35) h6 n7:=by kernel_rfl
theorem F38.rF:IR.run F38.t9 C N O K (F38.fr a c d f i j q p s D b e g o l v w u E U V L M y z A H W B G P Q Z x33 x34 x35) h n=zM 1 c λv1=>zH v1 h λv2=>zN 1 v2 (I 0) λv3=>zH v3 h λv4=>C.fn 74 (.of 74) [(I 1)] h n λv5 h6 n7=>(zH v3 h6 λvA=>zX vA v4 ((zN 1 v2 (I 0) λvB=>zX vB v3 ((zH v1 h6 λvC=>zX vC v2 ((zM 1 c λvD=>zX vD v1 (zX f f (zX p p (C.fn 72 (.of 72) [f,v4] h6 n7 λv8 h9 nA=>zX p p (C.fn 73 (.of 73) [p,v5,v8] h9 nA λvE hA nB=>K (F38.fr a c d f i j q p s D b e g o l v w u E U V L M y z A H W B G P Q Z x33 x34 x35) hA nB))))))))))):=by kernel_rfl
theorem F38.rC:IR.run F38.t10 C N O K (F38.fr a c d f i j q p s D b e g o l v w u E U V L M y z A H W B G P Q Z x33 x34 x35) h n=sLen j λv1=>K (F38.fr a c d f i j q p s D b e g o l v w u j v1 (I 0) L M y z A H W B G P Q Z x33 x34 x35) h n:=by kernel_rfl
theorem F38.qz:IR.run F38.t11 C N O K (F38.fr a c d f i j q p s D b e g o l v w u E U V L M y z A H W B G P Q Z x33 x34 x35) h n=za .lss .int V U λv1=>K (F38.fr a c d f i j q p s D b e g o l v w u E U V v1 M y z A H W B G P Q Z x33 x34 x35) h n:=by kernel_rfl
theorem F38.v21:Arg.ev (.t (.of 21)) ⟨(F38.fr a c d f i j q p s D b e g o l v w u E U V L M y z A H W B G P Q Z x33 x34 x35),[]⟩=L:=by kernel_rfl
theorem F38.rX:IR.run F38.t13 C N O K (F38.fr a c d f i j q p s D b e g o l v w u E U V L M y z A H W B G P Q Z x33 x34 x35) h n=zN 1 E V λv1=>zH v1 h λv2=>K (F38.fr a c d f i j q p V v2 b e g o l v w u E U V L M y z A H W B G P Q Z x33 x34 x35) h n:=by kernel_rfl
theorem F38.tF:IR.run F38.t14 C N O K (F38.fr a c d f i j q p s D b e g o l v w u E U V L M y z A H W B G P Q Z x33 x34 x35) h n=zN 4 p D λv1=>zI 4 v1 h λv2=>zN 1 i s λv3=>zH v3 h λv4=>C.fn 73 (.of 73) [p,v2,v4] h n λv5 h6 n7=>K (F38.fr a c d f i j q p s D b e g o l v w u E U V L M y z A H W B G P Q Z x33 x34 x35) h6 n7:=by kernel_rfl
theorem F38.rG:IR.run F38.t17 C N O K (F38.fr a c d f i j q p s D b e g o l v w u E U V L M y z A H W B G P Q Z x33 x34 x35) h n=za .add .int V (I 1) λv1=>K (F38.fr a c d f i j q p s D b e g o l v w u E U v1 L M y z A H W B G P Q Z x33 x34 x35) h n:=by kernel_rfl
theorem F38.qa3 (Inv:Nat->AV->T Blk->Pa->Prop) {m:Nat} (hm:m<N) (hi:Inv m V h n)
  (step:∀ (m:Nat) (z8 z9 zA zB:AV) (h:T Blk) (n:Pa) (R:Ks Prop),Inv m zA h n->(∀ (m':Nat) (w8 w9 wA wB:AV) (h':T Blk) (n':Pa),m'<m->Inv m' wA h' n'->R (F38.fr a c d f i j q p w8 w9 b e g o l v w u E U wA wB M y z A H W B G P Q Z x33 x34 x35) h' n'=.ok True)->IR.run F38.t20 C N O R (F38.fr a c d f i j q p z8 z9 b e g o l v w u E U zA zB M y z A H W B G P Q Z x33 x34 x35) h n=.ok True) :
  IR.run F38.t21 C N O K (F38.fr a c d f i j q p s D b e g o l v w u E U V L M y z A H W B G P Q Z x33 x34 x35) h n=.ok True:=by
 rw [F38.t21];refine yB (λm tm h n=>∃ z8 z9 zA zB,tm=(F38.fr a c d f i j q p z8 z9 b e g o l v w u E U zA zB M y z A H W B G P Q Z x33 x34 x35)/\Inv m zA h n) ?_ hm ⟨_,_,_,_,rfl,hi⟩;rintro m _ h n R ⟨_,_,_,_,rfl,q⟩ p;exact step m _ _ _ _ h n R q λ_ _ _ _ _ _ _ x y=>p _ _ _ _ x ⟨_,_,_,_,rfl,y⟩
theorem F38.zad:IR.run F38.t24 C N O K (F38.fr a c d f i j q p s D b e g o l v w u E U V L M y z A H W B G P Q Z x33 x34 x35) h n=za .sub .int f (I 1) λv1=>K (F38.fr a c d f i j q p s D v1 e g o l v w u E U V L M y z A H W B G P Q Z x33 x34 x35) h n:=by kernel_rfl
theorem F38.zoy:IR.run F38.t25 C N O K tm h n=zZ F38.zaf C ⟨tm,[]⟩ h n (λtm h n=>K tm.v h n):=jJ ..
theorem F38.zeu:zZ (F38.zah r) C ⟨(F38.fr a c d f i j q p s D b e g o l v w u E U V L M y z A H W B G P Q Z x33 x34 x35),[]⟩ h n Kt=za .geq .int b (I 0) λv1=>sG v1 true (λk=>k p) λv2=>sG v1 true (λk=>k b) λv3=>sG v1 true (λk=>zN 4 v2 v3 k) λv4=>sG v1 true (λk=>zI 4 v4 h k) λv5=>sGW v1 true (λk=>C.fn 75 (.of 75) [v5] h n k) h n λv6 h7 n8=>zZ r C ⟨(F38.fr a c d f i j q p s D b e g o l v w u E U V L M y z A H W B G P Q Z x33 x34 x35),v6::v5::v4::v3::v2::v1::v1::b::[]⟩ h7 n8 Kt:=by kernel_rfl
theorem F38.zaa:zZ (F38.zai []) C ⟨(F38.fr a c d f i j q p s D b e g o l v w u E U V L M y z A H W B G P Q Z x33 x34 x35),s0::s1::s2::s3::s4::s5::sT⟩ h n Kt=sG s5 true (λk=>za .eql .int s0 (I 0) k) λv1=>yO s5 v1 (.bool false) λv2=>Kt ⟨(F38.fr a c d f i j q p s D b e g o l v w u E U V L v2 y z A H W B G P Q Z x33 x34 x35),v1::s0::s1::s2::s3::s4::s5::sT⟩ h n:=by kernel_rfl
theorem F38.v22:Arg.ev (.t (.of 22)) ⟨(F38.fr a c d f i j q p s D b e g o l v w u E U V L M y z A H W B G P Q Z x33 x34 x35),[]⟩=M:=by kernel_rfl
theorem F38.zac:IR.run F38.t28 C N O K (F38.fr a c d f i j q p s D b e g o l v w u E U V L M y z A H W B G P Q Z x33 x34 x35) h n=za .sub .int b (I 1) λv1=>K (F38.fr a c d f i j q p s D v1 e g o l v w u E U V L M y z A H W B G P Q Z x33 x34 x35) h n:=by kernel_rfl
theorem F38.zgf (Inv:Nat->AV->T Blk->Pa->Prop) {m:Nat} (hm:m<N) (hi:Inv m b h n)
  (step:∀ (m:Nat) (zC zD:AV) (h:T Blk) (n:Pa) (R:Ks Prop),Inv m zC h n->(∀ (m':Nat) (wC wD:AV) (h':T Blk) (n':Pa),m'<m->Inv m' wC h' n'->R (F38.fr a c d f i j q p s D wC e g o l v w u E U V L wD y z A H W B G P Q Z x33 x34 x35) h' n'=.ok True)->IR.run F38.t30 C N O R (F38.fr a c d f i j q p s D zC e g o l v w u E U V L zD y z A H W B G P Q Z x33 x34 x35) h n=.ok True) :
  IR.run F38.t31 C N O K (F38.fr a c d f i j q p s D b e g o l v w u E U V L M y z A H W B G P Q Z x33 x34 x35) h n=.ok True:=by
 rw [F38.t31];refine yB (λm tm h n=>∃ zC zD,tm=(F38.fr a c d f i j q p s D zC e g o l v w u E U V L zD y z A H W B G P Q Z x33 x34 x35)/\Inv m zC h n) ?_ hm ⟨_,_,rfl,hi⟩;rintro m _ h n R ⟨_,_,rfl,q⟩ p;exact step m _ _ h n R q λ_ _ _ _ _ x y=>p _ _ _ _ x ⟨_,_,rfl,y⟩
theorem F38.zwv:IR.run F38.t33 C N O K (F38.fr a c d f i j q p s D b e g o l v w u E U V L M y z A H W B G P Q Z x33 x34 x35) h n=za .lss .int b (I 0) λv1=>K (F38.fr a c d f i j q p s D b e g o l v w u E U V L M v1 z A H W B G P Q Z x33 x34 x35) h n:=by kernel_rfl
theorem F38.v23:Arg.ev (.t (.of 23)) ⟨(F38.fr a c d f i j q p s D b e g o l v w u E U V L M y z A H W B G P Q Z x33 x34 x35),[]⟩=y:=by kernel_rfl
theorem F38.zoz:IR.run F38.t36 C N O K (F38.fr a c d f i j q p s D b e g o l v w u E U V L M y z A H W B G P Q Z x33 x34 x35) h n=zN 4 p b λv1=>zI 4 v1 h λv2=>C.fn 77 (.of 77) [v2] h n λv3 h4 n5=>C.fn 76 (.of 76) [p,v3] h4 n5 λv6 h7 n8=>K (F38.fr a c d f i j q p s D b e g o l v w u E U V L M y z A H W B G P Q Z x33 x34 x35) h7 n8:=by kernel_rfl
theorem F38.zo0:IR.run F38.t37 C N O K (F38.fr a c d f i j q p s D b e g o l v w u E U V L M y z A H W B G P Q Z x33 x34 x35) h n=sLen i λv1=>K (F38.fr a c d f i j q p s D b e g o l v w u E U V L M y i v1 (I 0) W B G P Q Z x33 x34 x35) h n:=by kernel_rfl
theorem F38.zgo:IR.run F38.t38 C N O K (F38.fr a c d f i j q p s D b e g o l v w u E U V L M y z A H W B G P Q Z x33 x34 x35) h n=za .lss .int H A λv1=>K (F38.fr a c d f i j q p s D b e g o l v w u E U V L M y z A H v1 B G P Q Z x33 x34 x35) h n:=by kernel_rfl
theorem F38.v27:Arg.ev (.t (.of 27)) ⟨(F38.fr a c d f i j q p s D b e g o l v w u E U V L M y z A H W B G P Q Z x33 x34 x35),[]⟩=W:=by kernel_rfl
theorem F38.zo1:IR.run F38.t40 C N O K (F38.fr a c d f i j q p s D b e g o l v w u E U V L M y z A H W B G P Q Z x33 x34 x35) h n=zN 1 z H λv1=>zH v1 h λv2=>K (F38.fr a c d f i j q p s D b v2 g o l v w u E U V L M y z A H W B G P Q Z x33 x34 x35) h n:=by kernel_rfl
theorem F38.zo2:IR.run F38.t41 C N O K (F38.fr a c d f i j q p s D b e g o l v w u E U V L M y z A H W B G P Q Z x33 x34 x35) h n=zN 4 e b λv1=>zI 4 v1 h λv2=>C.fn 73 (.of 73) [e,v2,p] h n λv3 h4 n5=>K (F38.fr a c d f i j q p s D b e g o l v w u E U V L M y z A H W B G P Q Z x33 x34 x35) h4 n5:=by kernel_rfl
theorem F38.zo3:IR.run F38.t44 C N O K (F38.fr a c d f i j q p s D b e g o l v w u E U V L M y z A H W B G P Q Z x33 x34 x35) h n=za .add .int H (I 1) λv1=>K (F38.fr a c d f i j q p s D b e g o l v w u E U V L M y z A v1 W B G P Q Z x33 x34 x35) h n:=by kernel_rfl
theorem F38.zo4 (Inv:Nat->AV->T Blk->Pa->Prop) {m:Nat} (hm:m<N) (hi:Inv m H h n)
  (step:∀ (m:Nat) (zE zF zG:AV) (h:T Blk) (n:Pa) (R:Ks Prop),Inv m zF h n->(∀ (m':Nat) (wE wF wG:AV) (h':T Blk) (n':Pa),m'<m->Inv m' wF h' n'->R (F38.fr a c d f i j q p s D b wE g o l v w u E U V L M y z A wF wG B G P Q Z x33 x34 x35) h' n'=.ok True)->IR.run F38.t47 C N O R (F38.fr a c d f i j q p s D b zE g o l v w u E U V L M y z A zF zG B G P Q Z x33 x34 x35) h n=.ok True) :
  IR.run F38.t48 C N O K (F38.fr a c d f i j q p s D b e g o l v w u E U V L M y z A H W B G P Q Z x33 x34 x35) h n=.ok True:=by
 rw [F38.t48];refine yB (λm tm h n=>∃ zE zF zG,tm=(F38.fr a c d f i j q p s D b zE g o l v w u E U V L M y z A zF zG B G P Q Z x33 x34 x35)/\Inv m zF h n) ?_ hm ⟨_,_,_,rfl,hi⟩;rintro m _ h n R ⟨_,_,_,rfl,q⟩ p;exact step m _ _ _ h n R q λ_ _ _ _ _ _ x y=>p _ _ _ _ x ⟨_,_,_,rfl,y⟩
theorem F38.zo5:IR.run F38.t51 C N O K (F38.fr a c d f i j q p s D b e g o l v w u E U V L M y z A H W B G P Q Z x33 x34 x35) h n=y3 1 1 [.zb] [(0,1,p)] h n λv1 h2 n3=>tJ 1 24 i v1 h2 n3 λv4 h5 n6=>y3 1 1 [(I 0)] [(0,1,b)] h5 n6 λv7 h8 n9=>tJ 1 8 j v7 h8 n9 λvF hB nC=>K (F38.fr a c d f v4 vF q p s D b e g o l v w u E U V L M y z A H W B G P Q Z x33 x34 x35) hB nC:=by kernel_rfl
theorem F38.zww:IR.run F38.t61 C N O K (F38.fr a c d f i j q p s D b e g o l v w u E U V L M y z A H W B G P Q Z x33 x34 x35) h n=za .add .int q (I 1) λv1=>K (F38.fr a c d f i j v1 p s D b e g o l v w u E U V L M y z A H W B G P Q Z x33 x34 x35) h n:=by kernel_rfl
theorem F38.qa4 (Inv:Nat->AV->AV->AV->T Blk->Pa->Prop) {m:Nat} (hm:m<N) (hi:Inv m i j q h n)
  (step:∀ (m:Nat) (z4 z5 z6 z7 z8 z9 zC zE zJ zK zL zA zB zD zP zQ zR zF zG:AV) (h:T Blk) (n:Pa) (R:Ks Prop),Inv m z4 z5 z6 h n->(∀ (m':Nat) (w4 w5 w6 w7 w8 w9 wC wE wH wI wJ wA wB wD wK wL wM wF wG:AV) (h':T Blk) (n':Pa),m'<m->Inv m' w4 w5 w6 h' n'->R (F38.fr a c d f w4 w5 w6 w7 w8 w9 wC wE g o l v w wH wI wJ wA wB wD wK wL wM wF wG B G P Q Z x33 x34 x35) h' n'=.ok True)->IR.run F38.t63 C N O R (F38.fr a c d f z4 z5 z6 z7 z8 z9 zC zE g o l v w zJ zK zL zA zB zD zP zQ zR zF zG B G P Q Z x33 x34 x35) h n=.ok True) :
  IR.run F38.t64 C N O K (F38.fr a c d f i j q p s D b e g o l v w u E U V L M y z A H W B G P Q Z x33 x34 x35) h n=.ok True:=by
 rw [F38.t64];refine yB (λm tm h n=>∃ z4 z5 z6 z7 z8 z9 zC zE zJ zK zL zA zB zD zP zQ zR zF zG,tm=(F38.fr a c d f z4 z5 z6 z7 z8 z9 zC zE g o l v w zJ zK zL zA zB zD zP zQ zR zF zG B G P Q Z x33 x34 x35)/\Inv m z4 z5 z6 h n) ?_ hm ⟨_,_,_,_,_,_,_,_,_,_,_,_,_,_,_,_,_,_,_,rfl,hi⟩;rintro m _ h n R ⟨_,_,_,_,_,_,_,_,_,_,_,_,_,_,_,_,_,_,_,rfl,q⟩ p;exact step m _ _ _ _ _ _ _ _ _ _ _ _ _ _ _ _ _ _ _ h n R q λ_ _ _ _ _ _ _ _ _ _ _ _ _ _ _ _ _ _ _ _ _ _ x y=>p _ _ _ _ x ⟨_,_,_,_,_,_,_,_,_,_,_,_,_,_,_,_,_,_,_,rfl,y⟩
theorem F38.qa5:IR.run F38.t67 C N O K (F38.fr a c d f i j q p s D b e g o l v w u E U V L M y z A H W B G P Q Z x33 x34 x35) h n=yT [.zb,.zb] h n λv1 h2 n3=>K (F38.fr a c d f i j q p s D b e v1 o l v w u E U V L M y z A H W B G P Q Z x33 x34 x35) h2 n3:=by kernel_rfl
theorem F38.qa6:IR.run F38.t68 C N O K (F38.fr a c d f i j q p s D b e g o l v w u E U V L M y z A H W B G P Q Z x33 x34 x35) h n=K (F38.fr a c d f i j q p s D b e g o l v w u E U V L M y z A H W f (I 0) P Q Z x33 x34 x35) h n:=by kernel_rfl
theorem F38.qa7:IR.run F38.t69 C N O K (F38.fr a c d f i j q p s D b e g o l v w u E U V L M y z A H W B G P Q Z x33 x34 x35) h n=za .lss .int G B λv1=>K (F38.fr a c d f i j q p s D b e g o l v w u E U V L M y z A H W B G v1 Q Z x33 x34 x35) h n:=by kernel_rfl
theorem F38.v30:Arg.ev (.t (.of 30)) ⟨(F38.fr a c d f i j q p s D b e g o l v w u E U V L M y z A H W B G P Q Z x33 x34 x35),[]⟩=P:=by kernel_rfl
theorem F38.qa8:IR.run F38.t71 C N O K (F38.fr a c d f i j q p s D b e g o l v w u E U V L M y z A H W B G P Q Z x33 x34 x35) h n=K (F38.fr a c d f i j q p s D b e g G l v w u E U V L M y z A H W B G P Q Z x33 x34 x35) h n:=by kernel_rfl
theorem F38.qa9:IR.run F38.t72 C N O K (F38.fr a c d f i j q p s D b e g o l v w u E U V L M y z A H W B G P Q Z x33 x34 x35) h n=C.fn 78 (.of 78) [j,o] h n λv1 h2 n3=>K (F38.fr a c d f i j q p s D b e g o l v w u E U V L M y z A H W B G P v1 Z x33 x34 x35) h2 n3:=by kernel_rfl
theorem F38.v31:Arg.ev (.t (.of 31)) ⟨(F38.fr a c d f i j q p s D b e g o l v w u E U V L M y z A H W B G P Q Z x33 x34 x35),[]⟩=Q:=by kernel_rfl
theorem F38.qba:IR.run F38.t75 C N O K (F38.fr a c d f i j q p s D b e g o l v w u E U V L M y z A H W B G P Q Z x33 x34 x35) h n=C.fn 79 (.of 79) [f] h n λv1 h2 n3=>K (F38.fr a c d f i j q p s D b e g o v1 v w u E U V L M y z A H W B G P Q Z x33 x34 x35) h2 n3:=by kernel_rfl
theorem F38.qbb:IR.run F38.t76 C N O K (F38.fr a c d f i j q p s D b e g o l v w u E U V L M y z A H W B G P Q Z x33 x34 x35) h n=C.fn 74 (.of 74) [(I 1)] h n λv1 h2 n3=>zN 4 l o λv4=>yA 4 v4 v1 h2 n3 λv5 h6 n7=>K (F38.fr a c d f i j q p s D b e g o l v w u E U V L M y z A H W B G P Q Z x33 x34 x35) h6 n7:=by kernel_rfl
theorem F38.qbc:IR.run F38.t77 C N O K (F38.fr a c d f i j q p s D b e g o l v w u E U V L M y z A H W B G P Q Z x33 x34 x35) h n=sLen j λv1=>K (F38.fr a c d f i j q p s D b e g o l v w u E U V L M y z A H W B G P Q j v1 (I 0) x35) h n:=by kernel_rfl
theorem F38.qbd:IR.run F38.t78 C N O K (F38.fr a c d f i j q p s D b e g o l v w u E U V L M y z A H W B G P Q Z x33 x34 x35) h n=za .lss .int x34 x33 λv1=>K (F38.fr a c d f i j q p s D b e g o l v w u E U V L M y z A H W B G P Q Z x33 x34 v1) h n:=by kernel_rfl
theorem F38.v35:Arg.ev (.t (.of 35)) ⟨(F38.fr a c d f i j q p s D b e g o l v w u E U V L M y z A H W B G P Q Z x33 x34 x35),[]⟩=x35:=by kernel_rfl
theorem F38.qbe:IR.run F38.t80 C N O K (F38.fr a c d f i j q p s D b e g o l v w u E U V L M y z A H W B G P Q Z x33 x34 x35) h n=zN 1 Z x34 λv1=>zH v1 h λv2=>K (F38.fr a c d f i j q p s D b e g o l x34 v2 u E U V L M y z A H W B G P Q Z x33 x34 x35) h n:=by kernel_rfl
theorem F38.qbf:IR.run F38.t81 C N O K (F38.fr a c d f i j q p s D b e g o l v w u E U V L M y z A H W B G P Q Z x33 x34 x35) h n=zN 1 i v λv1=>zH v1 h λv2=>zN 4 v2 o λv3=>zI 4 v3 h λv4=>C.fn 80 (.of 80) [v4] h n λv5 h6 n7=>zN 4 l w λv8=>yA 4 v8 v5 h6 n7 λv9 hC nD=>K (F38.fr a c d f i j q p s D b e g o l v w u E U V L M y z A H W B G P Q Z x33 x34 x35) hC nD:=by kernel_rfl
theorem F38.qbg:IR.run F38.t84 C N O K (F38.fr a c d f i j q p s D b e g o l v w u E U V L M y z A H W B G P Q Z x33 x34 x35) h n=za .add .int x34 (I 1) λv1=>K (F38.fr a c d f i j q p s D b e g o l v w u E U V L M y z A H W B G P Q Z x33 v1 x35) h n:=by kernel_rfl
theorem F38.qbh (Inv:Nat->AV->T Blk->Pa->Prop) {m:Nat} (hm:m<N) (hi:Inv m x34 h n)
  (step:∀ (m:Nat) (zS zT zU zV:AV) (h:T Blk) (n:Pa) (R:Ks Prop),Inv m zU h n->(∀ (m':Nat) (wN wO wP wQ:AV) (h':T Blk) (n':Pa),m'<m->Inv m' wP h' n'->R (F38.fr a c d f i j q p s D b e g o l wN wO u E U V L M y z A H W B G P Q Z x33 wP wQ) h' n'=.ok True)->IR.run F38.t87 C N O R (F38.fr a c d f i j q p s D b e g o l zS zT u E U V L M y z A H W B G P Q Z x33 zU zV) h n=.ok True) :
  IR.run F38.t88 C N O K (F38.fr a c d f i j q p s D b e g o l v w u E U V L M y z A H W B G P Q Z x33 x34 x35) h n=.ok True:=by
 rw [F38.t88];refine yB (λm tm h n=>∃ zS zT zU zV,tm=(F38.fr a c d f i j q p s D b e g o l zS zT u E U V L M y z A H W B G P Q Z x33 zU zV)/\Inv m zU h n) ?_ hm ⟨_,_,_,_,rfl,hi⟩;rintro m _ h n R ⟨_,_,_,_,rfl,q⟩ p;exact step m _ _ _ _ h n R q λ_ _ _ _ _ _ _ x y=>p _ _ _ _ x ⟨_,_,_,_,rfl,y⟩
theorem F38.qbi:IR.run F38.t91 C N O K (F38.fr a c d f i j q p s D b e g o l v w u E U V L M y z A H W B G P Q Z x33 x34 x35) h n=zM 0 g λv1=>zH v1 h λv2=>sChk ((gL (fe 1 [(I 0)]) [(0,1,o)]).isSome&&true) (zM 1 g λv3=>zH v3 h λv4=>sChk ((gL (fe 1 [.zb]) [(0,1,l)]).isSome&&true) (y3 1 1 [(I 0)] [(0,1,o)] h n λv5 h6 n7=>zX l l ((zH v3 h6 λvG=>zX vG v4 ((zM 1 g λvH=>zX vH v3 (zX o o ((zH v1 h6 λvI=>zX vI v2 ((zM 0 g λvJ=>zX vJ v1 (tJ 1 8 v2 v5 h6 n7 λv8 h9 nA=>zX l l ((zH v3 h9 λvK=>zX vK v4 ((zM 1 g λvL=>zX vL v3 (zX o o ((zH v1 h9 λvM=>zX vM v2 ((zM 0 g λvN=>zX vN v1 (zM 0 g λvE=>y3 1 1 [.zb] [(0,1,l)] h9 nA λvO hD nE=>(zM 0 g λvP=>zX vP vE ((zH v3 hD λvQ=>zX vQ v4 ((zM 1 g λvR=>zX vR v3 (zX o o ((zH v1 hD λvS=>zX vS v2 ((zM 0 g λvT=>zX vT v1 (tJ 1 24 v4 vO hD nE λvC hE nF=>(zM 0 g λvU=>zX vU vE (yA 1 vE v8 hE nF λvV hF nG=>zM 1 g λvW=>yA 1 vW vC hF nG λvX hG nH=>K (F38.fr a c d f i j q p s D b e g o l v w u E U V L M y z A H W B G P Q Z x33 x34 x35) hG nH))))))))))))))))))))))))))))))))))):=by kernel_rfl
theorem F38.zwx:IR.run F38.t98 C N O K (F38.fr a c d f i j q p s D b e g o l v w u E U V L M y z A H W B G P Q Z x33 x34 x35) h n=za .add .int G (I 1) λv1=>K (F38.fr a c d f i j q p s D b e g o l v w u E U V L M y z A H W B v1 P Q Z x33 x34 x35) h n:=by kernel_rfl
theorem F38.zyc (Inv:Nat->AV->T Blk->Pa->Prop) {m:Nat} (hm:m<N) (hi:Inv m G h n)
  (step:∀ (m:Nat) (zW zY zS zT z29 z30 z31 z32 z33 zU zV:AV) (h:T Blk) (n:Pa) (R:Ks Prop),Inv m z29 h n->(∀ (m':Nat) (wR wS wN wO wT wV wW wX wY wP wQ:AV) (h':T Blk) (n':Pa),m'<m->Inv m' wT h' n'->R (F38.fr a c d f i j q p s D b e g wR wS wN wO u E U V L M y z A H W B wT wV wW wX wY wP wQ) h' n'=.ok True)->IR.run F38.t101 C N O R (F38.fr a c d f i j q p s D b e g zW zY zS zT u E U V L M y z A H W B z29 z30 z31 z32 z33 zU zV) h n=.ok True) :
  IR.run F38.t102 C N O K (F38.fr a c d f i j q p s D b e g o l v w u E U V L M y z A H W B G P Q Z x33 x34 x35) h n=.ok True:=by
 rw [F38.t102];refine yB (λm tm h n=>∃ zW zY zS zT z29 z30 z31 z32 z33 zU zV,tm=(F38.fr a c d f i j q p s D b e g zW zY zS zT u E U V L M y z A H W B z29 z30 z31 z32 z33 zU zV)/\Inv m z29 h n) ?_ hm ⟨_,_,_,_,_,_,_,_,_,_,_,rfl,hi⟩;rintro m _ h n R ⟨_,_,_,_,_,_,_,_,_,_,_,rfl,q⟩ p;exact step m _ _ _ _ _ _ _ _ _ _ _ h n R q λ_ _ _ _ _ _ _ _ _ _ _ _ _ _ x y=>p _ _ _ _ x ⟨_,_,_,_,_,_,_,_,_,_,_,rfl,y⟩
theorem F38.zyd:IR.run F38.t105 C N O K (F38.fr a c d f i j q p s D b e g o l v w u E U V L M y z A H W B G P Q Z x33 x34 x35) h n=zI 2 g h λv1=>yA 2 d v1 h n λv2 h3 n4=>K (F38.fr a c d f i j q p s D b e g o l v w u E U V L M y z A H W B G P Q Z x33 x34 x35) h3 n4:=by kernel_rfl
theorem F38.go:zO tbl N C (.of 38) [a0] h n K0=IR.run F38.t113 C N (fnO F38.res K0) (zf F38.res K0) (F38.fr a0 .u .u .u .u .u .u .u .u .u .u .u .u .u .u .u .u .u .u .u .u .u .u .u .u .u .u .u .u .u .u .u .u .u .u .u) h n:=yE (F:=F38) (by kernel_rfl) (λ_=>by kernel_rfl) (by kernel_rfl)
theorem F38.ret:zf F38.res K0 (F38.fr a c d f i j q p s D b e g o l v w u E U V L M y z A H W B G P Q Z x33 x34 x35) h n=zI 2 d h λv1=>K0 v1 h n:=by kernel_rfl
theorem mq.zu:IR.run mq.t0 C N O K (mq.fr a c d f i j q p s D b e g o l v w u) h n=qm a h n λv1 h2 n3=>K (mq.fr a v1 (.str []) f i j q p s D b e g o l v w u) h2 n3:=by kernel_rfl
theorem mq.zo:IR.run mq.t1 C N O K (mq.fr a c d f i j q p s D b e g o l v w u) h n=zM 1 c λv1=>zH v1 h λv2=>za .eql (.nil .sl) v2 .zb λv3=>K (mq.fr a c d f i j q p s D b e v3 o l v w u) h n:=by kernel_rfl
theorem mq.yt:IR.run mq.t2 C N O K (mq.fr a c d f i j q p s D b e g o l v w u) h n=zM 0 c λv1=>zH v1 h λv2=>C.fn 222 (.of 222) [v2] h n λv3 h4 n5=>K (mq.fr a c v3 f i j q p s D b e g o l v w u) h4 n5:=by kernel_rfl
theorem mq.v12:Arg.ev (.t (.of 12)) ⟨(mq.fr a c d f i j q p s D b e g o l v w u),[]⟩=g:=by kernel_rfl
theorem mq.go:zO tbl N C (.of 187) [a0] h n K0=IR.run mq.t60 C N (fnO mq.res K0) (zf mq.res K0) (mq.fr a0 .u .u .u .u .u .u .u .u .u .u .u .u .u .u .u .u .u) h n:=yE (F:=mq) (by kernel_rfl) (λ_=>by kernel_rfl) (by kernel_rfl)
theorem mq.ret:zf mq.res K0 (mq.fr a c d f i j q p s D b e g o l v w u) h n=K0 d h n:=by kernel_rfl
theorem vg.zu:IR.run vg.t0 C N O K (vg.fr a c d f) h n=qm a h n λv1 h2 n3=>K (vg.fr a v1 (.str []) f) h2 n3:=by kernel_rfl
theorem vg.zo:IR.run vg.t1 C N O K (vg.fr a c d f) h n=zI 4 c h λv1=>C.fn 188 (.of 188) [v1] h n λv2 h3 n4=>K (vg.fr a c d v2) h3 n4:=by kernel_rfl
theorem vg.yt:IR.run vg.t2 C N O K (vg.fr a c d f) h n=zM 0 c λv1=>zI 2 v1 h λv2=>C.fn 187 (.of 187) [v2] h n λv3 h4 n5=>K (vg.fr a c v3 f) h4 n5:=by kernel_rfl
theorem vg.v3:Arg.ev (.t (.of 3)) ⟨(vg.fr a c d f),[]⟩=f:=by kernel_rfl
theorem vg.uj:IR.run vg.t6 C N O K (vg.fr a c d f) h n=zM 0 c λv1=>zI 2 v1 h λv2=>zM 2 c λv3=>zI 2 v3 h λv4=>C.fn 187 (.of 187) [v2] h n λv5 h6 n7=>(zI 2 v3 h6 λvC=>zX vC v4 ((zM 2 c λvD=>zX vD v3 (za .add .str v5 (.str [47]) λv8=>C.fn 187 (.of 187) [v4] h6 n7 λv9 hC nD=>(za .add .str v5 (.str [47]) λvY=>zX vY v8 (za .add .str v8 v9 λvO=>K (vg.fr a c vO f) hC nD)))))):=by kernel_rfl
theorem vg.go:zO tbl N C (.of 127) [a0] h n K0=IR.run vg.t9 C N (fnO vg.res K0) (zf vg.res K0) (vg.fr a0 .u .u .u) h n:=yE (F:=vg) (by kernel_rfl) (λ_=>by kernel_rfl) (by kernel_rfl)
theorem vg.ret:zf vg.res K0 (vg.fr a c d f) h n=K0 d h n:=by kernel_rfl
theorem F71.zu:IR.run F71.t0 C N O K (F71.fr a c d f i j q p s) h n=K (F71.fr a .zb d f i j q p s) h n:=by kernel_rfl
theorem F71.zo:IR.run F71.t1 C N O K (F71.fr a c d f i j q p s) h n=sLen a λv1=>uG 1 16 [(.str [])] v1 v1 h n λv2 h3 n4=>K (F71.fr a c v2 f i j q p s) h3 n4:=by kernel_rfl
theorem F71.yt:IR.run F71.t2 C N O K (F71.fr a c d f i j q p s) h n=sLen a λv1=>K (F71.fr a c d f i a v1 (I 0) s) h n:=by kernel_rfl
theorem F71.vk:IR.run F71.t3 C N O K (F71.fr a c d f i j q p s) h n=za .lss .int p q λv1=>K (F71.fr a c d f i j q p v1) h n:=by kernel_rfl
theorem F71.v8:Arg.ev (.t (.of 8)) ⟨(F71.fr a c d f i j q p s),[]⟩=s:=by kernel_rfl
theorem F71.dz:IR.run F71.t5 C N O K (F71.fr a c d f i j q p s) h n=zN 4 j p λv1=>zI 4 v1 h λv2=>yT [(I 0),.zb,(I 0),.zb] h n λv3 h4 n5=>yA 4 v3 v2 h4 n5 λv6 h7 n8=>K (F71.fr a c d p v3 j q p s) h7 n8:=by kernel_rfl
theorem F71.uj:IR.run F71.t6 C N O K (F71.fr a c d f i j q p s) h n=zI 4 i h λv1=>C.fn 127 (.of 127) [v1] h n λv2 h3 n4=>zN 1 d f λv5=>yA 1 v5 v2 h3 n4 λv6 h7 n8=>K (F71.fr a c d f i j q p s) h7 n8:=by kernel_rfl
theorem F71.rF:IR.run F71.t9 C N O K (F71.fr a c d f i j q p s) h n=za .add .int p (I 1) λv1=>K (F71.fr a c d f i j q v1 s) h n:=by kernel_rfl
theorem F71.eU (Inv:Nat->AV->T Blk->Pa->Prop) {m:Nat} (hm:m<N) (hi:Inv m p h n)
  (step:∀ (m:Nat) (z3 z4 z7 z8:AV) (h:T Blk) (n:Pa) (R:Ks Prop),Inv m z7 h n->(∀ (m':Nat) (w3 w4 w7 w8:AV) (h':T Blk) (n':Pa),m'<m->Inv m' w7 h' n'->R (F71.fr a c d w3 w4 j q w7 w8) h' n'=.ok True)->IR.run F71.t12 C N O R (F71.fr a c d z3 z4 j q z7 z8) h n=.ok True) :
  IR.run F71.t13 C N O K (F71.fr a c d f i j q p s) h n=.ok True:=by
 rw [F71.t13];refine yB (λm tm h n=>∃ z3 z4 z7 z8,tm=(F71.fr a c d z3 z4 j q z7 z8)/\Inv m z7 h n) ?_ hm ⟨_,_,_,_,rfl,hi⟩;rintro m _ h n R ⟨_,_,_,_,rfl,q⟩ p;exact step m _ _ _ _ h n R q λ_ _ _ _ _ _ _ x y=>p _ _ _ _ x ⟨_,_,_,_,rfl,y⟩
theorem F71.rU:IR.run F71.t16 C N O K (F71.fr a c d f i j q p s) h n=K (F71.fr a d d f i j q p s) h n:=by kernel_rfl
theorem F71.go:zO tbl N C (.of 71) [a0] h n K0=IR.run F71.t20 C N (fnO F71.res K0) (zf F71.res K0) (F71.fr a0 .u .u .u .u .u .u .u .u) h n:=yE (F:=F71) (by kernel_rfl) (λ_=>by kernel_rfl) (by kernel_rfl)
theorem F71.ret:zf F71.res K0 (F71.fr a c d f i j q p s) h n=K0 c h n:=by kernel_rfl
theorem jm.zu:IR.run jm.t0 C N O K (jm.fr a c d f i) h n=qm a h n λv1 h2 n3=>K (jm.fr a v1 (I 0) f i) h2 n3:=by kernel_rfl
theorem jm.zo:IR.run jm.t1 C N O K (jm.fr a c d f i) h n=zI 2 c h λv1=>C.fn 193 (.of 193) [v1] h n λv2 h3 n4=>di 0 v2 λv5=>di 1 v2 λv6=>K (jm.fr a c d v6 i) h3 n4:=by kernel_rfl
theorem jm.yt:IR.run jm.t2 C N O K (jm.fr a c d f i) h n=sLen f λv1=>za .eql .int v1 (I 0) λv2=>K (jm.fr a c d f v2) h n:=by kernel_rfl
theorem jm.vk:IR.run jm.t3 C N O K (jm.fr a c d f i) h n=K (jm.fr a c (I 0) f i) h n:=by kernel_rfl
theorem jm.v4:Arg.ev (.t (.of 4)) ⟨(jm.fr a c d f i),[]⟩=i:=by kernel_rfl
theorem jm.ng:IR.run jm.t7 C N O K tm h n=zZ jm.r4_0 C ⟨tm,[]⟩ h n (λtm h n=>K tm.v h n):=jJ ..
theorem jm.zes:zZ (jm.zgm r) C ⟨(jm.fr a c d f i),[]⟩ h n Kt=sLen f λv1=>za .sub .int v1 (I 1) λv2=>za .mul .int (I 64) v2 λv3=>sLen f λv4=>za .sub .int v4 (I 1) λv5=>zZ r C ⟨(jm.fr a c d f i),v5::v4::f::f::v3::v2::v1::f::[]⟩ h n Kt:=by kernel_rfl
theorem jm.zet:zZ (jm.zgn r) C ⟨(jm.fr a c d f i),s0::s1::s2::s3::sT⟩ h n Kt=zN 1 s3 s0 λv1=>zH v1 h λv2=>C.fn 184 (.of 184) [v2] h n λv3 h4 n5=>zZ r C ⟨(jm.fr a c d f i),v3::v2::v1::s0::s1::s2::s3::sT⟩ h4 n5 Kt:=by kernel_rfl
theorem jm.zye:zZ (jm.zwy []) C ⟨(jm.fr a c d f i),s0::s1::s2::s3::s4::s5::s6::s7::sT⟩ h n Kt=za .add .int s7 s0 λv1=>Kt ⟨(jm.fr a c v1 f i),v1::s0::s1::s2::s3::s4::s5::s6::s7::sT⟩ h n:=by kernel_rfl
theorem jm.go:zO tbl N C (.of 185) [a0] h n K0=IR.run jm.t11 C N (fnO jm.res K0) (zf jm.res K0) (jm.fr a0 .u .u .u .u) h n:=yE (F:=jm) (by kernel_rfl) (λ_=>by kernel_rfl) (by kernel_rfl)
theorem jm.ret:zf jm.res K0 (jm.fr a c d f i) h n=K0 d h n:=by kernel_rfl
theorem ul.zu:IR.run ul.t0 C N O K (ul.fr a c d) h n=qm a h n λv1 h2 n3=>K (ul.fr a v1 (.bool false)) h2 n3:=by kernel_rfl
theorem ul.zo:IR.run ul.t1 C N O K tm h n=zZ ul.sH C ⟨tm,[]⟩ h n (λtm h n=>K tm.v h n):=jJ ..
theorem ul.sJ:zZ (ul.rR r) C ⟨(ul.fr a c d),[]⟩ h n Kt=zI 2 c h λv1=>C.fn 185 (.of 185) [v1] h n λv2 h3 n4=>zZ r C ⟨(ul.fr a c d),v2::v1::[]⟩ h3 n4 Kt:=by kernel_rfl
theorem ul.rM:zZ (ul.rT r) C ⟨(ul.fr a c d),s0::sT⟩ h n Kt=za .gtr .int s0 (I 1800) λv1=>sG v1 true (λk=>zI 2 c h k) λv2=>sGW v1 true (λk=>C.fn 187 (.of 187) [v2] h n k) h n λv3 h4 n5=>zZ r C ⟨(ul.fr a c d),v3::v2::v1::v1::s0::sT⟩ h4 n5 Kt:=by kernel_rfl
theorem ul.zev:zZ (ul.zgp r) C ⟨(ul.fr a c d),s0::s1::s2::sT⟩ h n Kt=sGW s2 true (λk=>C.fn 186 (.of 186) [s0,(.str [45])] h n k) h n λv1 h2 n3=>zZ r C ⟨(ul.fr a c d),v1::s0::s1::s2::sT⟩ h2 n3 Kt:=by kernel_rfl
theorem ul.oD:zZ (ul.zgq []) C ⟨(ul.fr a c d),s0::s1::s2::s3::sT⟩ h n Kt=sG s3 true (λk=>uO s0 k) λv1=>sG s3 true (λk=>za .gtr .int v1 (I 600) k) λv2=>yO s3 v2 (.bool false) λv3=>Kt ⟨(ul.fr a c v3),v3::v2::v1::s0::s1::s2::s3::sT⟩ h n:=by kernel_rfl
theorem ul.go:zO tbl N C (.of 126) [a0] h n K0=IR.run ul.t3 C N (fnO ul.res K0) (zf ul.res K0) (ul.fr a0 .u .u) h n:=yE (F:=ul) (by kernel_rfl) (λ_=>by kernel_rfl) (by kernel_rfl)
theorem ul.ret:zf ul.res K0 (ul.fr a c d) h n=K0 d h n:=by kernel_rfl
theorem F70.zu:IR.run F70.t0 C N O K (F70.fr a c d) h n=qm a h n λv1 h2 n3=>K (F70.fr a v1 (.bool false)) h2 n3:=by kernel_rfl
theorem F70.zo:IR.run F70.t1 C N O K (F70.fr a c d) h n=zM 0 c λv1=>zI 2 v1 h λv2=>C.fn 126 (.of 126) [v2] h n λv3 h4 n5=>sG v3 false (λk=>zM 2 c k) λv6=>sG v3 false (λk=>zI 2 v6 h4 k) λv7=>sGW v3 false (λk=>C.fn 126 (.of 126) [v7] h4 n5 k) h4 n5 λv8 h9 nA=>yO v3 (.bool true) v8 λvE=>K (F70.fr a c vE) h9 nA:=by kernel_rfl
theorem F70.go:zO tbl N C (.of 70) [a0] h n K0=IR.run F70.t3 C N (fnO F70.res K0) (zf F70.res K0) (F70.fr a0 .u .u) h n:=yE (F:=F70) (by kernel_rfl) (λ_=>by kernel_rfl) (by kernel_rfl)
theorem F70.ret:zf F70.res K0 (F70.fr a c d) h n=K0 d h n:=by kernel_rfl
theorem jl.zu:IR.run jl.t0 C N O K (jl.fr a c d f i j q p) h n=K (jl.fr a c (I 0) f i j q p) h n:=by kernel_rfl
theorem jl.zo:IR.run jl.t1 C N O K (jl.fr a c d f i j q p) h n=sLen a λv1=>K (jl.fr a c d f v1 (I 0) q p) h n:=by kernel_rfl
theorem jl.yt:IR.run jl.t2 C N O K (jl.fr a c d f i j q p) h n=za .lss .int j i λv1=>K (jl.fr a c d f i j v1 p) h n:=by kernel_rfl
theorem jl.v6:Arg.ev (.t (.of 6)) ⟨(jl.fr a c d f i j q p),[]⟩=q:=by kernel_rfl
theorem jl.nY:IR.run jl.t4 C N O K (jl.fr a c d f i j q p) h n=K (jl.fr a c d j i j q p) h n:=by kernel_rfl
theorem jl.dz:IR.run jl.t5 C N O K (jl.fr a c d f i j q p) h n=zN 4 a f λv1=>zI 4 v1 h λv2=>zc3 C c [v2] h n λv3 h4 n5=>K (jl.fr a c d f i j q v3) h4 n5:=by kernel_rfl
theorem jl.v7:Arg.ev (.t (.of 7)) ⟨(jl.fr a c d f i j q p),[]⟩=p:=by kernel_rfl
theorem jl.nZ:IR.run jl.t12 C N O K (jl.fr a c d f i j q p) h n=za .add .int j (I 1) λv1=>K (jl.fr a c d f i v1 q p) h n:=by kernel_rfl
theorem jl.eT (Inv:Nat->AV->T Blk->Pa->Prop) {m:Nat} (hm:m<N) (hi:Inv m j h n)
  (step:∀ (m:Nat) (z2 z3 z5 z6 z7:AV) (h:T Blk) (n:Pa) (R:Ks Prop),Inv m z5 h n->(∀ (m':Nat) (w2 w3 w5 w6 w7:AV) (h':T Blk) (n':Pa),m'<m->Inv m' w5 h' n'->R (jl.fr a c w2 w3 i w5 w6 w7) h' n'=.ok True)->IR.run jl.t15 C N O R (jl.fr a c z2 z3 i z5 z6 z7) h n=.ok True) :
  IR.run jl.t16 C N O K (jl.fr a c d f i j q p) h n=.ok True:=by
 rw [jl.t16];refine yB (λm tm h n=>∃ z2 z3 z5 z6 z7,tm=(jl.fr a c z2 z3 i z5 z6 z7)/\Inv m z5 h n) ?_ hm ⟨_,_,_,_,_,rfl,hi⟩;rintro m _ h n R ⟨_,_,_,_,_,rfl,q⟩ p;exact step m _ _ _ _ _ h n R q λ_ _ _ _ _ _ _ _ x y=>p _ _ _ _ x ⟨_,_,_,_,_,rfl,y⟩
theorem jl.rY:IR.run jl.t19 C N O K (jl.fr a c d f i j q p) h n=K (jl.fr a c (I (-1)) f i j q p) h n:=by kernel_rfl
theorem jl.go:zO tbl N C (.of 125) [a0,a1] h n K0=IR.run jl.t22 C N (fnO jl.res K0) (zf jl.res K0) (jl.fr a0 a1 .u .u .u .u .u .u) h n:=yE (F:=jl) (by kernel_rfl) (λ_=>by kernel_rfl) (by kernel_rfl)
theorem jl.ret:zf jl.res K0 (jl.fr a c d f i j q p) h n=K0 d h n:=by kernel_rfl
theorem F69.zu:IR.run F69.t0 C N O K (F69.fr a c d) h n=K (F69.fr a c (.bool false)) h n:=by kernel_rfl
theorem F69.zo:IR.run F69.t1 C N O K (F69.fr a c d) h n=C.fn 125 (.of 125) [a,c] h n λv1 h2 n3=>za .geq .int v1 (I 0) λv4=>K (F69.fr a c v4) h2 n3:=by kernel_rfl
theorem F69.go:zO tbl N C (.of 69) [a0,a1] h n K0=IR.run F69.t3 C N (fnO F69.res K0) (zf F69.res K0) (F69.fr a0 a1 .u) h n:=yE (F:=F69) (by kernel_rfl) (λ_=>by kernel_rfl) (by kernel_rfl)
theorem F69.ret:zf F69.res K0 (F69.fr a c d) h n=K0 d h n:=by kernel_rfl
theorem F37.zu:IR.run F37.t0 C N O K (F37.fr a c d f i j q p s D) h n=K (F37.fr a .zb (I 0) f i j q p s D) h n:=by kernel_rfl
theorem F37.zo:IR.run F37.t1 C N O K (F37.fr a c d f i j q p s D) h n=K (F37.fr a c d .zb i j q p s D) h n:=by kernel_rfl
theorem F37.yt:IR.run F37.t2 C N O K (F37.fr a c d f i j q p s D) h n=sLen a λv1=>K (F37.fr a c d f i a v1 (I 0) s D) h n:=by kernel_rfl
theorem F37.vk:IR.run F37.t3 C N O K (F37.fr a c d f i j q p s D) h n=za .lss .int p q λv1=>K (F37.fr a c d f i j q p v1 D) h n:=by kernel_rfl
theorem F37.v8:Arg.ev (.t (.of 8)) ⟨(F37.fr a c d f i j q p s D),[]⟩=s:=by kernel_rfl
theorem F37.dz:IR.run F37.t5 C N O K (F37.fr a c d f i j q p s D) h n=zN 1 j p λv1=>zH v1 h λv2=>K (F37.fr a c d f v2 j q p s D) h n:=by kernel_rfl
theorem F37.uj:IR.run F37.t6 C N O K (F37.fr a c d f i j q p s D) h n=C.fn 69 (.of 69) [i,(.fn 70 (.of 70) [])] h n λv1 h2 n3=>K (F37.fr a c d f i j q p s v1) h2 n3:=by kernel_rfl
theorem F37.v9:Arg.ev (.t (.of 9)) ⟨(F37.fr a c d f i j q p s D),[]⟩=D:=by kernel_rfl
theorem F37.qz:IR.run F37.t11 C N O K (F37.fr a c d f i j q p s D) h n=C.fn 71 (.of 71) [i] h n λv1 h2 n3=>y3 1 1 [.zb] [(0,1,v1)] h2 n3 λv4 h5 n6=>tJ 1 24 f v4 h5 n6 λv7 h8 n9=>K (F37.fr a c d v7 i j q p s D) h8 n9:=by kernel_rfl
theorem F37.zge:IR.run F37.t15 C N O K (F37.fr a c d f i j q p s D) h n=za .add .int p (I 1) λv1=>K (F37.fr a c d f i j q v1 s D) h n:=by kernel_rfl
theorem F37.zgl (Inv:Nat->AV->AV->T Blk->Pa->Prop) {m:Nat} (hm:m<N) (hi:Inv m f p h n)
  (step:∀ (m:Nat) (z1 z2 z3 z4 z7 z8 z9:AV) (h:T Blk) (n:Pa) (R:Ks Prop),Inv m z3 z7 h n->(∀ (m':Nat) (w1 w2 w3 w4 w7 w8 w9:AV) (h':T Blk) (n':Pa),m'<m->Inv m' w3 w7 h' n'->R (F37.fr a w1 w2 w3 w4 j q w7 w8 w9) h' n'=.ok True)->IR.run F37.t18 C N O R (F37.fr a z1 z2 z3 z4 j q z7 z8 z9) h n=.ok True) :
  IR.run F37.t19 C N O K (F37.fr a c d f i j q p s D) h n=.ok True:=by
 rw [F37.t19];refine yB (λm tm h n=>∃ z1 z2 z3 z4 z7 z8 z9,tm=(F37.fr a z1 z2 z3 z4 j q z7 z8 z9)/\Inv m z3 z7 h n) ?_ hm ⟨_,_,_,_,_,_,_,rfl,hi⟩;rintro m _ h n R ⟨_,_,_,_,_,_,_,rfl,q⟩ p;exact step m _ _ _ _ _ _ _ h n R q λ_ _ _ _ _ _ _ _ _ _ x y=>p _ _ _ _ x ⟨_,_,_,_,_,_,_,rfl,y⟩
theorem F37.tT:IR.run F37.t22 C N O K (F37.fr a c d f i j q p s D) h n=K (F37.fr a f (I 0) f i j q p s D) h n:=by kernel_rfl
theorem F37.go:zO tbl N C (.of 37) [a0] h n K0=IR.run F37.t26 C N (fnO F37.res K0) (zf F37.res K0) (F37.fr a0 .u .u .u .u .u .u .u .u .u) h n:=yE (F:=F37) (by kernel_rfl) (λ_=>by kernel_rfl) (by kernel_rfl)
theorem F37.ret:zf F37.res K0 (F37.fr a c d f i j q p s D) h n=K0 (.tup [c,d]) h n:=by kernel_rfl
theorem F11.zu:IR.run F11.t0 C N O K (F11.fr a c d f i j) h n=qm a h n λv1 h2 n3=>K (F11.fr a v1 .zb (I 0) i j) h2 n3:=by kernel_rfl
theorem F11.zo:IR.run F11.t1 C N O K (F11.fr a c d f i j) h n=zI 2 c h λv1=>C.fn 28 (.of 28) [v1] h n λv2 h3 n4=>K (F11.fr a c d f v2 j) h3 n4:=by kernel_rfl
theorem F11.yt:IR.run F11.t2 C N O K (F11.fr a c d f i j) h n=za .neq .int i (I 0) λv1=>K (F11.fr a c d f i v1) h n:=by kernel_rfl
theorem F11.v5:Arg.ev (.t (.of 5)) ⟨(F11.fr a c d f i j),[]⟩=j:=by kernel_rfl
theorem F11.rE:IR.run F11.t8 C N O K (F11.fr a c d f i j) h n=zI 2 c h λv1=>C.fn 38 (.of 38) [v1] h n λv2 h3 n4=>zgr 1 none v2 λv5=>C.fn 37 (.of 37) [v5] h3 n4 λv6 h7 n8=>di 0 v6 λv9=>di 1 v6 λvF=>K (F11.fr a c v9 vF i j) h7 n8:=by kernel_rfl
theorem F11.go:zO tbl N C (.of 11) [a0] h n K0=IR.run F11.t11 C N (fnO F11.res K0) (zf F11.res K0) (F11.fr a0 .u .u .u .u .u) h n:=yE (F:=F11) (by kernel_rfl) (λ_=>by kernel_rfl) (by kernel_rfl)
theorem F11.ret:zf F11.res K0 (F11.fr a c d f i j) h n=K0 (.tup [d,f]) h n:=by kernel_rfl
theorem je.zu:IR.run je.t0 C N O K (je.fr a c d f i) h n=K (je.fr a (.bool false) d f i) h n:=by kernel_rfl
theorem je.zo:IR.run je.t1 C N O K (je.fr a c d f i) h n=K (je.fr a c (I 0) f i) h n:=by kernel_rfl
theorem je.yt:IR.run je.t2 C N O K (je.fr a c d f i) h n=uO a λv1=>za .lss .int d v1 λv2=>K (je.fr a c d v2 i) h n:=by kernel_rfl
theorem je.v3:Arg.ev (.t (.of 3)) ⟨(je.fr a c d f i),[]⟩=f:=by kernel_rfl
theorem je.dz:IR.run je.t5 C N O K tm h n=zZ je.r3_0 C ⟨tm,[]⟩ h n (λtm h n=>K tm.v h n):=jJ ..
theorem je.zi8:zZ (je.zgs r) C ⟨(je.fr a c d f i),[]⟩ h n Kt=wU a d λv1=>za .lss .int v1 (.int .u8 48) λv2=>sG v2 false (λk=>k a) λv3=>sG v2 false (λk=>k d) λv4=>sG v2 false (λk=>wU v3 v4 k) λv5=>zZ r C ⟨(je.fr a c d f i),v5::v4::v3::v2::v2::v1::d::a::[]⟩ h n Kt:=by kernel_rfl
theorem je.zew:zZ (je.zgt []) C ⟨(je.fr a c d f i),s0::s1::s2::s3::sT⟩ h n Kt=sG s3 false (λk=>za .gtr .int s0 (.int .u8 57) k) λv1=>yO s3 (.bool true) v1 λv2=>Kt ⟨(je.fr a c d f v2),v1::s0::s1::s2::s3::sT⟩ h n:=by kernel_rfl
theorem je.v4:Arg.ev (.t (.of 4)) ⟨(je.fr a c d f i),[]⟩=i:=by kernel_rfl
theorem je.qz:IR.run je.t11 C N O K (je.fr a c d f i) h n=za .add .int d (I 1) λv1=>K (je.fr a c v1 f i) h n:=by kernel_rfl
theorem je.zae (Inv:Nat->AV->T Blk->Pa->Prop) {m:Nat} (hm:m<N) (hi:Inv m d h n)
  (step:∀ (m:Nat) (z1 z2 z3 z4:AV) (h:T Blk) (n:Pa) (R:Ks Prop),Inv m z2 h n->(∀ (m':Nat) (w1 w2 w3 w4:AV) (h':T Blk) (n':Pa),m'<m->Inv m' w2 h' n'->R (je.fr a w1 w2 w3 w4) h' n'=.ok True)->IR.run je.t13 C N O R (je.fr a z1 z2 z3 z4) h n=.ok True) :
  IR.run je.t14 C N O K (je.fr a c d f i) h n=.ok True:=by
 rw [je.t14];refine yB (λm tm h n=>∃ z1 z2 z3 z4,tm=(je.fr a z1 z2 z3 z4)/\Inv m z2 h n) ?_ hm ⟨_,_,_,_,rfl,hi⟩;rintro m _ h n R ⟨_,_,_,_,rfl,q⟩ p;exact step m _ _ _ _ h n R q λ_ _ _ _ _ _ _ x y=>p _ _ _ _ x ⟨_,_,_,_,rfl,y⟩
theorem je.rG:IR.run je.t17 C N O K (je.fr a c d f i) h n=K (je.fr a (.bool true) d f i) h n:=by kernel_rfl
theorem je.go:zO tbl N C (.of 136) [a0] h n K0=IR.run je.t20 C N (fnO je.res K0) (zf je.res K0) (je.fr a0 .u .u .u .u) h n:=yE (F:=je) (by kernel_rfl) (λ_=>by kernel_rfl) (by kernel_rfl)
theorem je.ret:zf je.res K0 (je.fr a c d f i) h n=K0 c h n:=by kernel_rfl
theorem F82.zu:IR.run F82.t0 C N O K (F82.fr a c d) h n=K (F82.fr a (.bool false) d) h n:=by kernel_rfl
theorem F82.zo:IR.run F82.t1 C N O K tm h n=zZ F82.sH C ⟨tm,[]⟩ h n (λtm h n=>K tm.v h n):=jJ ..
theorem F82.sJ:zZ (F82.rR r) C ⟨(F82.fr a c d),[]⟩ h n Kt=uO a λv1=>za .eql .int v1 (I 0) λv2=>sG v2 false (λk=>k a) λv3=>sG v2 false (λk=>uO v3 k) λv4=>sG v2 false (λk=>za .gtr .int v4 (I 1) k) λv5=>sG v2 false (λk=>k v5) λv6=>zZ r C ⟨(F82.fr a c d),v6::v5::v4::v3::v2::v2::v1::a::[]⟩ h n Kt:=by kernel_rfl
theorem F82.rM:zZ (F82.rT []) C ⟨(F82.fr a c d),s0::s1::s2::s3::s4::sT⟩ h n Kt=sG s0 true (λk=>k a) λv1=>sG s0 true (λk=>wU v1 (I 0) k) λv2=>sG s0 true (λk=>za .eql .int v2 (.int .u8 48) k) λv3=>sG s4 false (λk=>yO s0 v3 (.bool false) k) λv4=>yO s4 (.bool true) v4 λv5=>Kt ⟨(F82.fr a c v5),v4::v3::v2::v1::s0::s1::s2::s3::s4::sT⟩ h n:=by kernel_rfl
theorem F82.v2:Arg.ev (.t (.of 2)) ⟨(F82.fr a c d),[]⟩=d:=by kernel_rfl
theorem F82.uj:IR.run F82.t6 C N O K (F82.fr a c d) h n=C.fn 136 (.of 136) [a] h n λv1 h2 n3=>K (F82.fr a v1 d) h2 n3:=by kernel_rfl
theorem F82.go:zO tbl N C (.of 82) [a0] h n K0=IR.run F82.t9 C N (fnO F82.res K0) (zf F82.res K0) (F82.fr a0 .u .u) h n:=yE (F:=F82) (by kernel_rfl) (λ_=>by kernel_rfl) (by kernel_rfl)
theorem F82.ret:zf F82.res K0 (F82.fr a c d) h n=K0 c h n:=by kernel_rfl
theorem F39.zu:IR.run F39.t0 C N O K (F39.fr a c d f i j q p s D b e g) h n=K (F39.fr a (I 0) d f i j q p s D b e g) h n:=by kernel_rfl
theorem F39.zo:IR.run F39.t1 C N O K (F39.fr a c d f i j q p s D b e g) h n=K (F39.fr a c a f i j q p s D b e g) h n:=by kernel_rfl
theorem F39.yt:IR.run F39.t2 C N O K (F39.fr a c d f i j q p s D b e g) h n=uO d λv1=>za .gtr .int v1 (I 0) λv2=>sG v2 true (λk=>k d) λv3=>sG v2 true (λk=>wU v3 (I 0) k) λv4=>sG v2 true (λk=>za .eql .int v4 (.int .u8 45) k) λv5=>yO v2 v5 (.bool false) λv6=>K (F39.fr a c d f i j q v6 s D b e g) h n:=by kernel_rfl
theorem F39.vk:IR.run F39.t3 C N O K (F39.fr a c d f i j q p s D b e g) h n=j4 d (some (I 1)) none λv1=>K (F39.fr a c v1 f i j q p s D b e g) h n:=by kernel_rfl
theorem F39.v7:Arg.ev (.t (.of 7)) ⟨(F39.fr a c d f i j q p s D b e g),[]⟩=p:=by kernel_rfl
theorem F39.uj:IR.run F39.t6 C N O K (F39.fr a c d f i j q p s D b e g) h n=C.fn 81 (.of 81) [d] h n λv1 h2 n3=>K (F39.fr a c d v1 i j q p s D b e g) h2 n3:=by kernel_rfl
theorem F39.ng:IR.run F39.t7 C N O K tm h n=zZ F39.r5_0 C ⟨tm,[]⟩ h n (λtm h n=>K tm.v h n):=jJ ..
theorem F39.zyf:zZ (F39.zwz r) C ⟨(F39.fr a c d f i j q p s D b e g),[]⟩ h n Kt=j4 d none (some f) λv1=>C.fn 82 (.of 82) [v1] h n λv2 h3 n4=>zZ r C ⟨(F39.fr a c d f i j q p s D b e g),v2::v1::f::d::[]⟩ h3 n4 Kt:=by kernel_rfl
theorem F39.zyg:zZ (F39.zw0 r) C ⟨(F39.fr a c d f i j q p s D b e g),s0::sT⟩ h n Kt=sNot s0 λv1=>sG v1 false (λk=>k a) λv2=>sG v1 false (λk=>wU v2 (I 0) k) λv3=>sG v1 false (λk=>za .eql .int v3 (.int .u8 45) k) λv4=>sG v1 false (λk=>k v4) λv5=>sG v5 true (λk=>k d) λv6=>sG v5 true (λk=>k f) λv7=>zZ r C ⟨(F39.fr a c d f i j q p s D b e g),v7::v6::v5::v4::v3::v2::v1::v1::s0::sT⟩ h n Kt:=by kernel_rfl
theorem F39.zo6:zZ (F39.zw1 []) C ⟨(F39.fr a c d f i j q p s D b e g),s0::s1::s2::s3::s4::s5::s6::sT⟩ h n Kt=sG s2 true (λk=>j4 s1 none (some s0) k) λv1=>sG s2 true (λk=>za .eql .str v1 (.str [48]) k) λv2=>sG s6 false (λk=>yO s2 v2 (.bool false) k) λv3=>yO s6 (.bool true) v3 λv4=>Kt ⟨(F39.fr a c d f i j q p v4 D b e g),v3::v2::v1::s0::s1::s2::s3::s4::s5::s6::sT⟩ h n:=by kernel_rfl
theorem F39.v8:Arg.ev (.t (.of 8)) ⟨(F39.fr a c d f i j q p s D b e g),[]⟩=s:=by kernel_rfl
theorem F39.nZ:IR.run F39.t12 C N O K tm h n=zZ F39.r7_0 C ⟨tm,[]⟩ h n (λtm h n=>K tm.v h n):=jJ ..
theorem F39.zyh:zZ (F39.zw2 r) C ⟨(F39.fr a c d f i j q p s D b e g),[]⟩ h n Kt=uO d λv1=>za .lss .int f v1 λv2=>sG v2 true (λk=>k d) λv3=>sG v2 true (λk=>k f) λv4=>sG v2 true (λk=>za .add .int v4 (I 1) k) λv5=>zZ r C ⟨(F39.fr a c d f i j q p s D b e g),v5::v4::v3::v2::v2::v1::d::f::[]⟩ h n Kt:=by kernel_rfl
theorem F39.zo7:zZ (F39.zw3 r) C ⟨(F39.fr a c d f i j q p s D b e g),s0::s1::s2::s3::sT⟩ h n Kt=sG s3 true (λk=>j4 s2 (some s0) none k) λv1=>sGW s3 true (λk=>C.fn 82 (.of 82) [v1] h n k) h n λv2 h3 n4=>zZ r C ⟨(F39.fr a c d f i j q p s D b e g),v2::v1::s0::s1::s2::s3::sT⟩ h3 n4 Kt:=by kernel_rfl
theorem F39.zo8:zZ (F39.zw4 r) C ⟨(F39.fr a c d f i j q p s D b e g),s0::s1::s2::s3::s4::s5::sT⟩ h n Kt=sG s5 true (λk=>sNot s0 k) λv1=>sG s5 true (λk=>k v1) λv2=>sG v2 false (λk=>k d) λv3=>sG v2 false (λk=>k f) λv4=>sG v2 false (λk=>za .add .int v4 (I 1) k) λv5=>sG v2 false (λk=>j4 v3 (some v5) none k) λv6=>sG v2 false (λk=>za .eql .str v6 (.str [48]) k) λv7=>sG s5 true (λk=>yO v2 (.bool true) v7 k) λv8=>zZ r C ⟨(F39.fr a c d f i j q p s D b e g),v8::v7::v6::v5::v4::v3::v2::v1::s0::s1::s2::s3::s4::s5::sT⟩ h n Kt:=by kernel_rfl
theorem F39.zo9:zZ (F39.zw5 []) C ⟨(F39.fr a c d f i j q p s D b e g),s0::s1::s2::s3::s4::s5::s6::s7::s8::s9::s10::s11::s12::s13::sT⟩ h n Kt=sG s13 true (λk=>k s0) λv1=>sG v1 false (λk=>k d) λv2=>sG v1 false (λk=>k f) λv3=>sG v1 false (λk=>za .add .int v3 (I 1) k) λv4=>sG v1 false (λk=>j4 v2 (some v4) none k) λv5=>sG v1 false (λk=>za .eql .str v5 (.str [49]) k) λv6=>sG s13 true (λk=>yO v1 (.bool true) v6 k) λv7=>yO s13 v7 (.bool false) λv8=>Kt ⟨(F39.fr a c d f i j q p s v8 b e g),v7::v6::v5::v4::v3::v2::v1::s0::s1::s2::s3::s4::s5::s6::s7::s8::s9::s10::s11::s12::s13::sT⟩ h n:=by kernel_rfl
theorem F39.v9:Arg.ev (.t (.of 9)) ⟨(F39.fr a c d f i j q p s D b e g),[]⟩=D:=by kernel_rfl
theorem F39.rG:IR.run F39.t17 C N O K tm h n=zZ F39.r9_0 C ⟨tm,[]⟩ h n (λtm h n=>K tm.v h n):=jJ ..
theorem F39.zyi:zZ (F39.zw6 r) C ⟨(F39.fr a c d f i j q p s D b e g),[]⟩ h n Kt=za .gtr .int f (I 600) λv1=>sG v1 false (λk=>k d) λv2=>sG v1 false (λk=>uO v2 k) λv3=>sG v1 false (λk=>k f) λv4=>sG v1 false (λk=>za .sub .int v3 v4 k) λv5=>sG v1 false (λk=>za .sub .int v5 (I 1) k) λv6=>zZ r C ⟨(F39.fr a c d f i j q p s D b e g),v6::v5::v4::v3::v2::v1::v1::f::[]⟩ h n Kt:=by kernel_rfl
theorem F39.zyj:zZ (F39.zw7 []) C ⟨(F39.fr a c d f i j q p s D b e g),s0::s1::s2::s3::s4::s5::sT⟩ h n Kt=sG s5 false (λk=>za .gtr .int s0 (I 600) k) λv1=>yO s5 (.bool true) v1 λv2=>Kt ⟨(F39.fr a c d f i j q p s D v2 e g),v1::s0::s1::s2::s3::s4::s5::sT⟩ h n:=by kernel_rfl
theorem F39.v10:Arg.ev (.t (.of 10)) ⟨(F39.fr a c d f i j q p s D b e g),[]⟩=b:=by kernel_rfl
theorem F39.tT:IR.run F39.t22 C N O K (F39.fr a c d f i j q p s D b e g) h n=uO d λv1=>za .lss .int f v1 λv2=>K (F39.fr a c d f i j q p s D b v2 g) h n:=by kernel_rfl
theorem F39.zgi:IR.run F39.t23 C N O K (F39.fr a c d f i j q p s D b e g) h n=C.fn 83 (.of 83) [d] h n λv1 h2 n3=>di 0 v1 λv4=>di 1 v1 λv5=>yT [(.bool false),.zb] h2 n3 λv6 h7 n8=>yT [(.bool false),.zb] h7 n8 λv9 hC nD=>yA 2 v6 v4 hC nD λvO hD nE=>yA 2 v9 v5 hD nE λvC hE nF=>K (F39.fr a c d f v6 v9 q p s D b e g) hE nF:=by kernel_rfl
theorem F39.zad:IR.run F39.t24 C N O K (F39.fr a c d f i j q p s D b e g) h n=zM 1 i λv1=>zH v1 h λv2=>zM 1 j λv3=>zH v3 h λv4=>C.fn 84 (.of 84) [v2,v4] h n λv5 h6 n7=>K (F39.fr a c d f i j v5 p s D b e g) h6 n7:=by kernel_rfl
theorem F39.zoy:IR.run F39.t25 C N O K tm h n=zZ F39.zpa C ⟨tm,[]⟩ h n (λtm h n=>K tm.v h n):=jJ ..
theorem F39.ztv:zZ (F39.zpb r) C ⟨(F39.fr a c d f i j q p s D b e g),[]⟩ h n Kt=sLen q λv1=>za .neq .int v1 (I 1) λv2=>sG v2 false (λk=>k q) λv3=>sG v2 false (λk=>zN 1 v3 (I 0) k) λv4=>sG v2 false (λk=>zH v4 h k) λv5=>sG v2 false (λk=>za .neq .int v5 (I 1) k) λv6=>zZ r C ⟨(F39.fr a c d f i j q p s D b e g),v6::v5::v4::v3::v2::v2::v1::q::[]⟩ h n Kt:=by kernel_rfl
theorem F39.ztw:zZ (F39.zpc []) C ⟨(F39.fr a c d f i j q p s D b e g),s0::s1::s2::s3::s4::sT⟩ h n Kt=yO s4 (.bool true) s0 λv1=>Kt ⟨(F39.fr a c d f i j q p s D b e v1),s0::s1::s2::s3::s4::sT⟩ h n:=by kernel_rfl
theorem F39.v12:Arg.ev (.t (.of 12)) ⟨(F39.fr a c d f i j q p s D b e g),[]⟩=g:=by kernel_rfl
theorem F39.v11:Arg.ev (.t (.of 11)) ⟨(F39.fr a c d f i j q p s D b e g),[]⟩=e:=by kernel_rfl
theorem F39.zc5:IR.run F39.t34 C N O K (F39.fr a c d f i j q p s D b e g) h n=K (F39.fr a (I 0) d f i j q p s D b e g) h n:=by kernel_rfl
theorem F39.go:zO tbl N C (.of 39) [a0] h n K0=IR.run F39.t43 C N (fnO F39.res K0) (zf F39.res K0) (F39.fr a0 .u .u .u .u .u .u .u .u .u .u .u .u) h n:=yE (F:=F39) (by kernel_rfl) (λ_=>by kernel_rfl) (by kernel_rfl)
theorem F39.ret:zf F39.res K0 (F39.fr a c d f i j q p s D b e g) h n=K0 c h n:=by kernel_rfl
theorem F12.zu:IR.run F12.t0 C N O K (F12.fr a c d f i j) h n=K (F12.fr a (I 0) d f i j) h n:=by kernel_rfl
theorem F12.zo:IR.run F12.t1 C N O K (F12.fr a c d f i j) h n=K (F12.fr a c (I 0) f i j) h n:=by kernel_rfl
theorem F12.yt:IR.run F12.t2 C N O K (F12.fr a c d f i j) h n=sLen a λv1=>za .lss .int d v1 λv2=>K (F12.fr a c d f v2 j) h n:=by kernel_rfl
theorem F12.v4:Arg.ev (.t (.of 4)) ⟨(F12.fr a c d f i j),[]⟩=i:=by kernel_rfl
theorem F12.dz:IR.run F12.t5 C N O K (F12.fr a c d f i j) h n=zN 1 a d λv1=>zH v1 h λv2=>C.fn 39 (.of 39) [v2] h n λv3 h4 n5=>K (F12.fr a c d v3 i j) h4 n5:=by kernel_rfl
theorem F12.uj:IR.run F12.t6 C N O K (F12.fr a c d f i j) h n=za .neq .int f (I 0) λv1=>K (F12.fr a c d f i v1) h n:=by kernel_rfl
theorem F12.v5:Arg.ev (.t (.of 5)) ⟨(F12.fr a c d f i j),[]⟩=j:=by kernel_rfl
theorem F12.rX:IR.run F12.t13 C N O K (F12.fr a c d f i j) h n=za .add .int d (I 1) λv1=>K (F12.fr a c v1 f i j) h n:=by kernel_rfl
theorem F12.eT (Inv:Nat->AV->T Blk->Pa->Prop) {m:Nat} (hm:m<N) (hi:Inv m d h n)
  (step:∀ (m:Nat) (z1 z2 z3 z4 z5:AV) (h:T Blk) (n:Pa) (R:Ks Prop),Inv m z2 h n->(∀ (m':Nat) (w1 w2 w3 w4 w5:AV) (h':T Blk) (n':Pa),m'<m->Inv m' w2 h' n'->R (F12.fr a w1 w2 w3 w4 w5) h' n'=.ok True)->IR.run F12.t15 C N O R (F12.fr a z1 z2 z3 z4 z5) h n=.ok True) :
  IR.run F12.t16 C N O K (F12.fr a c d f i j) h n=.ok True:=by
 rw [F12.t16];refine yB (λm tm h n=>∃ z1 z2 z3 z4 z5,tm=(F12.fr a z1 z2 z3 z4 z5)/\Inv m z2 h n) ?_ hm ⟨_,_,_,_,_,rfl,hi⟩;rintro m _ h n R ⟨_,_,_,_,_,rfl,q⟩ p;exact step m _ _ _ _ _ h n R q λ_ _ _ _ _ _ _ _ x y=>p _ _ _ _ x ⟨_,_,_,_,_,rfl,y⟩
theorem F12.rY:IR.run F12.t19 C N O K (F12.fr a c d f i j) h n=K (F12.fr a (I 0) d f i j) h n:=by kernel_rfl
theorem F12.go:zO tbl N C (.of 12) [a0] h n K0=IR.run F12.t22 C N (fnO F12.res K0) (zf F12.res K0) (F12.fr a0 .u .u .u .u .u) h n:=yE (F:=F12) (by kernel_rfl) (λ_=>by kernel_rfl) (by kernel_rfl)
theorem F12.ret:zf F12.res K0 (F12.fr a c d f i j) h n=K0 c h n:=by kernel_rfl
theorem F14.zu:IR.run F14.t0 C N O K (F14.fr a c d) h n=K (F14.fr a .zb d) h n:=by kernel_rfl
theorem F14.zo:IR.run F14.t1 C N O K (F14.fr a c d) h n=C.fn 41 (.of 41) [a] h n λv1 h2 n3=>di 0 v1 λv4=>di 1 v1 λv5=>K (F14.fr a c v4) h2 n3:=by kernel_rfl
theorem F14.yt:IR.run F14.t2 C N O K (F14.fr a c d) h n=K (F14.fr a d d) h n:=by kernel_rfl
theorem F14.go:zO tbl N C (.of 14) [a0] h n K0=IR.run F14.t5 C N (fnO F14.res K0) (zf F14.res K0) (F14.fr a0 .u .u) h n:=yE (F:=F14) (by kernel_rfl) (λ_=>by kernel_rfl) (by kernel_rfl)
theorem F14.ret:zf F14.res K0 (F14.fr a c d) h n=K0 c h n:=by kernel_rfl
theorem F66.tab:T.get none (.of 66) tbl=some F66:=by kernel_rfl
theorem F66.go:zO tbl N C (.of 66) [a0] h n K0=C.fn 53 (.of 53) [(I (-999999999)),(I 999999999),a0] h n λv1 h2 n3=>K0 v1 h2 n3:=by
 rw [yC F66.tab];kernel_rfl
theorem F32.zu:IR.run F32.t0 C N O K (F32.fr a c d f i j q p s D b e) h n=qm a h n λv1 h2 n3=>K (F32.fr a c v1 .zb i j q p s D b e) h2 n3:=by kernel_rfl
theorem F32.zo:IR.run F32.t1 C N O K (F32.fr a c d f i j q p s D b e) h n=sLen c λv1=>uG 1 8 [(I 0)] v1 v1 h n λv2 h3 n4=>K (F32.fr a c d f v2 j q p s D b e) h3 n4:=by kernel_rfl
theorem F32.yt:IR.run F32.t2 C N O K (F32.fr a c d f i j q p s D b e) h n=sLen c λv1=>K (F32.fr a c d f i j q c v1 (I 0) b e) h n:=by kernel_rfl
theorem F32.vk:IR.run F32.t3 C N O K (F32.fr a c d f i j q p s D b e) h n=za .lss .int D s λv1=>K (F32.fr a c d f i j q p s D v1 e) h n:=by kernel_rfl
theorem F32.v10:Arg.ev (.t (.of 10)) ⟨(F32.fr a c d f i j q p s D b e),[]⟩=b:=by kernel_rfl
theorem F32.dz:IR.run F32.t5 C N O K (F32.fr a c d f i j q p s D b e) h n=zN 1 p D λv1=>zH v1 h λv2=>K (F32.fr a c d f i D v2 p s D b e) h n:=by kernel_rfl
theorem F32.uj:IR.run F32.t6 C N O K (F32.fr a c d f i j q p s D b e) h n=zM 1 d λv1=>zH v1 h λv2=>K (F32.fr a c d f i j q p s D b v2) h n:=by kernel_rfl
theorem F32.ng:IR.run F32.t7 C N O K (F32.fr a c d f i j q p s D b e) h n=sLen c λv1=>za .add .int v1 (I 1) λv2=>za .sub .int v2 q λv3=>K (F32.fr a c d f i j v3 p s D b e) h n:=by kernel_rfl
theorem F32.v11:Arg.ev (.t (.of 11)) ⟨(F32.fr a c d f i j q p s D b e),[]⟩=e:=by kernel_rfl
theorem F32.rC:IR.run F32.t10 C N O K (F32.fr a c d f i j q p s D b e) h n=zM 0 d λv1=>zH v1 h λv2=>zN 1 v2 j λv3=>zH v3 h λv4=>zN 1 i v4 λv5=>yA 1 v5 q h n λv6 h7 n8=>K (F32.fr a c d f i j q p s D b e) h7 n8:=by kernel_rfl
theorem F32.tF:IR.run F32.t14 C N O K (F32.fr a c d f i j q p s D b e) h n=za .add .int D (I 1) λv1=>K (F32.fr a c d f i j q p s v1 b e) h n:=by kernel_rfl
theorem F32.zos (Inv:Nat->AV->T Blk->Pa->Prop) {m:Nat} (hm:m<N) (hi:Inv m D h n)
  (step:∀ (m:Nat) (z5 z6 z9 zC zE:AV) (h:T Blk) (n:Pa) (R:Ks Prop),Inv m z9 h n->(∀ (m':Nat) (w5 w6 w9 wC wE:AV) (h':T Blk) (n':Pa),m'<m->Inv m' w9 h' n'->R (F32.fr a c d f i w5 w6 p s w9 wC wE) h' n'=.ok True)->IR.run F32.t17 C N O R (F32.fr a c d f i z5 z6 p s z9 zC zE) h n=.ok True) :
  IR.run F32.t18 C N O K (F32.fr a c d f i j q p s D b e) h n=.ok True:=by
 rw [F32.t18];refine yB (λm tm h n=>∃ z5 z6 z9 zC zE,tm=(F32.fr a c d f i z5 z6 p s z9 zC zE)/\Inv m z9 h n) ?_ hm ⟨_,_,_,_,_,rfl,hi⟩;rintro m _ h n R ⟨_,_,_,_,_,rfl,q⟩ p;exact step m _ _ _ _ _ h n R q λ_ _ _ _ _ _ _ _ x y=>p _ _ _ _ x ⟨_,_,_,_,_,rfl,y⟩
theorem F32.eO:IR.run F32.t21 C N O K (F32.fr a c d f i j q p s D b e) h n=K (F32.fr a c d i i j q p s D b e) h n:=by kernel_rfl
theorem F32.go:zO tbl N C (.of 32) [a0,a1] h n K0=IR.run F32.t25 C N (fnO F32.res K0) (zf F32.res K0) (F32.fr a0 a1 .u .u .u .u .u .u .u .u .u .u) h n:=yE (F:=F32) (by kernel_rfl) (λ_=>by kernel_rfl) (by kernel_rfl)
theorem F32.ret:zf F32.res K0 (F32.fr a c d f i j q p s D b e) h n=K0 f h n:=by kernel_rfl
theorem F31.zu:IR.run F31.t0 C N O K (F31.fr a c) h n=K (F31.fr a (I 0)) h n:=by kernel_rfl
theorem F31.zo:IR.run F31.t1 C N O K (F31.fr a c) h n=sLen a λv1=>za .gtr .int v1 (I 256) λv2=>C.fn 60 (.of 60) [v2,(I 5)] h n λv3 h4 n5=>C.fn 33 (.of 33) [a,(.fn 34 (.of 34) [])] h4 n5 λv6 h7 n8=>C.fn 60 (.of 60) [v6,(I 3)] h7 n8 λv9 hC nD=>y3 1 2 [(I 0)] [(0,1,v3),(1,1,v9)] hC nD λvO hD nE=>C.fn 27 (.of 27) [vO] hD nE λvC hE nF=>K (F31.fr a vC) hE nF:=by kernel_rfl
theorem F31.go:zO tbl N C (.of 31) [a0] h n K0=IR.run F31.t3 C N (fnO F31.res K0) (zf F31.res K0) (F31.fr a0 .u) h n:=yE (F:=F31) (by kernel_rfl) (λ_=>by kernel_rfl) (by kernel_rfl)
theorem F31.ret:zf F31.res K0 (F31.fr a c) h n=K0 c h n:=by kernel_rfl
theorem F34.zu:IR.run F34.t0 C N O K (F34.fr a c) h n=K (F34.fr a (.bool false)) h n:=by kernel_rfl
theorem F34.zo:IR.run F34.t1 C N O K (F34.fr a c) h n=za .lss .int a (I (-999999999)) λv1=>sG v1 false (λk=>k a) λv2=>sG v1 false (λk=>za .gtr .int v2 (I 999999999) k) λv3=>yO v1 (.bool true) v3 λv4=>K (F34.fr a v4) h n:=by kernel_rfl
theorem F34.go:zO tbl N C (.of 34) [a0] h n K0=IR.run F34.t3 C N (fnO F34.res K0) (zf F34.res K0) (F34.fr a0 .u) h n:=yE (F:=F34) (by kernel_rfl) (λ_=>by kernel_rfl) (by kernel_rfl)
theorem F34.ret:zf F34.res K0 (F34.fr a c) h n=K0 c h n:=by kernel_rfl
theorem F6.zu:IR.run F6.t0 C N O K (F6.fr a c d) h n=K (F6.fr a (I 0) d) h n:=by kernel_rfl
theorem F6.zo:IR.run F6.t1 C N O K (F6.fr a c d) h n=sLen a λv1=>za .gtr .int v1 (I 256) λv2=>K (F6.fr a c v2) h n:=by kernel_rfl
theorem F6.yt:IR.run F6.t2 C N O K (F6.fr a c d) h n=K (F6.fr a (I 5) d) h n:=by kernel_rfl
theorem F6.v2:Arg.ev (.t (.of 2)) ⟨(F6.fr a c d),[]⟩=d:=by kernel_rfl
theorem F6.uj:IR.run F6.t6 C N O K (F6.fr a c d) h n=C.fn 19 (.of 19) [a] h n λv1 h2 n3=>K (F6.fr a v1 d) h2 n3:=by kernel_rfl
theorem F6.go:zO tbl N C (.of 6) [a0] h n K0=IR.run F6.t9 C N (fnO F6.res K0) (zf F6.res K0) (F6.fr a0 .u .u) h n:=yE (F:=F6) (by kernel_rfl) (λ_=>by kernel_rfl) (by kernel_rfl)
theorem F6.ret:zf F6.res K0 (F6.fr a c d) h n=K0 c h n:=by kernel_rfl
theorem F19.zu:IR.run F19.t0 C N O K (F19.fr a c d f i) h n=K (F19.fr a (I 0) d f i) h n:=by kernel_rfl
theorem F19.zo:IR.run F19.t1 C N O K (F19.fr a c d f i) h n=K (F19.fr a c (I 0) f i) h n:=by kernel_rfl
theorem F19.yt:IR.run F19.t2 C N O K (F19.fr a c d f i) h n=sLen a λv1=>za .lss .int d v1 λv2=>K (F19.fr a c d v2 i) h n:=by kernel_rfl
theorem F19.v3:Arg.ev (.t (.of 3)) ⟨(F19.fr a c d f i),[]⟩=f:=by kernel_rfl
theorem F19.dz:IR.run F19.t5 C N O K tm h n=zZ F19.r3_0 C ⟨tm,[]⟩ h n (λtm h n=>K tm.v h n):=jJ ..
theorem F19.zi8:zZ (F19.zgs r) C ⟨(F19.fr a c d f i),[]⟩ h n Kt=zN 1 a d λv1=>zH v1 h λv2=>za .lss .int v2 (I (-999999999)) λv3=>sG v3 false (λk=>k a) λv4=>sG v3 false (λk=>k d) λv5=>zZ r C ⟨(F19.fr a c d f i),v5::v4::v3::v3::v2::v1::d::a::[]⟩ h n Kt:=by kernel_rfl
theorem F19.zew:zZ (F19.zgt []) C ⟨(F19.fr a c d f i),s0::s1::s2::sT⟩ h n Kt=sG s2 false (λk=>zN 1 s1 s0 k) λv1=>sG s2 false (λk=>zH v1 h k) λv2=>sG s2 false (λk=>za .gtr .int v2 (I 999999999) k) λv3=>yO s2 (.bool true) v3 λv4=>Kt ⟨(F19.fr a c d f v4),v3::v2::v1::s0::s1::s2::sT⟩ h n:=by kernel_rfl
theorem F19.uj:IR.run F19.t6 C N O K (F19.fr a c d f i) h n=K (F19.fr a (I 3) d f i) h n:=by kernel_rfl
theorem F19.v4:Arg.ev (.t (.of 4)) ⟨(F19.fr a c d f i),[]⟩=i:=by kernel_rfl
theorem F19.qz:IR.run F19.t11 C N O K (F19.fr a c d f i) h n=za .add .int d (I 1) λv1=>K (F19.fr a c v1 f i) h n:=by kernel_rfl
theorem F19.zae (Inv:Nat->AV->T Blk->Pa->Prop) {m:Nat} (hm:m<N) (hi:Inv m d h n)
  (step:∀ (m:Nat) (z1 z2 z3 z4:AV) (h:T Blk) (n:Pa) (R:Ks Prop),Inv m z2 h n->(∀ (m':Nat) (w1 w2 w3 w4:AV) (h':T Blk) (n':Pa),m'<m->Inv m' w2 h' n'->R (F19.fr a w1 w2 w3 w4) h' n'=.ok True)->IR.run F19.t13 C N O R (F19.fr a z1 z2 z3 z4) h n=.ok True) :
  IR.run F19.t14 C N O K (F19.fr a c d f i) h n=.ok True:=by
 rw [F19.t14];refine yB (λm tm h n=>∃ z1 z2 z3 z4,tm=(F19.fr a z1 z2 z3 z4)/\Inv m z2 h n) ?_ hm ⟨_,_,_,_,rfl,hi⟩;rintro m _ h n R ⟨_,_,_,_,rfl,q⟩ p;exact step m _ _ _ _ h n R q λ_ _ _ _ _ _ _ x y=>p _ _ _ _ x ⟨_,_,_,_,rfl,y⟩
theorem F19.rG:IR.run F19.t17 C N O K (F19.fr a c d f i) h n=K (F19.fr a (I 0) d f i) h n:=by kernel_rfl
theorem F19.go:zO tbl N C (.of 19) [a0] h n K0=IR.run F19.t20 C N (fnO F19.res K0) (zf F19.res K0) (F19.fr a0 .u .u .u .u) h n:=yE (F:=F19) (by kernel_rfl) (λ_=>by kernel_rfl) (by kernel_rfl)
theorem F19.ret:zf F19.res K0 (F19.fr a c d f i) h n=K0 c h n:=by kernel_rfl
theorem F30.zu:IR.run F30.t0 C N O K (F30.fr a c d f i j q p s) h n=qm a h n λv1 h2 n3=>K (F30.fr a v1 .sK f i j q p s) h2 n3:=by kernel_rfl
theorem F30.zo:IR.run F30.t1 C N O K (F30.fr a c d f i j q p s) h n=zi9 h n λv1 h2 n3=>yT [.sM] h2 n3 λv4 h5 n6=>yA 1 v4 v1 h5 n6 λv7 h8 n9=>K (F30.fr a c d v4 i j q p s) h8 n9:=by kernel_rfl
theorem F30.yt:IR.run F30.t2 C N O K (F30.fr a c d f i j q p s) h n=zM 1 c λv1=>zH v1 h λv2=>sLen v2 λv3=>K (F30.fr a c d f i v2 v3 (I 0) s) h n:=by kernel_rfl
theorem F30.vk:IR.run F30.t3 C N O K (F30.fr a c d f i j q p s) h n=za .lss .int p q λv1=>K (F30.fr a c d f i j q p v1) h n:=by kernel_rfl
theorem F30.v8:Arg.ev (.t (.of 8)) ⟨(F30.fr a c d f i j q p s),[]⟩=s:=by kernel_rfl
theorem F30.dz:IR.run F30.t5 C N O K (F30.fr a c d f i j q p s) h n=zN 1 j p λv1=>zH v1 h λv2=>K (F30.fr a c d f v2 j q p s) h n:=by kernel_rfl
theorem F30.uj:IR.run F30.t6 C N O K (F30.fr a c d f i j q p s) h n=zH f h λv1=>gV [.zb,(.bool false)] [(0,1,i)] λv2=>C.fn 62 (.of 62) [v2] h n λv3 h4 n5=>(zH f h4 λv9=>zX v9 v1 (zja .str v1 v3 (.bool true) h4 n5 λv6 h7 n8=>K (F30.fr a c d f i j q p s) h7 n8)):=by kernel_rfl
theorem F30.rF:IR.run F30.t9 C N O K (F30.fr a c d f i j q p s) h n=za .add .int p (I 1) λv1=>K (F30.fr a c d f i j q v1 s) h n:=by kernel_rfl
theorem F30.eU (Inv:Nat->AV->T Blk->Pa->Prop) {m:Nat} (hm:m<N) (hi:Inv m p h n)
  (step:∀ (m:Nat) (z4 z7 z8:AV) (h:T Blk) (n:Pa) (R:Ks Prop),Inv m z7 h n->(∀ (m':Nat) (w4 w7 w8:AV) (h':T Blk) (n':Pa),m'<m->Inv m' w7 h' n'->R (F30.fr a c d f w4 j q w7 w8) h' n'=.ok True)->IR.run F30.t12 C N O R (F30.fr a c d f z4 j q z7 z8) h n=.ok True) :
  IR.run F30.t13 C N O K (F30.fr a c d f i j q p s) h n=.ok True:=by
 rw [F30.t13];refine yB (λm tm h n=>∃ z4 z7 z8,tm=(F30.fr a c d f z4 j q z7 z8)/\Inv m z7 h n) ?_ hm ⟨_,_,_,rfl,hi⟩;rintro m _ h n R ⟨_,_,_,rfl,q⟩ p;exact step m _ _ _ h n R q λ_ _ _ _ _ _ x y=>p _ _ _ _ x ⟨_,_,_,rfl,y⟩
theorem F30.rU:IR.run F30.t16 C N O K (F30.fr a c d f i j q p s) h n=K (F30.fr a c (.fn 63 (.of 63) [f]) f i j q p s) h n:=by kernel_rfl
theorem F30.go:zO tbl N C (.of 30) [a0] h n K0=IR.run F30.t20 C N (fnO F30.res K0) (zf F30.res K0) (F30.fr a0 .u .u .u .u .u .u .u .u) h n:=yE (F:=F30) (by kernel_rfl) (λ_=>by kernel_rfl) (by kernel_rfl)
theorem F30.ret:zf F30.res K0 (F30.fr a c d f i j q p s) h n=K0 d h n:=by kernel_rfl
theorem F63.zu:IR.run F63.t0 C N O K (F63.fr a c d f i j q p s D) h n=K (F63.fr a c d (.bool false) i j q p s D) h n:=by kernel_rfl
theorem F63.zo:IR.run F63.t1 C N O K (F63.fr a c d f i j q p s D) h n=K (F63.fr a c d f .zb j q p s D) h n:=by kernel_rfl
theorem F63.yt:IR.run F63.t2 C N O K (F63.fr a c d f i j q p s D) h n=sLen c λv1=>K (F63.fr a c d f i j c v1 (I 0) D) h n:=by kernel_rfl
theorem F63.vk:IR.run F63.t3 C N O K (F63.fr a c d f i j q p s D) h n=za .lss .int s p λv1=>K (F63.fr a c d f i j q p s v1) h n:=by kernel_rfl
theorem F63.v9:Arg.ev (.t (.of 9)) ⟨(F63.fr a c d f i j q p s D),[]⟩=D:=by kernel_rfl
theorem F63.dz:IR.run F63.t5 C N O K (F63.fr a c d f i j q p s D) h n=zN 1 q s λv1=>zH v1 h λv2=>K (F63.fr a c d f i v2 q p s D) h n:=by kernel_rfl
theorem F63.uj:IR.run F63.t6 C N O K (F63.fr a c d f i j q p s D) h n=zN 1 a j λv1=>zH v1 h λv2=>y3 1 1 [(I 0)] [(0,1,v2)] h n λv3 h4 n5=>tJ 1 8 i v3 h4 n5 λv6 h7 n8=>K (F63.fr a c d f v6 j q p s D) h7 n8:=by kernel_rfl
theorem F63.rF:IR.run F63.t9 C N O K (F63.fr a c d f i j q p s D) h n=za .add .int s (I 1) λv1=>K (F63.fr a c d f i j q p v1 D) h n:=by kernel_rfl
theorem F63.eU (Inv:Nat->AV->AV->T Blk->Pa->Prop) {m:Nat} (hm:m<N) (hi:Inv m i s h n)
  (step:∀ (m:Nat) (z4 z5 z8 z9:AV) (h:T Blk) (n:Pa) (R:Ks Prop),Inv m z4 z8 h n->(∀ (m':Nat) (w4 w5 w8 w9:AV) (h':T Blk) (n':Pa),m'<m->Inv m' w4 w8 h' n'->R (F63.fr a c d f w4 w5 q p w8 w9) h' n'=.ok True)->IR.run F63.t12 C N O R (F63.fr a c d f z4 z5 q p z8 z9) h n=.ok True) :
  IR.run F63.t13 C N O K (F63.fr a c d f i j q p s D) h n=.ok True:=by
 rw [F63.t13];refine yB (λm tm h n=>∃ z4 z5 z8 z9,tm=(F63.fr a c d f z4 z5 q p z8 z9)/\Inv m z4 z8 h n) ?_ hm ⟨_,_,_,_,rfl,hi⟩;rintro m _ h n R ⟨_,_,_,_,rfl,q⟩ p;exact step m _ _ _ _ h n R q λ_ _ _ _ _ _ _ x y=>p _ _ _ _ x ⟨_,_,_,_,rfl,y⟩
theorem F63.rU:IR.run F63.t16 C N O K (F63.fr a c d f i j q p s D) h n=C.fn 64 (.of 64) [i] h n λv1 h2 n3=>K (F63.fr a c d f i j q p s D) h2 n3:=by kernel_rfl
theorem F63.rG:IR.run F63.t17 C N O K (F63.fr a c d f i j q p s D) h n=zH d h λv1=>gV [.zb,(.bool false)] [(0,1,i)] λv2=>C.fn 62 (.of 62) [v2] h n λv3 h4 n5=>(zH d h4 λv7=>zX v7 v1 (zpd .str (.bool false) false v1 v3 h4 λv6=>K (F63.fr a c d v6 i j q p s D) h4 n5)):=by kernel_rfl
theorem F63.go:zO tbl N C (.of 63) [a0,a1,a2] h n K0=IR.run F63.t22 C N (fnO F63.res K0) (zf F63.res K0) (F63.fr a0 a1 a2 .u .u .u .u .u .u .u) h n:=yE (F:=F63) (by kernel_rfl) (λ_=>by kernel_rfl) (by kernel_rfl)
theorem F63.ret:zf F63.res K0 (F63.fr a c d f i j q p s D) h n=K0 f h n:=by kernel_rfl
theorem F10.tab:T.get none (.of 10) tbl=some F10:=by kernel_rfl
theorem F10.go:zO tbl N C (.of 10) [a0,a1] h n K0=qm a0 h n λv1 h2 n3=>zI 2 v1 h2 λv4=>C.fn 35 (.of 35) [v4,a1] h2 n3 λv5 h6 n7=>za .neq .int v5 (I 0) λv8=>yV v8 (K0 (.tup [(.bool false),v5]) h6 n7) (zI 2 v1 h6 λv9=>C.fn 36 (.of 36) [v9,a1] h6 n7 λvF hB nC=>za .lss .int vF (I 0) λvY=>K0 (.tup [vY,(I 0)]) hB nC):=by
 rw [yC F10.tab];kernel_rfl
theorem F67.sU (X2:IR) (O:pq Prop) (t:T AV):IR.run (F67.g1 X2) C N O K t h n=IR.run X2 C N (O.blk 0 K) K t h n:=by kernel_rfl
theorem F67.tab:T.get none (.of 67) tbl=some F67:=by kernel_rfl
theorem F67.go:zO tbl N C (.of 67) [a0,a1] h n K0=qm a0 h n λv1 h2 n3=>zM 1 v1 λv4=>zH v4 h2 λv5=>sLen v5 λv6=>IR.run F67.b1 C N (fnO F67.res K0) (IR.run F67.b8 C N (fnO F67.res K0) (zf F67.res K0)) (F67.fr a0 a1 v1 .zb .zb .u v5 v6 (I 0) .u) h2 n3:=by
 rw [yC F67.tab];kernel_rfl
theorem F67.L1 (Inv:Nat->AV->AV->T Blk->Pa->Prop) {m:Nat} (hm:m<N) (hi:Inv m i s h n)
  (step:∀ (m:Nat) (z4 z5 z8 z9:AV) (h:T Blk) (n:Pa) (R:Ks Prop),Inv m z4 z8 h n->(∀ (m':Nat) (w4 w5 w8 w9:AV) (h':T Blk) (n':Pa),m'<m->Inv m' w4 w8 h' n'->R (F67.fr a c d f w4 w5 q p w8 w9) h' n'=.ok True) ->
   (za .lss .int z8 p λv1=>yV v1 (zN 1 q z8 λv2=>zH v2 h λv3=>C.fn 124 (.of 124) [v3,c] h n λv4 h5 n6=>y3 1 1 [(I 0)] [(0,1,v4)] h5 n6 λv7 h8 n9=>tJ 1 8 z4 v7 h8 n9 λvF hB nC=>za .add .int z8 (I 1) λvY=>R (F67.fr a c d f vF v3 q p vY v1) hB nC) (K (F67.fr a c d f z4 z5 q p z8 v1) h n))=.ok True) :
  IR.run F67.b1 C N (fnO F67.res K0) K (F67.fr a c d f i j q p s D) h n=.ok True:=by
 rw [F67.b1,F67.sU,F67.b2];refine yB (λm tm h n=>∃ z4 z5 z8 z9,tm=(F67.fr a c d f z4 z5 q p z8 z9)/\Inv m z4 z8 h n) ?_ hm ⟨_,_,_,_,rfl,hi⟩;rintro m tm h n R ⟨z4,z5,z8,z9,rfl,hi⟩ hR;refine Eq.trans ?_ (step m z4 z5 z8 z9 h n R hi λm' w4 w5 w8 w9 h' n' hlt hi'=>hR m' _ h' n' hlt ⟨_,_,_,_,rfl,hi'⟩)
 kernel_rfl
theorem F67.k8:IR.run F67.b8 C N (fnO F67.res K0) K (F67.fr a c d f i j q p s D) h n=K0 i h n:=by kernel_rfl
theorem F36.tab:T.get none (.of 36) tbl=some F36:=by kernel_rfl
theorem F36.go:zO tbl N C (.of 36) [a0,a1] h n K0=qm a0 h n λv1 h2 n3=>zI 2 v1 h2 λv4=>C.fn 67 (.of 67) [v4,a1] h2 n3 λv5 h6 n7=>yT [.zb] h6 n7 λv8 h9 nA=>yA 1 v8 v5 h9 nA λvE hA nB=>zH v8 hA λvD=>C.fn 65 (.of 65) [vD,(.fn 68 (.of 68) [v8])] hA nB λvC hE nF=>K0 vC hE nF:=by
 rw [yC F36.tab];kernel_rfl
theorem F68.tab:T.get none (.of 68) tbl=some F68:=by kernel_rfl
theorem F68.go:zO tbl N C (.of 68) [a0,a1] h n K0=zH a1 h λv1=>zN 1 v1 (I 0) λv2=>zH v2 h λv3=>za .neq .int a0 v3 λv4=>K0 v4 h n:=by
 rw [yC F68.tab];kernel_rfl
theorem F35.tab:T.get none (.of 35) tbl=some F35:=by kernel_rfl
theorem F35.go:zO tbl N C (.of 35) [a0,a1] h n K0=qm a0 h n λv1 h2 n3=>zI 2 v1 h2 λv4=>sLen a1 λv5=>zM 0 v1 λv6=>zH v6 h2 λv7=>za .neq .int v5 v7 λv8=>C.fn 28 (.of 28) [v4] h2 n3 λv9 hC nD=>zX a1 a1 ((za .neq .int v5 v7 λvS=>zX vS v8 ((zH v6 hC λvT=>zX vT v7 ((zM 0 v1 λvU=>zX vU v6 ((sLen a1 λvZ=>zX vZ v5 (zX a1 a1 (C.fn 52 (.of 52) [v8,(I 2)] hC nD λvO hD nE=>zX a1 a1 (C.fn 66 (.of 66) [a1] hD nE λvC hE nF=>y3 1 3 [(I 0)] [(0,1,v9),(1,1,vO),(2,1,vC)] hE nF λvV hF nG=>C.fn 51 (.of 51) [vV] hF nG λvW hH nI=>K0 vW hH nI))))))))))):=by
 rw [yC F35.tab];kernel_rfl
theorem bf.sU (X2:IR) (O:pq Prop) (t:T AV):IR.run (bf.g1 X2) C N O K t h n=IR.run X2 C N (O.blk 0 K) K t h n:=by kernel_rfl
theorem bf.tab:T.get none (.of 124) tbl=some bf:=by kernel_rfl
theorem bf.go:zO tbl N C (.of 124) [a0,a1] h n K0=sLen a0 λv1=>IR.run bf.b1 C N (fnO bf.res K0) (IR.run bf.b8 C N (fnO bf.res K0) (zf bf.res K0)) (bf.fr a0 a1 (I 0) (I 0) .u a0 v1 (I 0) .u) h n:=by
 rw [yC bf.tab];kernel_rfl
theorem bf.L1 (Inv:Nat->AV->AV->T Blk->Pa->Prop) {m:Nat} (hm:m<N) (hi:Inv m f p h n)
  (step:∀ (m:Nat) (z3 z4 z7 z8:AV) (h:T Blk) (n:Pa) (R:Ks Prop),Inv m z3 z7 h n->(∀ (m':Nat) (w3 w4 w7 w8:AV) (h':T Blk) (n':Pa),m'<m->Inv m' w3 w7 h' n'->R (bf.fr a c d w3 w4 j q w7 w8) h' n'=.ok True) ->
   (za .lss .int z7 q λv1=>yV v1 (zN 1 j z7 λv2=>zH v2 h λv3=>zN 1 c v3 λv4=>zH v4 h λv5=>za .add .int z3 v5 λv6=>za .add .int z7 (I 1) λv7=>R (bf.fr a c d v6 v3 j q v7 v1) h n) (K (bf.fr a c d z3 z4 j q z7 v1) h n))=.ok True) :
  IR.run bf.b1 C N (fnO bf.res K0) K (bf.fr a c d f i j q p s) h n=.ok True:=by
 rw [bf.b1,bf.sU,bf.b2];refine yB (λm tm h n=>∃ z3 z4 z7 z8,tm=(bf.fr a c d z3 z4 j q z7 z8)/\Inv m z3 z7 h n) ?_ hm ⟨_,_,_,_,rfl,hi⟩;rintro m tm h n R ⟨z3,z4,z7,z8,rfl,hi⟩ hR;refine Eq.trans ?_ (step m z3 z4 z7 z8 h n R hi λm' w3 w4 w7 w8 h' n' hlt hi'=>hR m' _ h' n' hlt ⟨_,_,_,_,rfl,hi'⟩)
 kernel_rfl
theorem bf.k8:IR.run bf.b8 C N (fnO bf.res K0) K (bf.fr a c d f i j q p s) h n=K0 f h n:=by kernel_rfl
theorem F9.zu:IR.run F9.t0 C N O K (F9.fr a c d f i j q p s D b) h n=qm a h n λv1 h2 n3=>K (F9.fr a c v1 .zb (I 0) j q p s D b) h2 n3:=by kernel_rfl
theorem F9.zo:IR.run F9.t1 C N O K (F9.fr a c d f i j q p s D b) h n=C.fn 31 (.of 31) [c] h n λv1 h2 n3=>K (F9.fr a c d f i v1 q p s D b) h2 n3:=by kernel_rfl
theorem F9.yt:IR.run F9.t2 C N O K (F9.fr a c d f i j q p s D b) h n=za .neq .int j (I 0) λv1=>K (F9.fr a c d f i j q p v1 D b) h n:=by kernel_rfl
theorem F9.vk:IR.run F9.t3 C N O K (F9.fr a c d f i j q p s D b) h n=K (F9.fr a c d .zb j j q p s D b) h n:=by kernel_rfl
theorem F9.v8:Arg.ev (.t (.of 8)) ⟨(F9.fr a c d f i j q p s D b),[]⟩=s:=by kernel_rfl
theorem F9.rE:IR.run F9.t8 C N O K (F9.fr a c d f i j q p s D b) h n=zI 2 d h λv1=>sLen c λv2=>C.fn 29 (.of 29) [v1,v2] h n λv3 h4 n5=>K (F9.fr a c d f i j v3 p s D b) h4 n5:=by kernel_rfl
theorem F9.rF:IR.run F9.t9 C N O K (F9.fr a c d f i j q p s D b) h n=za .neq .int q (I 0) λv1=>K (F9.fr a c d f i j q p s v1 b) h n:=by kernel_rfl
theorem F9.rC:IR.run F9.t10 C N O K (F9.fr a c d f i j q p s D b) h n=K (F9.fr a c d .zb q j q p s D b) h n:=by kernel_rfl
theorem F9.v9:Arg.ev (.t (.of 9)) ⟨(F9.fr a c d f i j q p s D b),[]⟩=D:=by kernel_rfl
theorem F9.zge:IR.run F9.t15 C N O K (F9.fr a c d f i j q p s D b) h n=zI 2 d h λv1=>C.fn 32 (.of 32) [v1,c] h n λv2 h3 n4=>K (F9.fr a c d f i j q v2 s D b) h3 n4:=by kernel_rfl
theorem F9.rU:IR.run F9.t16 C N O K (F9.fr a c d f i j q p s D b) h n=C.fn 33 (.of 33) [p,(.fn 34 (.of 34) [])] h n λv1 h2 n3=>K (F9.fr a c d f i j q p s D v1) h2 n3:=by kernel_rfl
theorem F9.rG:IR.run F9.t17 C N O K (F9.fr a c d f i j q p s D b) h n=K (F9.fr a c d .zb (I 3) j q p s D b) h n:=by kernel_rfl
theorem F9.v10:Arg.ev (.t (.of 10)) ⟨(F9.fr a c d f i j q p s D b),[]⟩=b:=by kernel_rfl
theorem F9.eO:IR.run F9.t21 C N O K (F9.fr a c d f i j q p s D b) h n=K (F9.fr a c d p (I 0) j q p s D b) h n:=by kernel_rfl
theorem F9.go:zO tbl N C (.of 9) [a0,a1] h n K0=IR.run F9.t27 C N (fnO F9.res K0) (zf F9.res K0) (F9.fr a0 a1 .u .u .u .u .u .u .u .u .u) h n:=yE (F:=F9) (by kernel_rfl) (λ_=>by kernel_rfl) (by kernel_rfl)
theorem F9.ret:zf F9.res K0 (F9.fr a c d f i j q p s D b) h n=K0 (.tup [f,i]) h n:=by kernel_rfl
theorem F8.zu:IR.run F8.t0 C N O K (F8.fr a c d f i j q p s D b e g o l) h n=qm a h n λv1 h2 n3=>qm c h2 n3 λv4 h5 n6=>K (F8.fr a c v1 v4 (.bool false) (I 0) q p s D b e g o l) h5 n6:=by kernel_rfl
theorem F8.zo:IR.run F8.t1 C N O K (F8.fr a c d f i j q p s D b e g o l) h n=zI 2 d h λv1=>zI 2 f h λv2=>zM 0 d λv3=>zH v3 h λv4=>C.fn 28 (.of 28) [v1] h n λv5 h6 n7=>(zH v3 h6 λv19=>zX v19 v4 ((zM 0 d λvV=>zX vV v3 ((zI 2 f h6 λvA=>zX vA v2 (C.fn 29 (.of 29) [v2,v4] h6 n7 λv8 h9 nA=>y3 1 2 [(I 0)] [(0,1,v5),(1,1,v8)] h9 nA λvE hA nB=>C.fn 27 (.of 27) [vE] hA nB λvD hI nJ=>K (F8.fr a c d f i j vD p s D b e g o l) hI nJ)))))):=by kernel_rfl
theorem F8.yt:IR.run F8.t2 C N O K (F8.fr a c d f i j q p s D b e g o l) h n=za .neq .int q (I 0) λv1=>K (F8.fr a c d f i j q p s v1 b e g o l) h n:=by kernel_rfl
theorem F8.vk:IR.run F8.t3 C N O K (F8.fr a c d f i j q p s D b e g o l) h n=K (F8.fr a c d f (.bool false) q q p s D b e g o l) h n:=by kernel_rfl
theorem F8.v9:Arg.ev (.t (.of 9)) ⟨(F8.fr a c d f i j q p s D b e g o l),[]⟩=D:=by kernel_rfl
theorem F8.rE:IR.run F8.t8 C N O K (F8.fr a c d f i j q p s D b e g o l) h n=zI 2 d h λv1=>C.fn 30 (.of 30) [v1] h n λv2 h3 n4=>K (F8.fr a c d f i j q v2 s D b e g o l) h3 n4:=by kernel_rfl
theorem F8.rF:IR.run F8.t9 C N O K (F8.fr a c d f i j q p s D b e g o l) h n=zM 1 d λv1=>zH v1 h λv2=>sLen v2 λv3=>K (F8.fr a c d f i j q p s D v2 v3 (I 0) o l) h n:=by kernel_rfl
theorem F8.rC:IR.run F8.t10 C N O K (F8.fr a c d f i j q p s D b e g o l) h n=za .lss .int g e λv1=>K (F8.fr a c d f i j q p s D b e g v1 l) h n:=by kernel_rfl
theorem F8.v13:Arg.ev (.t (.of 13)) ⟨(F8.fr a c d f i j q p s D b e g o l),[]⟩=o:=by kernel_rfl
theorem F8.nZ:IR.run F8.t12 C N O K (F8.fr a c d f i j q p s D b e g o l) h n=zN 1 b g λv1=>zH v1 h λv2=>K (F8.fr a c d f i j q p v2 D b e g o l) h n:=by kernel_rfl
theorem F8.rX:IR.run F8.t13 C N O K (F8.fr a c d f i j q p s D b e g o l) h n=zM 0 f λv1=>zH v1 h λv2=>zc3 C p [v2,s] h n λv3 h4 n5=>sNot v3 λv6=>K (F8.fr a c d f i j q p s D b e g o v6) h4 n5:=by kernel_rfl
theorem F8.tF:IR.run F8.t14 C N O K (F8.fr a c d f i j q p s D b e g o l) h n=K (F8.fr a c d f (.bool false) (I 0) q p s D b e g o l) h n:=by kernel_rfl
theorem F8.v14:Arg.ev (.t (.of 14)) ⟨(F8.fr a c d f i j q p s D b e g o l),[]⟩=l:=by kernel_rfl
theorem F8.aI:IR.run F8.t20 C N O K (F8.fr a c d f i j q p s D b e g o l) h n=za .add .int g (I 1) λv1=>K (F8.fr a c d f i j q p s D b e v1 o l) h n:=by kernel_rfl
theorem F8.qbj (Inv:Nat->AV->T Blk->Pa->Prop) {m:Nat} (hm:m<N) (hi:Inv m g h n)
  (step:∀ (m:Nat) (z4 z5 z8 z12 zW zY:AV) (h:T Blk) (n:Pa) (R:Ks Prop),Inv m z12 h n->(∀ (m':Nat) (w4 w5 w8 wZ wR wS:AV) (h':T Blk) (n':Pa),m'<m->Inv m' wZ h' n'->R (F8.fr a c d f w4 w5 q p w8 D b e wZ wR wS) h' n'=.ok True)->IR.run F8.t23 C N O R (F8.fr a c d f z4 z5 q p z8 D b e z12 zW zY) h n=.ok True) :
  IR.run F8.t24 C N O K (F8.fr a c d f i j q p s D b e g o l) h n=.ok True:=by
 rw [F8.t24];refine yB (λm tm h n=>∃ z4 z5 z8 z12 zW zY,tm=(F8.fr a c d f z4 z5 q p z8 D b e z12 zW zY)/\Inv m z12 h n) ?_ hm ⟨_,_,_,_,_,_,rfl,hi⟩;rintro m _ h n R ⟨_,_,_,_,_,_,rfl,q⟩ p;exact step m _ _ _ _ _ _ h n R q λ_ _ _ _ _ _ _ _ _ x y=>p _ _ _ _ x ⟨_,_,_,_,_,_,rfl,y⟩
theorem F8.zc6:IR.run F8.t27 C N O K (F8.fr a c d f i j q p s D b e g o l) h n=K (F8.fr a c d f (.bool true) (I 0) q p s D b e g o l) h n:=by kernel_rfl
theorem F8.go:zO tbl N C (.of 8) [a0,a1] h n K0=IR.run F8.t32 C N (fnO F8.res K0) (zf F8.res K0) (F8.fr a0 a1 .u .u .u .u .u .u .u .u .u .u .u .u .u) h n:=yE (F:=F8) (by kernel_rfl) (λ_=>by kernel_rfl) (by kernel_rfl)
theorem F8.ret:zf F8.res K0 (F8.fr a c d f i j q p s D b e g o l) h n=K0 (.tup [i,j]) h n:=by kernel_rfl
theorem F3.zu:IR.run F3.t0 C N O K (F3.fr a c d f i j q p s D b e g o l v w u E U V L M y z A H W B G P Q Z) h n=qm a h n λv1 h2 n3=>qm c h2 n3 λv4 h5 n6=>K (F3.fr a c d v1 v4 (.bool false) q p s D b e g o l v w u E U V L M y z A H W B G P Q Z) h5 n6:=by kernel_rfl
theorem F3.zo:IR.run F3.t1 C N O K tm h n=zZ F3.sH C ⟨tm,[]⟩ h n (λtm h n=>K tm.v h n):=jJ ..
theorem F3.sJ:zZ (F3.rR r) C ⟨(F3.fr a c d f i j q p s D b e g o l v w u E U V L M y z A H W B G P Q Z),[]⟩ h n Kt=zI 2 f h λv1=>C.fn 4 (.of 4) [v1,(I 9),(I 8)] h n λv2 h3 n4=>zZ r C ⟨(F3.fr a c d f i j q p s D b e g o l v w u E U V L M y z A H W B G P Q Z),v2::v1::[]⟩ h3 n4 Kt:=by kernel_rfl
theorem F3.rM:zZ (F3.rT r) C ⟨(F3.fr a c d f i j q p s D b e g o l v w u E U V L M y z A H W B G P Q Z),s0::sT⟩ h n Kt=sNot s0 λv1=>sG v1 false (λk=>zI 2 i h k) λv2=>sG v1 false (λk=>zM 0 f k) λv3=>sG v1 false (λk=>zH v3 h k) λv4=>sGW v1 false (λk=>C.fn 5 (.of 5) [v2,v4] h n k) h n λv5 h6 n7=>zZ r C ⟨(F3.fr a c d f i j q p s D b e g o l v w u E U V L M y z A H W B G P Q Z),v5::v4::v3::v2::v1::v1::s0::sT⟩ h6 n7 Kt:=by kernel_rfl
theorem F3.zev:zZ (F3.zgp r) C ⟨(F3.fr a c d f i j q p s D b e g o l v w u E U V L M y z A H W B G P Q Z),s0::s1::s2::s3::s4::sT⟩ h n Kt=sG s4 false (λk=>za .neq .int s0 (I 0) k) λv1=>yO s4 (.bool true) v1 λv2=>sG v2 false (λk=>zM 1 i k) λv3=>sG v2 false (λk=>zH v3 h k) λv4=>yO v2 (.bool true) v4 λv5=>sG v5 false (λk=>k d) λv6=>zZ r C ⟨(F3.fr a c d f i j q p s D b e g o l v w u E U V L M y z A H W B G P Q Z),v6::v5::v5::v4::v3::v2::v2::v1::s0::s1::s2::s3::s4::sT⟩ h n Kt:=by kernel_rfl
theorem F3.oD:zZ (F3.zgq r) C ⟨(F3.fr a c d f i j q p s D b e g o l v w u E U V L M y z A H W B G P Q Z),s0::s1::sT⟩ h n Kt=sG s1 false (λk=>sLen s0 k) λv1=>sG s1 false (λk=>zM 0 f k) λv2=>sG s1 false (λk=>zH v2 h k) λv3=>sG s1 false (λk=>za .neq .int v1 v3 k) λv4=>yO s1 (.bool true) v4 λv5=>sG v5 false (λk=>k d) λv6=>sGW v5 false (λk=>C.fn 6 (.of 6) [v6] h n k) h n λv7 h8 n9=>zZ r C ⟨(F3.fr a c d f i j q p s D b e g o l v w u E U V L M y z A H W B G P Q Z),v7::v6::v5::v5::v4::v3::v2::v1::s0::s1::sT⟩ h8 n9 Kt:=by kernel_rfl
theorem F3.zaj:zZ (F3.zw8 []) C ⟨(F3.fr a c d f i j q p s D b e g o l v w u E U V L M y z A H W B G P Q Z),s0::s1::s2::sT⟩ h n Kt=sG s2 false (λk=>za .neq .int s0 (I 0) k) λv1=>yO s2 (.bool true) v1 λv2=>Kt ⟨(F3.fr a c d f i j q p s D b e g o l v w u E U V v2 M y z A H W B G P Q Z),v1::s0::s1::s2::sT⟩ h n:=by kernel_rfl
theorem F3.yt:IR.run F3.t2 C N O K (F3.fr a c d f i j q p s D b e g o l v w u E U V L M y z A H W B G P Q Z) h n=C.fn 7 (.of 7) [] h n λv1 h2 n3=>K (F3.fr a c d f i v1 q p s D b e g o l v w u E U V L M y z A H W B G P Q Z) h2 n3:=by kernel_rfl
theorem F3.v21:Arg.ev (.t (.of 21)) ⟨(F3.fr a c d f i j q p s D b e g o l v w u E U V L M y z A H W B G P Q Z),[]⟩=L:=by kernel_rfl
theorem F3.uj:IR.run F3.t6 C N O K (F3.fr a c d f i j q p s D b e g o l v w u E U V L M y z A H W B G P Q Z) h n=zI 2 f h λv1=>zI 2 i h λv2=>C.fn 8 (.of 8) [v1,v2] h n λv3 h4 n5=>di 0 v3 λv6=>di 1 v3 λv7=>K (F3.fr a c d f i j v6 v7 s D b e g o l v w u E U V L M y z A H W B G P Q Z) h4 n5:=by kernel_rfl
theorem F3.ng:IR.run F3.t7 C N O K (F3.fr a c d f i j q p s D b e g o l v w u E U V L M y z A H W B G P Q Z) h n=za .neq .int p (I 0) λv1=>K (F3.fr a c d f i j q p s D b e g o l v w u E U V L v1 y z A H W B G P Q Z) h n:=by kernel_rfl
theorem F3.v22:Arg.ev (.t (.of 22)) ⟨(F3.fr a c d f i j q p s D b e g o l v w u E U V L M y z A H W B G P Q Z),[]⟩=M:=by kernel_rfl
theorem F3.nZ:IR.run F3.t12 C N O K (F3.fr a c d f i j q p s D b e g o l v w u E U V L M y z A H W B G P Q Z) h n=sNot q λv1=>K (F3.fr a c d f i j q p s D b e g o l v w u E U V L M v1 z A H W B G P Q Z) h n:=by kernel_rfl
theorem F3.rX:IR.run F3.t13 C N O K (F3.fr a c d f i j q p s D b e g o l v w u E U V L M y z A H W B G P Q Z) h n=C.fn 7 (.of 7) [] h n λv1 h2 n3=>K (F3.fr a c d f i v1 q p s D b e g o l v w u E U V L M y z A H W B G P Q Z) h2 n3:=by kernel_rfl
theorem F3.v23:Arg.ev (.t (.of 23)) ⟨(F3.fr a c d f i j q p s D b e g o l v w u E U V L M y z A H W B G P Q Z),[]⟩=y:=by kernel_rfl
theorem F3.rG:IR.run F3.t17 C N O K (F3.fr a c d f i j q p s D b e g o l v w u E U V L M y z A H W B G P Q Z) h n=zI 2 i h λv1=>C.fn 9 (.of 9) [v1,d] h n λv2 h3 n4=>di 0 v2 λv5=>di 1 v2 λv6=>K (F3.fr a c d f i j q p v5 v6 b e g o l v w u E U V L M y z A H W B G P Q Z) h3 n4:=by kernel_rfl
theorem F3.zgh:IR.run F3.t18 C N O K (F3.fr a c d f i j q p s D b e g o l v w u E U V L M y z A H W B G P Q Z) h n=zI 2 f h λv1=>C.fn 10 (.of 10) [v1,d] h n λv2 h3 n4=>di 0 v2 λv5=>di 1 v2 λv6=>K (F3.fr a c d f i j q p s D v5 v6 g o l v w u E U V L M y z A H W B G P Q Z) h3 n4:=by kernel_rfl
theorem F3.rY:IR.run F3.t19 C N O K (F3.fr a c d f i j q p s D b e g o l v w u E U V L M y z A H W B G P Q Z) h n=zI 2 f h λv1=>C.fn 10 (.of 10) [v1,s] h n λv2 h3 n4=>di 0 v2 λv5=>di 1 v2 λv6=>K (F3.fr a c d f i j q p s D b e v5 v6 l v w u E U V L M y z A H W B G P Q Z) h3 n4:=by kernel_rfl
theorem F3.aI:IR.run F3.t20 C N O K (F3.fr a c d f i j q p s D b e g o l v w u E U V L M y z A H W B G P Q Z) h n=zI 2 f h λv1=>C.fn 11 (.of 11) [v1] h n λv2 h3 n4=>di 0 v2 λv5=>di 1 v2 λv6=>K (F3.fr a c d f i j q p s D b e g o v5 v6 w u E U V L M y z A H W B G P Q Z) h3 n4:=by kernel_rfl
theorem F3.eO:IR.run F3.t21 C N O K tm h n=zZ F3.zaf C ⟨tm,[]⟩ h n (λtm h n=>K tm.v h n):=jJ ..
theorem F3.zeu:zZ (F3.zah r) C ⟨(F3.fr a c d f i j q p s D b e g o l v w u E U V L M y z A H W B G P Q Z),[]⟩ h n Kt=za .add .int D e λv1=>za .add .int v1 o λv2=>za .add .int v2 v λv3=>za .neq .int v3 (I 0) λv4=>zZ r C ⟨(F3.fr a c d f i j q p s D b e g o l v w u E U V L M y z A H W B G P Q Z),v4::v3::v::v2::o::v1::e::D::[]⟩ h n Kt:=by kernel_rfl
theorem F3.zaa:zZ (F3.zai []) C ⟨(F3.fr a c d f i j q p s D b e g o l v w u E U V L M y z A H W B G P Q Z),s0::sT⟩ h n Kt=sG s0 false (λk=>k b) λv1=>sG s0 false (λk=>k g) λv2=>sG s0 false (λk=>za .neq .bool v1 v2 k) λv3=>yO s0 (.bool true) v3 λv4=>Kt ⟨(F3.fr a c d f i j q p s D b e g o l v w u E U V L M y v4 A H W B G P Q Z),v3::v2::v1::s0::s0::sT⟩ h n:=by kernel_rfl
theorem F3.v24:Arg.ev (.t (.of 24)) ⟨(F3.fr a c d f i j q p s D b e g o l v w u E U V L M y z A H W B G P Q Z),[]⟩=z:=by kernel_rfl
theorem F3.zow:IR.run F3.t26 C N O K (F3.fr a c d f i j q p s D b e g o l v w u E U V L M y z A H W B G P Q Z) h n=K (F3.fr a c d f i j q p s D b e g o l v .zb u E U V L M y z A H W B G P Q Z) h n:=by kernel_rfl
theorem F3.zc6:IR.run F3.t27 C N O K (F3.fr a c d f i j q p s D b e g o l v w u E U V L M y z A H W B G P Q Z) h n=sLen l λv1=>K (F3.fr a c d f i j q p s D b e g o l v w u E U V L M y z v1 (I 0) W B G P Q Z) h n:=by kernel_rfl
theorem F3.zac:IR.run F3.t28 C N O K (F3.fr a c d f i j q p s D b e g o l v w u E U V L M y z A H W B G P Q Z) h n=za .lss .int H A λv1=>K (F3.fr a c d f i j q p s D b e g o l v w u E U V L M y z A H v1 B G P Q Z) h n:=by kernel_rfl
theorem F3.v27:Arg.ev (.t (.of 27)) ⟨(F3.fr a c d f i j q p s D b e g o l v w u E U V L M y z A H W B G P Q Z),[]⟩=W:=by kernel_rfl
theorem F3.qbk:IR.run F3.t30 C N O K (F3.fr a c d f i j q p s D b e g o l v w u E U V L M y z A H W B G P Q Z) h n=K (F3.fr a c d f i j q p s D b e g o l v w H E U V L M y z A H W B G P Q Z) h n:=by kernel_rfl
theorem F3.qbl:IR.run F3.t31 C N O K tm h n=zZ F3.zpe C ⟨tm,[]⟩ h n (λtm h n=>K tm.v h n):=zjb ..
theorem F3.ztx:zZ (F3.zpf r) C ⟨(F3.fr a c d f i j q p s D b e g o l v w u E U V L M y z A H W B G P Q Z),[]⟩ h n Kt=zN 1 l u λv1=>zH v1 h λv2=>sLen v2 λv3=>zM 0 f λv4=>zH v4 h λv5=>za .neq .int v3 v5 λv6=>zZ r C ⟨(F3.fr a c d f i j q p s D b e g o l v w u E U V L M y z A H W B G P Q Z),v6::v5::v4::v3::v2::v1::u::l::[]⟩ h n Kt:=by kernel_rfl
theorem F3.zty:zZ (F3.zpg r) C ⟨(F3.fr a c d f i j q p s D b e g o l v w u E U V L M y z A H W B G P Q Z),s0::sT⟩ h n Kt=sG s0 false (λk=>k l) λv1=>sG s0 false (λk=>k u) λv2=>sG s0 false (λk=>zN 1 v1 v2 k) λv3=>sG s0 false (λk=>zH v3 h k) λv4=>sGW s0 false (λk=>C.fn 12 (.of 12) [v4] h n k) h n λv5 h6 n7=>zZ r C ⟨(F3.fr a c d f i j q p s D b e g o l v w u E U V L M y z A H W B G P Q Z),v5::v4::v3::v2::v1::s0::s0::sT⟩ h6 n7 Kt:=by kernel_rfl
theorem F3.ztz:zZ (F3.zph []) C ⟨(F3.fr a c d f i j q p s D b e g o l v w u E U V L M y z A H W B G P Q Z),s0::s1::s2::s3::s4::s5::sT⟩ h n Kt=sG s5 false (λk=>za .neq .int s0 (I 0) k) λv1=>yO s5 (.bool true) v1 λv2=>Kt ⟨(F3.fr a c d f i j q p s D b e g o l v w u E U V L M y z A H W v2 G P Q Z),v1::s0::s1::s2::s3::s4::s5::sT⟩ h n:=by kernel_rfl
theorem F3.v28:Arg.ev (.t (.of 28)) ⟨(F3.fr a c d f i j q p s D b e g o l v w u E U V L M y z A H W B G P Q Z),[]⟩=B:=by kernel_rfl
theorem F3.zoz:IR.run F3.t36 C N O K (F3.fr a c d f i j q p s D b e g o l v w u E U V L M y z A H W B G P Q Z) h n=zM 0 f λv1=>zH v1 h λv2=>uG 1 16 [(.str [])] v2 v2 h n λv3 h4 n5=>K (F3.fr a c d f i j q p s D b e g o l v w u v3 U V L M y z A H W B G P Q Z) h4 n5:=by kernel_rfl
theorem F3.zo0:IR.run F3.t37 C N O K (F3.fr a c d f i j q p s D b e g o l v w u E U V L M y z A H W B G P Q Z) h n=zM 0 i λv1=>zH v1 h λv2=>sLen v2 λv3=>K (F3.fr a c d f i j q p s D b e g o l v w u E U V L M y z A H W B v2 v3 (I 0) Z) h n:=by kernel_rfl
theorem F3.zgo:IR.run F3.t38 C N O K (F3.fr a c d f i j q p s D b e g o l v w u E U V L M y z A H W B G P Q Z) h n=za .lss .int Q P λv1=>K (F3.fr a c d f i j q p s D b e g o l v w u E U V L M y z A H W B G P Q v1) h n:=by kernel_rfl
theorem F3.v32:Arg.ev (.t (.of 32)) ⟨(F3.fr a c d f i j q p s D b e g o l v w u E U V L M y z A H W B G P Q Z),[]⟩=Z:=by kernel_rfl
theorem F3.zo1:IR.run F3.t40 C N O K (F3.fr a c d f i j q p s D b e g o l v w u E U V L M y z A H W B G P Q Z) h n=zN 1 G Q λv1=>zH v1 h λv2=>K (F3.fr a c d f i j q p s D b e g o l v w u E Q v2 L M y z A H W B G P Q Z) h n:=by kernel_rfl
theorem F3.zo2:IR.run F3.t41 C N O K (F3.fr a c d f i j q p s D b e g o l v w u E U V L M y z A H W B G P Q Z) h n=zN 1 l u λv1=>zH v1 h λv2=>zN 1 v2 U λv3=>zH v3 h λv4=>zN 1 E V λv5=>yA 1 v5 v4 h n λv6 h7 n8=>K (F3.fr a c d f i j q p s D b e g o l v w u E U V L M y z A H W B G P Q Z) h7 n8:=by kernel_rfl
theorem F3.zo3:IR.run F3.t44 C N O K (F3.fr a c d f i j q p s D b e g o l v w u E U V L M y z A H W B G P Q Z) h n=za .add .int Q (I 1) λv1=>K (F3.fr a c d f i j q p s D b e g o l v w u E U V L M y z A H W B G P v1 Z) h n:=by kernel_rfl
theorem F3.zo4 (Inv:Nat->AV->T Blk->Pa->Prop) {m:Nat} (hm:m<N) (hi:Inv m Q h n)
  (step:∀ (m:Nat) (zL zA z31 z32:AV) (h:T Blk) (n:Pa) (R:Ks Prop),Inv m z31 h n->(∀ (m':Nat) (wJ wA wW wX:AV) (h':T Blk) (n':Pa),m'<m->Inv m' wW h' n'->R (F3.fr a c d f i j q p s D b e g o l v w u E wJ wA L M y z A H W B G P wW wX) h' n'=.ok True)->IR.run F3.t47 C N O R (F3.fr a c d f i j q p s D b e g o l v w u E zL zA L M y z A H W B G P z31 z32) h n=.ok True) :
  IR.run F3.t48 C N O K (F3.fr a c d f i j q p s D b e g o l v w u E U V L M y z A H W B G P Q Z) h n=.ok True:=by
 rw [F3.t48];refine yB (λm tm h n=>∃ zL zA z31 z32,tm=(F3.fr a c d f i j q p s D b e g o l v w u E zL zA L M y z A H W B G P z31 z32)/\Inv m z31 h n) ?_ hm ⟨_,_,_,_,rfl,hi⟩;rintro m _ h n R ⟨_,_,_,_,rfl,q⟩ p;exact step m _ _ _ _ h n R q λ_ _ _ _ _ _ _ x y=>p _ _ _ _ x ⟨_,_,_,_,rfl,y⟩
theorem F3.zo5:IR.run F3.t51 C N O K (F3.fr a c d f i j q p s D b e g o l v w u E U V L M y z A H W B G P Q Z) h n=y3 1 1 [.zb] [(0,1,E)] h n λv1 h2 n3=>tJ 1 24 w v1 h2 n3 λv4 h5 n6=>K (F3.fr a c d f i j q p s D b e g o l v v4 u E U V L M y z A H W B G P Q Z) h5 n6:=by kernel_rfl
theorem F3.zox:IR.run F3.t57 C N O K (F3.fr a c d f i j q p s D b e g o l v w u E U V L M y z A H W B G P Q Z) h n=za .add .int H (I 1) λv1=>K (F3.fr a c d f i j q p s D b e g o l v w u E U V L M y z A v1 W B G P Q Z) h n:=by kernel_rfl
theorem F3.qbm (Inv:Nat->AV->AV->T Blk->Pa->Prop) {m:Nat} (hm:m<N) (hi:Inv m w H h n)
  (step:∀ (m:Nat) (z5 zT zJ zK zL zA zF zG z28 z29 z30 z31 z32:AV) (h:T Blk) (n:Pa) (R:Ks Prop),Inv m zT zF h n->(∀ (m':Nat) (w5 wO wH wI wJ wA wF wG w28 wT wV wW wX:AV) (h':T Blk) (n':Pa),m'<m->Inv m' wO wF h' n'->R (F3.fr a c d f i w5 q p s D b e g o l v wO wH wI wJ wA L M y z A wF wG w28 wT wV wW wX) h' n'=.ok True)->IR.run F3.t60 C N O R (F3.fr a c d f i z5 q p s D b e g o l v zT zJ zK zL zA L M y z A zF zG z28 z29 z30 z31 z32) h n=.ok True) :
  IR.run F3.t61 C N O K (F3.fr a c d f i j q p s D b e g o l v w u E U V L M y z A H W B G P Q Z) h n=.ok True:=by
 rw [F3.t61];refine yB (λm tm h n=>∃ z5 zT zJ zK zL zA zF zG z28 z29 z30 z31 z32,tm=(F3.fr a c d f i z5 q p s D b e g o l v zT zJ zK zL zA L M y z A zF zG z28 z29 z30 z31 z32)/\Inv m zT zF h n) ?_ hm ⟨_,_,_,_,_,_,_,_,_,_,_,_,_,rfl,hi⟩;rintro m _ h n R ⟨_,_,_,_,_,_,_,_,_,_,_,_,_,rfl,q⟩ p;exact step m _ _ _ _ _ _ _ _ _ _ _ _ _ h n R q λ_ _ _ _ _ _ _ _ _ _ _ _ _ _ _ _ x y=>p _ _ _ _ x ⟨_,_,_,_,_,_,_,_,_,_,_,_,_,rfl,y⟩
theorem F3.qbn:IR.run F3.t64 C N O K (F3.fr a c d f i j q p s D b e g o l v w u E U V L M y z A H W B G P Q Z) h n=C.fn 14 (.of 14) [w] h n λv1 h2 n3=>C.fn 13 (.of 13) [v1,l] h2 n3 λv4 h5 n6=>sGW v4 true (λk=>C.fn 7 (.of 7) [] h5 n6 k) h5 n6 λv7 h8 n9=>yO v4 v7 (.bool false) λvF=>K (F3.fr a c d f i vF q p s D b e g o l v w u E U V L M y z A H W B G P Q Z) h8 n9:=by kernel_rfl
theorem F3.go:zO tbl N C (.of 3) [a0,a1,a2] h n K0=IR.run F3.t77 C N (fnO F3.res K0) (zf F3.res K0) (F3.fr a0 a1 a2 .u .u .u .u .u .u .u .u .u .u .u .u .u .u .u .u .u .u .u .u .u .u .u .u .u .u .u .u .u .u) h n:=yE (F:=F3) (by kernel_rfl) (λ_=>by kernel_rfl) (by kernel_rfl)
theorem F3.ret:zf F3.res K0 (F3.fr a c d f i j q p s D b e g o l v w u E U V L M y z A H W B G P Q Z) h n=K0 j h n:=by kernel_rfl
end
end Go.Ev
