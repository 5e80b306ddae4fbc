import Derived.Test.YtlfhlkknakiafaaGreatDoorIrT
import Derived.Test.YtlfhlkknakiafaaGreatDoorEvD
import Derived.KernelRfl
set_option linter.unusedSimpArgs false
set_option linter.unusedVariables false
namespace Go.Ev
open Go Go.Proofs
set_option maxRecDepth 100000
section
variable {N:Nat} {C:Calls Prop} {K0:Kw Prop} {K R:Ks Prop} {h:T Blk} {nx:Pa} {G E H L Q M P U V W f o a b c i j d e g l p s q B y A D z w u v Z x33 x34 x35 a0 s0 s1 s2 s3 s4 s5 s6 s7 s8 s9 s10 s11 s12 s13 s14 s15 s16 s17 s18 s19 s20 s21 s22 s23 s24 s25 s26 s27 s28 s29 s30 s31 s32 s33 s34 s35 s36 s37 s38 s39 s40 s41 s42 s43 s44 s45 s46 s47 s48 s49 s50 s51 s52 s53 s54 s55 s56 s57 s58 s59 a1:AV} {O:dw Prop} {tm:T AV} {Kt:KTm} {r:List RO} {sT:List AV}
theorem F88.jk:IR.run F88.t0 C N O K (F88.fr G E H L Q M P U V W f o a b c i j d e g l p s q B y A D z w u v Z x33 x34 x35) h nx =
 xk G h nx fun v1 h2 n3=>yO [.zn,.zn] h2 n3 fun v4 h5 n6=>K (F88.fr G v1 v4 L Q M P U V W f o a b c i j d e g l p s q B y A D z w u v Z x33 x34 x35) h5 n6:=by kernel_rfl
theorem F88.ji:IR.run F88.t1 C N O K (F88.fr G E H L Q M P U V W f o a b c i j d e g l p s q B y A D z w u v Z x33 x34 x35) h nx =
 zJ 0 E fun v1=>zH v1 h fun v2=>K (F88.fr G E H v2 Q M P U V W f o a b c i j d e g l p s q B y A D z w u v Z x33 x34 x35) h nx:=by kernel_rfl
theorem F88.qh:IR.run F88.t2 C N O K (F88.fr G E H L Q M P U V W f o a b c i j d e g l p s q B y A D z w u v Z x33 x34 x35) h nx =
 K (F88.fr G E H L .zn M P U V W f o a b c i j d e g l p s q B y A D z w u v Z x33 x34 x35) h nx:=by kernel_rfl
theorem F88.nU:IR.run F88.t3 C N O K (F88.fr G E H L Q M P U V W f o a b c i j d e g l p s q B y A D z w u v Z x33 x34 x35) h nx =
 K (F88.fr G E H L Q .zn P U V W f o a b c i j d e g l p s q B y A D z w u v Z x33 x34 x35) h nx:=by kernel_rfl
theorem F88.ny:IR.run F88.t4 C N O K (F88.fr G E H L Q M P U V W f o a b c i j d e g l p s q B y A D z w u v Z x33 x34 x35) h nx =
 K (F88.fr G E H L Q M (I 1) U V W f o a b c i j d e g l p s q B y A D z w u v Z x33 x34 x35) h nx:=by kernel_rfl
theorem F88.bV:IR.run F88.t5 C N O K (F88.fr G E H L Q M P U V W f o a b c i j d e g l p s q B y A D z w u v Z x33 x34 x35) h nx =
 zJ 1 E fun v1=>zH v1 h fun v2=>sLen v2 fun v3=>zh .lss .int P v3 fun v4=>K (F88.fr G E H L Q M P U V W f o a b c i j v4 e g l p s q B y A D z w u v Z x33 x34 x35) h nx:=by kernel_rfl
theorem F88.v17:Arg.ev (.t (.of 17)) ⟨(F88.fr G E H L Q M P U V W f o a b c i j d e g l p s q B y A D z w u v Z x33 x34 x35),[]⟩=d:=by kernel_rfl
theorem F88.sD:IR.run F88.t8 C N O K (F88.fr G E H L Q M P U V W f o a b c i j d e g l p s q B y A D z w u v Z x33 x34 x35) h nx =
 zJ 1 E fun v1=>zH v1 h fun v2=>zM 1 v2 P fun v3=>zH v3 h fun v4=>C.fn 182 (.of 182) [L,v4] h nx fun v5 h6 n7=>K (F88.fr G E H L Q M P v5 V W f o a b c i j d e g l p s q B y A D z w u v Z x33 x34 x35) h6 n7:=by kernel_rfl
theorem F88.ax:IR.run F88.t9 C N O K (F88.fr G E H L Q M P U V W f o a b c i j d e g l p s q B y A D z w u v Z x33 x34 x35) h nx =
 zJ 1 E fun v1=>zH v1 h fun v2=>zM 1 v2 (I 0) fun v3=>zH v3 h fun v4=>C.fn 89 (.of 89) [(I 1)] h nx fun v5 h6 n7=>(zH v3 h6 fun vA=>zP vA v4 ((zM 1 v2 (I 0) fun vB=>zP vB v3 ((zH v1 h6 fun vC=>zP vC v2 ((zJ 1 E fun vD=>zP vD v1 (zP L L (zP U U (C.fn 182 (.of 182) [L,v4] h6 n7 fun v8 h9 nA=>zP U U (C.fn 183 (.of 183) [U,v5,v8] h9 nA fun vE hA nB=>K (F88.fr G E H L Q M P U V W f o a b c i j d e g l p s q B y A D z w u v Z x33 x34 x35) hA nB))))))))))):=by kernel_rfl
theorem F88.nR:IR.run F88.t10 C N O K (F88.fr G E H L Q M P U V W f o a b c i j d e g l p s q B y A D z w u v Z x33 x34 x35) h nx =
 sLen M fun v1=>K (F88.fr G E H L Q M P U V W f o a b c i j d M v1 (I 0) p s q B y A D z w u v Z x33 x34 x35) h nx:=by kernel_rfl
theorem F88.fM:IR.run F88.t11 C N O K (F88.fr G E H L Q M P U V W f o a b c i j d e g l p s q B y A D z w u v Z x33 x34 x35) h nx =
 zh .lss .int l g fun v1=>K (F88.fr G E H L Q M P U V W f o a b c i j d e g l v1 s q B y A D z w u v Z x33 x34 x35) h nx:=by kernel_rfl
theorem F88.v21:Arg.ev (.t (.of 21)) ⟨(F88.fr G E H L Q M P U V W f o a b c i j d e g l p s q B y A D z w u v Z x33 x34 x35),[]⟩=p:=by kernel_rfl
theorem F88.ng:IR.run F88.t13 C N O K (F88.fr G E H L Q M P U V W f o a b c i j d e g l p s q B y A D z w u v Z x33 x34 x35) h nx =
 zM 1 e l fun v1=>zH v1 h fun v2=>K (F88.fr G E H L Q M P U l v2 f o a b c i j d e g l p s q B y A D z w u v Z x33 x34 x35) h nx:=by kernel_rfl
theorem F88.rq:IR.run F88.t14 C N O K (F88.fr G E H L Q M P U V W f o a b c i j d e g l p s q B y A D z w u v Z x33 x34 x35) h nx =
 zM 4 U W fun v1=>zD 4 v1 h fun v2=>zM 1 Q V fun v3=>zH v3 h fun v4=>C.fn 183 (.of 183) [U,v2,v4] h nx fun v5 h6 n7=>K (F88.fr G E H L Q M P U V W f o a b c i j d e g l p s q B y A D z w u v Z x33 x34 x35) h6 n7:=by kernel_rfl
theorem F88.rV:IR.run F88.t17 C N O K (F88.fr G E H L Q M P U V W f o a b c i j d e g l p s q B y A D z w u v Z x33 x34 x35) h nx =
 zh .add .int l (I 1) fun v1=>K (F88.fr G E H L Q M P U V W f o a b c i j d e g v1 p s q B y A D z w u v Z x33 x34 x35) h nx:=by kernel_rfl
theorem F88.znk (Inv:Nat->AV->T Blk->Pa->Prop) {m:Nat} (hm:m<N) (hi:Inv m l h nx)
  (step:∀ (m:Nat) (z8 z9 zA zB:AV) (h:T Blk) (nx:Pa) (R:Ks Prop),Inv m zA h nx->(∀ (m':Nat) (w8 w9 wA wB:AV) (h':T Blk) (nx':Pa),m'<m->Inv m' wA h' nx'->R (F88.fr G E H L Q M P U w8 w9 f o a b c i j d e g wA wB s q B y A D z w u v Z x33 x34 x35) h' nx'=.ok True)->IR.run F88.t20 C N O R (F88.fr G E H L Q M P U z8 z9 f o a b c i j d e g zA zB s q B y A D z w u v Z x33 x34 x35) h nx=.ok True) :
  IR.run F88.t21 C N O K (F88.fr G E H L Q M P U V W f o a b c i j d e g l p s q B y A D z w u v Z x33 x34 x35) h nx=.ok True:=by
 rw [F88.t21];refine yD (fun m tm h nx=>∃ z8 z9 zA zB,tm=(F88.fr G E H L Q M P U z8 z9 f o a b c i j d e g zA zB s q B y A D z w u v Z x33 x34 x35)/\Inv m zA h nx) ?_ hm ⟨_,_,_,_,rfl,hi⟩;rintro m tm h nx R ⟨z8,z9,zA,zB,rfl,hi⟩ hR;exact step m z8 z9 zA zB h nx R hi fun m' w8 w9 wA wB h' nx' hlt hi'=>hR m' _ h' nx' hlt ⟨_,_,_,_,rfl,hi'⟩
theorem F88.eH:IR.run F88.t24 C N O K (F88.fr G E H L Q M P U V W f o a b c i j d e g l p s q B y A D z w u v Z x33 x34 x35) h nx =
 zh .sub .int L (I 1) fun v1=>K (F88.fr G E H L Q M P U V W v1 o a b c i j d e g l p s q B y A D z w u v Z x33 x34 x35) h nx:=by kernel_rfl
theorem F88.zcl:IR.run F88.t25 C N O K tm h nx=zN F88.zop C ⟨tm,[]⟩ h nx (fun tm h nx=>K tm.v h nx):=jG ..
theorem F88.ztv:zN (F88.zoq r) C ⟨(F88.fr G E H L Q M P U V W f o a b c i j d e g l p s q B y A D z w u v Z x33 x34 x35),[]⟩ h nx Kt =
 zh .geq .int f (I 0) fun v1=>sG v1 true (fun k=>k U) fun v2=>sG v1 true (fun k=>k f) fun v3=>sG v1 true (fun k=>zM 4 v2 v3 k) fun v4=>sG v1 true (fun k=>zD 4 v4 h k) fun v5=>sGW v1 true (fun k=>C.fn 91 (.of 91) [v5] h nx k) h nx fun v6 h7 n8=>zN r C ⟨(F88.fr G E H L Q M P U V W f o a b c i j d e g l p s q B y A D z w u v Z x33 x34 x35),v6::v5::v4::v3::v2::v1::v1::f::[]⟩ h7 n8 Kt:=by kernel_rfl
theorem F88.zjj:zN (F88.zor []) C ⟨(F88.fr G E H L Q M P U V W f o a b c i j d e g l p s q B y A D z w u v Z x33 x34 x35),s0::s1::s2::s3::s4::s5::sT⟩ h nx Kt =
 sG s5 true (fun k=>zh .eql .int s0 (I 0) k) fun v1=>jD s5 v1 (.bool false) fun v2=>Kt ⟨(F88.fr G E H L Q M P U V W f o a b c i j d e g l p v2 q B y A D z w u v Z x33 x34 x35),v1::s0::s1::s2::s3::s4::s5::sT⟩ h nx:=by kernel_rfl
theorem F88.v22:Arg.ev (.t (.of 22)) ⟨(F88.fr G E H L Q M P U V W f o a b c i j d e g l p s q B y A D z w u v Z x33 x34 x35),[]⟩=s:=by kernel_rfl
theorem F88.tC:IR.run F88.t28 C N O K (F88.fr G E H L Q M P U V W f o a b c i j d e g l p s q B y A D z w u v Z x33 x34 x35) h nx =
 zh .sub .int f (I 1) fun v1=>K (F88.fr G E H L Q M P U V W v1 o a b c i j d e g l p s q B y A D z w u v Z x33 x34 x35) h nx:=by kernel_rfl
theorem F88.znf (Inv:Nat->AV->T Blk->Pa->Prop) {m:Nat} (hm:m<N) (hi:Inv m f h nx)
  (step:∀ (m:Nat) (zC zE:AV) (h:T Blk) (nx:Pa) (R:Ks Prop),Inv m zC h nx->(∀ (m':Nat) (wC wD:AV) (h':T Blk) (nx':Pa),m'<m->Inv m' wC h' nx'->R (F88.fr G E H L Q M P U V W wC o a b c i j d e g l p wD q B y A D z w u v Z x33 x34 x35) h' nx'=.ok True)->IR.run F88.t30 C N O R (F88.fr G E H L Q M P U V W zC o a b c i j d e g l p zE q B y A D z w u v Z x33 x34 x35) h nx=.ok True) :
  IR.run F88.t31 C N O K (F88.fr G E H L Q M P U V W f o a b c i j d e g l p s q B y A D z w u v Z x33 x34 x35) h nx=.ok True:=by
 rw [F88.t31];refine yD (fun m tm h nx=>∃ zC zE,tm=(F88.fr G E H L Q M P U V W zC o a b c i j d e g l p zE q B y A D z w u v Z x33 x34 x35)/\Inv m zC h nx) ?_ hm ⟨_,_,rfl,hi⟩;rintro m tm h nx R ⟨zC,zE,rfl,hi⟩ hR;exact step m zC zE h nx R hi fun m' wC wD h' nx' hlt hi'=>hR m' _ h' nx' hlt ⟨_,_,rfl,hi'⟩
theorem F88.oU:IR.run F88.t33 C N O K (F88.fr G E H L Q M P U V W f o a b c i j d e g l p s q B y A D z w u v Z x33 x34 x35) h nx =
 zh .lss .int f (I 0) fun v1=>K (F88.fr G E H L Q M P U V W f o a b c i j d e g l p s v1 B y A D z w u v Z x33 x34 x35) h nx:=by kernel_rfl
theorem F88.v23:Arg.ev (.t (.of 23)) ⟨(F88.fr G E H L Q M P U V W f o a b c i j d e g l p s q B y A D z w u v Z x33 x34 x35),[]⟩=q:=by kernel_rfl
theorem F88.ay:IR.run F88.t36 C N O K (F88.fr G E H L Q M P U V W f o a b c i j d e g l p s q B y A D z w u v Z x33 x34 x35) h nx =
 zM 4 U f fun v1=>zD 4 v1 h fun v2=>C.fn 185 (.of 185) [v2] h nx fun v3 h4 n5=>C.fn 184 (.of 184) [U,v3] h4 n5 fun v6 h7 n8=>K (F88.fr G E H L Q M P U V W f o a b c i j d e g l p s q B y A D z w u v Z x33 x34 x35) h7 n8:=by kernel_rfl
theorem F88.zaf:IR.run F88.t37 C N O K (F88.fr G E H L Q M P U V W f o a b c i j d e g l p s q B y A D z w u v Z x33 x34 x35) h nx =
 sLen Q fun v1=>K (F88.fr G E H L Q M P U V W f o a b c i j d e g l p s q Q v1 (I 0) D z w u v Z x33 x34 x35) h nx:=by kernel_rfl
theorem F88.ze0:IR.run F88.t38 C N O K (F88.fr G E H L Q M P U V W f o a b c i j d e g l p s q B y A D z w u v Z x33 x34 x35) h nx =
 zh .lss .int A y fun v1=>K (F88.fr G E H L Q M P U V W f o a b c i j d e g l p s q B y A v1 z w u v Z x33 x34 x35) h nx:=by kernel_rfl
theorem F88.v27:Arg.ev (.t (.of 27)) ⟨(F88.fr G E H L Q M P U V W f o a b c i j d e g l p s q B y A D z w u v Z x33 x34 x35),[]⟩=D:=by kernel_rfl
theorem F88.qba:IR.run F88.t40 C N O K (F88.fr G E H L Q M P U V W f o a b c i j d e g l p s q B y A D z w u v Z x33 x34 x35) h nx =
 zM 1 B A fun v1=>zH v1 h fun v2=>K (F88.fr G E H L Q M P U V W f v2 a b c i j d e g l p s q B y A D z w u v Z x33 x34 x35) h nx:=by kernel_rfl
theorem F88.qbb:IR.run F88.t41 C N O K (F88.fr G E H L Q M P U V W f o a b c i j d e g l p s q B y A D z w u v Z x33 x34 x35) h nx =
 zM 4 o f fun v1=>zD 4 v1 h fun v2=>C.fn 183 (.of 183) [o,v2,U] h nx fun v3 h4 n5=>K (F88.fr G E H L Q M P U V W f o a b c i j d e g l p s q B y A D z w u v Z x33 x34 x35) h4 n5:=by kernel_rfl
theorem F88.zcn:IR.run F88.t44 C N O K (F88.fr G E H L Q M P U V W f o a b c i j d e g l p s q B y A D z w u v Z x33 x34 x35) h nx =
 zh .add .int A (I 1) fun v1=>K (F88.fr G E H L Q M P U V W f o a b c i j d e g l p s q B y v1 D z w u v Z x33 x34 x35) h nx:=by kernel_rfl
theorem F88.zos (Inv:Nat->AV->T Blk->Pa->Prop) {m:Nat} (hm:m<N) (hi:Inv m A h nx)
  (step:∀ (m:Nat) (zF zG zI:AV) (h:T Blk) (nx:Pa) (R:Ks Prop),Inv m zG h nx->(∀ (m':Nat) (wE wF wG:AV) (h':T Blk) (nx':Pa),m'<m->Inv m' wF h' nx'->R (F88.fr G E H L Q M P U V W f wE a b c i j d e g l p s q B y wF wG z w u v Z x33 x34 x35) h' nx'=.ok True)->IR.run F88.t47 C N O R (F88.fr G E H L Q M P U V W f zF a b c i j d e g l p s q B y zG zI z w u v Z x33 x34 x35) h nx=.ok True) :
  IR.run F88.t48 C N O K (F88.fr G E H L Q M P U V W f o a b c i j d e g l p s q B y A D z w u v Z x33 x34 x35) h nx=.ok True:=by
 rw [F88.t48];refine yD (fun m tm h nx=>∃ zF zG zI,tm=(F88.fr G E H L Q M P U V W f zF a b c i j d e g l p s q B y zG zI z w u v Z x33 x34 x35)/\Inv m zG h nx) ?_ hm ⟨_,_,_,rfl,hi⟩;rintro m tm h nx R ⟨zF,zG,zI,rfl,hi⟩ hR;exact step m zF zG zI h nx R hi fun m' wE wF wG h' nx' hlt hi'=>hR m' _ h' nx' hlt ⟨_,_,_,rfl,hi'⟩
theorem F88.zaj:IR.run F88.t51 C N O K (F88.fr G E H L Q M P U V W f o a b c i j d e g l p s q B y A D z w u v Z x33 x34 x35) h nx =
 jH 1 1 [.zn] [(0,1,U)] h nx fun v1 h2 n3=>eY 1 24 Q v1 h2 n3 fun v4 h5 n6=>jH 1 1 [(I 0)] [(0,1,f)] h5 n6 fun v7 h8 n9=>eY 1 8 M v7 h8 n9 fun vF hB nC=>K (F88.fr G E H L v4 vF P U V W f o a b c i j d e g l p s q B y A D z w u v Z x33 x34 x35) hB nC:=by kernel_rfl
theorem F88.zjh:IR.run F88.t61 C N O K (F88.fr G E H L Q M P U V W f o a b c i j d e g l p s q B y A D z w u v Z x33 x34 x35) h nx =
 zh .add .int P (I 1) fun v1=>K (F88.fr G E H L Q M v1 U V W f o a b c i j d e g l p s q B y A D z w u v Z x33 x34 x35) h nx:=by kernel_rfl
theorem F88.zot (Inv:Nat->AV->AV->AV->T Blk->Pa->Prop) {m:Nat} (hm:m<N) (hi:Inv m Q M P h nx)
  (step:∀ (m:Nat) (z4 z5 z6 z7 z8 z9 zC zF zK zL zQ zA zB zE zR zT zU zG zI:AV) (h:T Blk) (nx:Pa) (R:Ks Prop),Inv m z4 z5 z6 h nx->(∀ (m':Nat) (w4 w5 w6 w7 w8 w9 wC wE wH wI wJ wA wB wD wK wL wM wF wG:AV) (h':T Blk) (nx':Pa),m'<m->Inv m' w4 w5 w6 h' nx'->R (F88.fr G E H L w4 w5 w6 w7 w8 w9 wC wE a b c i j wH wI wJ wA wB wD wK wL wM wF wG z w u v Z x33 x34 x35) h' nx'=.ok True)->IR.run F88.t63 C N O R (F88.fr G E H L z4 z5 z6 z7 z8 z9 zC zF a b c i j zK zL zQ zA zB zE zR zT zU zG zI z w u v Z x33 x34 x35) h nx=.ok True) :
  IR.run F88.t64 C N O K (F88.fr G E H L Q M P U V W f o a b c i j d e g l p s q B y A D z w u v Z x33 x34 x35) h nx=.ok True:=by
 rw [F88.t64];refine yD (fun m tm h nx=>∃ z4 z5 z6 z7 z8 z9 zC zF zK zL zQ zA zB zE zR zT zU zG zI,tm=(F88.fr G E H L z4 z5 z6 z7 z8 z9 zC zF a b c i j zK zL zQ zA zB zE zR zT zU zG zI z w u v Z x33 x34 x35)/\Inv m z4 z5 z6 h nx) ?_ hm ⟨_,_,_,_,_,_,_,_,_,_,_,_,_,_,_,_,_,_,_,rfl,hi⟩;rintro m tm h nx R ⟨z4,z5,z6,z7,z8,z9,zC,zF,zK,zL,zQ,zA,zB,zE,zR,zT,zU,zG,zI,rfl,hi⟩ hR;exact step m z4 z5 z6 z7 z8 z9 zC zF zK zL zQ zA zB zE zR zT zU zG zI h nx R hi fun m' w4 w5 w6 w7 w8 w9 wC wE wH wI wJ wA wB wD wK wL wM wF wG h' nx' hlt hi'=>hR m' _ h' nx' hlt ⟨_,_,_,_,_,_,_,_,_,_,_,_,_,_,_,_,_,_,_,rfl,hi'⟩
theorem F88.zou:IR.run F88.t67 C N O K (F88.fr G E H L Q M P U V W f o a b c i j d e g l p s q B y A D z w u v Z x33 x34 x35) h nx =
 yO [.zn,.zn] h nx fun v1 h2 n3=>K (F88.fr G E H L Q M P U V W f o v1 b c i j d e g l p s q B y A D z w u v Z x33 x34 x35) h2 n3:=by kernel_rfl
theorem F88.zfa:IR.run F88.t68 C N O K (F88.fr G E H L Q M P U V W f o a b c i j d e g l p s q B y A D z w u v Z x33 x34 x35) h nx =
 K (F88.fr G E H L Q M P U V W f o a b c i j d e g l p s q B y A D L (I 0) u v Z x33 x34 x35) h nx:=by kernel_rfl
theorem F88.qbc:IR.run F88.t69 C N O K (F88.fr G E H L Q M P U V W f o a b c i j d e g l p s q B y A D z w u v Z x33 x34 x35) h nx =
 zh .lss .int w z fun v1=>K (F88.fr G E H L Q M P U V W f o a b c i j d e g l p s q B y A D z w v1 v Z x33 x34 x35) h nx:=by kernel_rfl
theorem F88.v30:Arg.ev (.t (.of 30)) ⟨(F88.fr G E H L Q M P U V W f o a b c i j d e g l p s q B y A D z w u v Z x33 x34 x35),[]⟩=u:=by kernel_rfl
theorem F88.zn8:IR.run F88.t71 C N O K (F88.fr G E H L Q M P U V W f o a b c i j d e g l p s q B y A D z w u v Z x33 x34 x35) h nx =
 K (F88.fr G E H L Q M P U V W f o a w c i j d e g l p s q B y A D z w u v Z x33 x34 x35) h nx:=by kernel_rfl
theorem F88.ze7:IR.run F88.t72 C N O K (F88.fr G E H L Q M P U V W f o a b c i j d e g l p s q B y A D z w u v Z x33 x34 x35) h nx =
 C.fn 186 (.of 186) [M,b] h nx fun v1 h2 n3=>K (F88.fr G E H L Q M P U V W f o a b c i j d e g l p s q B y A D z w u v1 Z x33 x34 x35) h2 n3:=by kernel_rfl
theorem F88.v31:Arg.ev (.t (.of 31)) ⟨(F88.fr G E H L Q M P U V W f o a b c i j d e g l p s q B y A D z w u v Z x33 x34 x35),[]⟩=v:=by kernel_rfl
theorem F88.zjk:IR.run F88.t75 C N O K (F88.fr G E H L Q M P U V W f o a b c i j d e g l p s q B y A D z w u v Z x33 x34 x35) h nx =
 C.fn 187 (.of 187) [L] h nx fun v1 h2 n3=>K (F88.fr G E H L Q M P U V W f o a b v1 i j d e g l p s q B y A D z w u v Z x33 x34 x35) h2 n3:=by kernel_rfl
theorem F88.qbe:IR.run F88.t76 C N O K (F88.fr G E H L Q M P U V W f o a b c i j d e g l p s q B y A D z w u v Z x33 x34 x35) h nx =
 C.fn 89 (.of 89) [(I 1)] h nx fun v1 h2 n3=>zM 4 c b fun v4=>zO 4 v4 v1 h2 n3 fun v5 h6 n7=>K (F88.fr G E H L Q M P U V W f o a b c i j d e g l p s q B y A D z w u v Z x33 x34 x35) h6 n7:=by kernel_rfl
theorem F88.qbf:IR.run F88.t77 C N O K (F88.fr G E H L Q M P U V W f o a b c i j d e g l p s q B y A D z w u v Z x33 x34 x35) h nx =
 sLen M fun v1=>K (F88.fr G E H L Q M P U V W f o a b c i j d e g l p s q B y A D z w u v M v1 (I 0) x35) h nx:=by kernel_rfl
theorem F88.qbg:IR.run F88.t78 C N O K (F88.fr G E H L Q M P U V W f o a b c i j d e g l p s q B y A D z w u v Z x33 x34 x35) h nx =
 zh .lss .int x34 x33 fun v1=>K (F88.fr G E H L Q M P U V W f o a b c i j d e g l p s q B y A D z w u v Z x33 x34 v1) h nx:=by kernel_rfl
theorem F88.v35:Arg.ev (.t (.of 35)) ⟨(F88.fr G E H L Q M P U V W f o a b c i j d e g l p s q B y A D z w u v Z x33 x34 x35),[]⟩=x35:=by kernel_rfl
theorem F88.qbh:IR.run F88.t80 C N O K (F88.fr G E H L Q M P U V W f o a b c i j d e g l p s q B y A D z w u v Z x33 x34 x35) h nx =
 zM 1 Z x34 fun v1=>zH v1 h fun v2=>K (F88.fr G E H L Q M P U V W f o a b c x34 v2 d e g l p s q B y A D z w u v Z x33 x34 x35) h nx:=by kernel_rfl
theorem F88.qbi:IR.run F88.t81 C N O K (F88.fr G E H L Q M P U V W f o a b c i j d e g l p s q B y A D z w u v Z x33 x34 x35) h nx =
 zM 1 Q i fun v1=>zH v1 h fun v2=>zM 4 v2 b fun v3=>zD 4 v3 h fun v4=>C.fn 188 (.of 188) [v4] h nx fun v5 h6 n7=>zM 4 c j fun v8=>zO 4 v8 v5 h6 n7 fun v9 hC nD=>K (F88.fr G E H L Q M P U V W f o a b c i j d e g l p s q B y A D z w u v Z x33 x34 x35) hC nD:=by kernel_rfl
theorem F88.qbj:IR.run F88.t84 C N O K (F88.fr G E H L Q M P U V W f o a b c i j d e g l p s q B y A D z w u v Z x33 x34 x35) h nx =
 zh .add .int x34 (I 1) fun v1=>K (F88.fr G E H L Q M P U V W f o a b c i j d e g l p s q B y A D z w u v Z x33 v1 x35) h nx:=by kernel_rfl
theorem F88.qbk (Inv:Nat->AV->T Blk->Pa->Prop) {m:Nat} (hm:m<N) (hi:Inv m x34 h nx)
  (step:∀ (m:Nat) (zV zW zX zY:AV) (h:T Blk) (nx:Pa) (R:Ks Prop),Inv m zX h nx->(∀ (m':Nat) (wN wO wP wQ:AV) (h':T Blk) (nx':Pa),m'<m->Inv m' wP h' nx'->R (F88.fr G E H L Q M P U V W f o a b c wN wO d e g l p s q B y A D z w u v Z x33 wP wQ) h' nx'=.ok True)->IR.run F88.t87 C N O R (F88.fr G E H L Q M P U V W f o a b c zV zW d e g l p s q B y A D z w u v Z x33 zX zY) h nx=.ok True) :
  IR.run F88.t88 C N O K (F88.fr G E H L Q M P U V W f o a b c i j d e g l p s q B y A D z w u v Z x33 x34 x35) h nx=.ok True:=by
 rw [F88.t88];refine yD (fun m tm h nx=>∃ zV zW zX zY,tm=(F88.fr G E H L Q M P U V W f o a b c zV zW d e g l p s q B y A D z w u v Z x33 zX zY)/\Inv m zX h nx) ?_ hm ⟨_,_,_,_,rfl,hi⟩;rintro m tm h nx R ⟨zV,zW,zX,zY,rfl,hi⟩ hR;exact step m zV zW zX zY h nx R hi fun m' wN wO wP wQ h' nx' hlt hi'=>hR m' _ h' nx' hlt ⟨_,_,_,_,rfl,hi'⟩
theorem F88.qbl:IR.run F88.t91 C N O K (F88.fr G E H L Q M P U V W f o a b c i j d e g l p s q B y A D z w u v Z x33 x34 x35) h nx =
 zJ 0 a fun v1=>zH v1 h fun v2=>sChk ((gY (bW 1 [(I 0)]) [(0,1,b)]).isSome&&true) (zJ 1 a fun v3=>zH v3 h fun v4=>sChk ((gY (bW 1 [.zn]) [(0,1,c)]).isSome&&true) (jH 1 1 [(I 0)] [(0,1,b)] h nx fun v5 h6 n7=>zP c c ((zH v3 h6 fun vG=>zP vG v4 ((zJ 1 a fun vH=>zP vH v3 (zP b b ((zH v1 h6 fun vI=>zP vI v2 ((zJ 0 a fun vJ=>zP vJ v1 (eY 1 8 v2 v5 h6 n7 fun v8 h9 nA=>zP c c ((zH v3 h9 fun vK=>zP vK v4 ((zJ 1 a fun vL=>zP vL v3 (zP b b ((zH v1 h9 fun vM=>zP vM v2 ((zJ 0 a fun vN=>zP vN v1 (zJ 0 a fun vE=>jH 1 1 [.zn] [(0,1,c)] h9 nA fun vO hD nE=>(zJ 0 a fun vP=>zP vP vE ((zH v3 hD fun vQ=>zP vQ v4 ((zJ 1 a fun vR=>zP vR v3 (zP b b ((zH v1 hD fun vS=>zP vS v2 ((zJ 0 a fun vT=>zP vT v1 (eY 1 24 v4 vO hD nE fun vC hE nF=>(zJ 0 a fun vU=>zP vU vE (zO 1 vE v8 hE nF fun vV hF nG=>zJ 1 a fun vW=>zO 1 vW vC hF nG fun vX hG nH=>K (F88.fr G E H L Q M P U V W f o a b c i j d e g l p s q B y A D z w u v Z x33 x34 x35) hG nH))))))))))))))))))))))))))))))))))):=by kernel_rfl
theorem F88.zwo:IR.run F88.t98 C N O K (F88.fr G E H L Q M P U V W f o a b c i j d e g l p s q B y A D z w u v Z x33 x34 x35) h nx =
 zh .add .int w (I 1) fun v1=>K (F88.fr G E H L Q M P U V W f o a b c i j d e g l p s q B y A D z v1 u v Z x33 x34 x35) h nx:=by kernel_rfl
theorem F88.zyn (Inv:Nat->AV->T Blk->Pa->Prop) {m:Nat} (hm:m<N) (hi:Inv m w h nx)
  (step:∀ (m:Nat) (zZ z14 zV zW z29 z30 z31 z32 z33 zX zY:AV) (h:T Blk) (nx:Pa) (R:Ks Prop),Inv m z29 h nx->(∀ (m':Nat) (wR wS wN wO wT wU wV wW wX wP wQ:AV) (h':T Blk) (nx':Pa),m'<m->Inv m' wT h' nx'->R (F88.fr G E H L Q M P U V W f o a wR wS wN wO d e g l p s q B y A D z wT wU wV wW wX wP wQ) h' nx'=.ok True)->IR.run F88.t101 C N O R (F88.fr G E H L Q M P U V W f o a zZ z14 zV zW d e g l p s q B y A D z z29 z30 z31 z32 z33 zX zY) h nx=.ok True) :
  IR.run F88.t102 C N O K (F88.fr G E H L Q M P U V W f o a b c i j d e g l p s q B y A D z w u v Z x33 x34 x35) h nx=.ok True:=by
 rw [F88.t102];refine yD (fun m tm h nx=>∃ zZ z14 zV zW z29 z30 z31 z32 z33 zX zY,tm=(F88.fr G E H L Q M P U V W f o a zZ z14 zV zW d e g l p s q B y A D z z29 z30 z31 z32 z33 zX zY)/\Inv m z29 h nx) ?_ hm ⟨_,_,_,_,_,_,_,_,_,_,_,rfl,hi⟩;rintro m tm h nx R ⟨zZ,z14,zV,zW,z29,z30,z31,z32,z33,zX,zY,rfl,hi⟩ hR;exact step m zZ z14 zV zW z29 z30 z31 z32 z33 zX zY h nx R hi fun m' wR wS wN wO wT wU wV wW wX wP wQ h' nx' hlt hi'=>hR m' _ h' nx' hlt ⟨_,_,_,_,_,_,_,_,_,_,_,rfl,hi'⟩
theorem F88.zyo:IR.run F88.t105 C N O K (F88.fr G E H L Q M P U V W f o a b c i j d e g l p s q B y A D z w u v Z x33 x34 x35) h nx =
 zD 2 a h fun v1=>zO 2 H v1 h nx fun v2 h3 n4=>K (F88.fr G E H L Q M P U V W f o a b c i j d e g l p s q B y A D z w u v Z x33 x34 x35) h3 n4:=by kernel_rfl
theorem F88.go:zS tbl N C (.of 88) [a0] h nx K0=IR.run F88.t113 C N (fnO F88.res K0) (yu F88.res K0) (F88.fr a0 .u .u .u .u .u .u .u .u .u .u .u .u .u .u .u .u .u .u .u .u .u .u .u .u .u .u .u .u .u .u .u .u .u .u .u) h nx:=yW (F:=F88) (by kernel_rfl) (fun _=>by kernel_rfl) (by kernel_rfl)
theorem F88.ret:yu F88.res K0 (F88.fr G E H L Q M P U V W f o a b c i j d e g l p s q B y A D z w u v Z x33 x34 x35) h nx=zD 2 H h fun v1=>K0 v1 h nx:=by kernel_rfl
theorem F93.jk:IR.run F93.t0 C N O K (F93.fr G E H) h nx =
 K (F93.fr G E (.bool false)) h nx:=by kernel_rfl
theorem F93.ji:IR.run F93.t1 C N O K (F93.fr G E H) h nx =
 C.fn 195 (.of 195) [G,E] h nx fun v1 h2 n3=>zh .geq .int v1 (I 0) fun v4=>K (F93.fr G E v4) h2 n3:=by kernel_rfl
theorem F93.go:zS tbl N C (.of 93) [a0,a1] h nx K0=IR.run F93.t3 C N (fnO F93.res K0) (yu F93.res K0) (F93.fr a0 a1 .u) h nx:=yW (F:=F93) (by kernel_rfl) (fun _=>by kernel_rfl) (by kernel_rfl)
theorem F93.ret:yu F93.res K0 (F93.fr G E H) h nx=K0 H h nx:=by kernel_rfl
theorem F94.jk:IR.run F94.t0 C N O K (F94.fr G E H L) h nx =
 xk G h nx fun v1 h2 n3=>K (F94.fr G E v1 (.bool false)) h2 n3:=by kernel_rfl
theorem F94.ji:IR.run F94.t1 C N O K (F94.fr G E H L) h nx =
 zJ 0 H fun v1=>zD 4 v1 h fun v2=>zD 4 E h fun v3=>zJ 4 H fun v4=>zD 4 v4 h fun v5=>C.fn 96 (.of 96) [v3,v5] h nx fun v6 h7 n8=>(zD 4 v1 h7 fun vD=>zP vD v2 ((zJ 0 H fun vY=>zP vY v1 (C.fn 95 (.of 95) [v2,v6] h7 n8 fun v9 hC nD=>eX v9 fun vO=>K (F94.fr G E H vO) hC nD)))):=by kernel_rfl
theorem F94.go:zS tbl N C (.of 94) [a0,a1] h nx K0=IR.run F94.t3 C N (fnO F94.res K0) (yu F94.res K0) (F94.fr a0 a1 .u .u) h nx:=yW (F:=F94) (by kernel_rfl) (fun _=>by kernel_rfl) (by kernel_rfl)
theorem F94.ret:yu F94.res K0 (F94.fr G E H L) h nx=K0 L h nx:=by kernel_rfl
theorem jo.jk:IR.run jo.t0 C N O K (jo.fr G E H L Q M P U) h nx =
 K (jo.fr G E (I 0) L Q M P U) h nx:=by kernel_rfl
theorem jo.ji:IR.run jo.t1 C N O K (jo.fr G E H L Q M P U) h nx =
 sLen G fun v1=>K (jo.fr G E H L v1 (I 0) P U) h nx:=by kernel_rfl
theorem jo.qh:IR.run jo.t2 C N O K (jo.fr G E H L Q M P U) h nx =
 zh .lss .int M Q fun v1=>K (jo.fr G E H L Q M v1 U) h nx:=by kernel_rfl
theorem jo.v6:Arg.ev (.t (.of 6)) ⟨(jo.fr G E H L Q M P U),[]⟩=P:=by kernel_rfl
theorem jo.ny:IR.run jo.t4 C N O K (jo.fr G E H L Q M P U) h nx =
 K (jo.fr G E H M Q M P U) h nx:=by kernel_rfl
theorem jo.bV:IR.run jo.t5 C N O K (jo.fr G E H L Q M P U) h nx =
 zM 8 G L fun v1=>zD 8 v1 h fun v2=>dN C E [v2] h nx fun v3 h4 n5=>K (jo.fr G E H L Q M P v3) h4 n5:=by kernel_rfl
theorem jo.bf:IR.run jo.t6 C N O K (jo.fr G E H L Q M P U) h nx =
 K (jo.fr G E L L Q M P U) h nx:=by kernel_rfl
theorem jo.v7:Arg.ev (.t (.of 7)) ⟨(jo.fr G E H L Q M P U),[]⟩=U:=by kernel_rfl
theorem jo.nS:IR.run jo.t12 C N O K (jo.fr G E H L Q M P U) h nx =
 zh .add .int M (I 1) fun v1=>K (jo.fr G E H L Q v1 P U) h nx:=by kernel_rfl
theorem jo.zoo (Inv:Nat->AV->T Blk->Pa->Prop) {m:Nat} (hm:m<N) (hi:Inv m M h nx)
  (step:∀ (m:Nat) (z2 z3 z5 z6 z7:AV) (h:T Blk) (nx:Pa) (R:Ks Prop),Inv m z5 h nx->(∀ (m':Nat) (w2 w3 w5 w6 w7:AV) (h':T Blk) (nx':Pa),m'<m->Inv m' w5 h' nx'->R (jo.fr G E w2 w3 Q w5 w6 w7) h' nx'=.ok True)->IR.run jo.t15 C N O R (jo.fr G E z2 z3 Q z5 z6 z7) h nx=.ok True) :
  IR.run jo.t16 C N O K (jo.fr G E H L Q M P U) h nx=.ok True:=by
 rw [jo.t16];refine yD (fun m tm h nx=>∃ z2 z3 z5 z6 z7,tm=(jo.fr G E z2 z3 Q z5 z6 z7)/\Inv m z5 h nx) ?_ hm ⟨_,_,_,_,_,rfl,hi⟩;rintro m tm h nx R ⟨z2,z3,z5,z6,z7,rfl,hi⟩ hR;exact step m z2 z3 z5 z6 z7 h nx R hi fun m' w2 w3 w5 w6 w7 h' nx' hlt hi'=>hR m' _ h' nx' hlt ⟨_,_,_,_,_,rfl,hi'⟩
theorem jo.sV:IR.run jo.t19 C N O K (jo.fr G E H L Q M P U) h nx =
 K (jo.fr G E (I (-1)) L Q M P U) h nx:=by kernel_rfl
theorem jo.go:zS tbl N C (.of 195) [a0,a1] h nx K0=IR.run jo.t22 C N (fnO jo.res K0) (yu jo.res K0) (jo.fr a0 a1 .u .u .u .u .u .u) h nx:=yW (F:=jo) (by kernel_rfl) (fun _=>by kernel_rfl) (by kernel_rfl)
theorem jo.ret:yu jo.res K0 (jo.fr G E H L Q M P U) h nx=K0 H h nx:=by kernel_rfl
theorem F98.jk:IR.run F98.t0 C N O K (F98.fr G E H L) h nx =
 xk G h nx fun v1 h2 n3=>K (F98.fr G v1 (I 0) (.bool false)) h2 n3:=by kernel_rfl
theorem F98.ji:IR.run F98.t1 C N O K (F98.fr G E H L) h nx =
 zJ 0 E fun v1=>zH v1 h fun v2=>zJ 1 E fun v3=>zH v3 h fun v4=>zh .eql (.nil .sl) v4 .zn fun v5=>K (F98.fr G E v2 v5) h nx:=by kernel_rfl
theorem F98.go:zS tbl N C (.of 98) [a0] h nx K0=IR.run F98.t3 C N (fnO F98.res K0) (yu F98.res K0) (F98.fr a0 .u .u .u) h nx:=yW (F:=F98) (by kernel_rfl) (fun _=>by kernel_rfl) (by kernel_rfl)
theorem F98.ret:yu F98.res K0 (F98.fr G E H L) h nx=K0 (.tup [H,L]) h nx:=by kernel_rfl
theorem F21.jk:IR.run F21.t0 C N O K (F21.fr G E H L Q M P U V W f o a b c i j d e g l p s q B y A D z w u v) h nx =
 xk G h nx fun v1 h2 n3=>K (F21.fr G v1 (I 0) (I 0) Q M P U V W f o a b c i j d e g l p s q B y A D z w u v) h2 n3:=by kernel_rfl
theorem F21.ji:IR.run F21.t1 C N O K (F21.fr G E H L Q M P U V W f o a b c i j d e g l p s q B y A D z w u v) h nx =
 zD 2 E h fun v1=>C.fn 87 (.of 87) [v1] h nx fun v2 h3 n4=>K (F21.fr G E H L v2 M P U V W f o a b c i j d e g l p s q B y A D z w u v) h3 n4:=by kernel_rfl
theorem F21.qh:IR.run F21.t2 C N O K (F21.fr G E H L Q M P U V W f o a b c i j d e g l p s q B y A D z w u v) h nx =
 zh .neq .int Q (I 0) fun v1=>K (F21.fr G E H L Q M P U V W f o a b c v1 j d e g l p s q B y A D z w u v) h nx:=by kernel_rfl
theorem F21.v15:Arg.ev (.t (.of 15)) ⟨(F21.fr G E H L Q M P U V W f o a b c i j d e g l p s q B y A D z w u v),[]⟩=i:=by kernel_rfl
theorem F21.sD:IR.run F21.t8 C N O K (F21.fr G E H L Q M P U V W f o a b c i j d e g l p s q B y A D z w u v) h nx =
 zJ 1 E fun v1=>zH v1 h fun v2=>sLen v2 fun v3=>zh .eql .int v3 (I 0) fun v4=>K (F21.fr G E H L Q M P U V W f o a b c i v4 d e g l p s q B y A D z w u v) h nx:=by kernel_rfl
theorem F21.ax:IR.run F21.t9 C N O K (F21.fr G E H L Q M P U V W f o a b c i j d e g l p s q B y A D z w u v) h nx =
 K (F21.fr G E (I 0) (I 7) Q M P U V W f o a b c i j d e g l p s q B y A D z w u v) h nx:=by kernel_rfl
theorem F21.v16:Arg.ev (.t (.of 16)) ⟨(F21.fr G E H L Q M P U V W f o a b c i j d e g l p s q B y A D z w u v),[]⟩=j:=by kernel_rfl
theorem F21.ng:IR.run F21.t13 C N O K (F21.fr G E H L Q M P U V W f o a b c i j d e g l p s q B y A D z w u v) h nx =
 yO [(I 0),.zn,(I 0),.zn] h nx fun v1 h2 n3=>K (F21.fr G E H L Q v1 P U V W f o a b c i j d e g l p s q B y A D z w u v) h2 n3:=by kernel_rfl
theorem F21.rq:IR.run F21.t14 C N O K (F21.fr G E H L Q M P U V W f o a b c i j d e g l p s q B y A D z w u v) h nx =
 K (F21.fr G E H L Q M (.bool false) U V W f o a b c i j d e g l p s q B y A D z w u v) h nx:=by kernel_rfl
theorem F21.sF:IR.run F21.t15 C N O K (F21.fr G E H L Q M P U V W f o a b c i j d e g l p s q B y A D z w u v) h nx =
 K (F21.fr G E H L Q M P .zn V W f o a b c i j d e g l p s q B y A D z w u v) h nx:=by kernel_rfl
theorem F21.nZ:IR.run F21.t16 C N O K (F21.fr G E H L Q M P U V W f o a b c i j d e g l p s q B y A D z w u v) h nx =
 zD 2 E h fun v1=>C.fn 88 (.of 88) [v1] h nx fun v2 h3 n4=>zfb 1 none v2 fun v5=>sLen v5 fun v6=>K (F21.fr G E H L Q M P U V W f o a b c i j v5 v6 (I 0) l p s q B y A D z w u v) h3 n4:=by kernel_rfl
theorem F21.rV:IR.run F21.t17 C N O K (F21.fr G E H L Q M P U V W f o a b c i j d e g l p s q B y A D z w u v) h nx =
 zh .lss .int g e fun v1=>K (F21.fr G E H L Q M P U V W f o a b c i j d e g v1 p s q B y A D z w u v) h nx:=by kernel_rfl
theorem F21.v20:Arg.ev (.t (.of 20)) ⟨(F21.fr G E H L Q M P U V W f o a b c i j d e g l p s q B y A D z w u v),[]⟩=l:=by kernel_rfl
theorem F21.sV:IR.run F21.t19 C N O K (F21.fr G E H L Q M P U V W f o a b c i j d e g l p s q B y A D z w u v) h nx =
 zM 1 d g fun v1=>zH v1 h fun v2=>K (F21.fr G E H L Q M P U v2 W f o a b c i j d e g l p s q B y A D z w u v) h nx:=by kernel_rfl
theorem F21.zez:IR.run F21.t20 C N O K (F21.fr G E H L Q M P U V W f o a b c i j d e g l p s q B y A D z w u v) h nx =
 C.fn 89 (.of 89) [(I 0)] h nx fun v1 h2 n3=>C.fn 89 (.of 89) [(I 0)] h2 n3 fun v4 h5 n6=>gE [(I 0),.zn,(I 0),.zn,(I 0),.zn,(I 0),.zn] [(0,4,v1),(4,4,v4)] fun v7=>yO [(I 0),.zn,(I 0),.zn,(I 0),.zn,(I 0),.zn] h5 n6 fun v8 h9 nA=>zO 8 v8 v7 h9 nA fun vE hA nB=>K (F21.fr G E H L Q M P U V v8 f o a b c i j d e g l p s q B y A D z w u v) hA nB:=by kernel_rfl
theorem F21.sU:IR.run F21.t21 C N O K (F21.fr G E H L Q M P U V W f o a b c i j d e g l p s q B y A D z w u v) h nx =
 sLen V fun v1=>K (F21.fr G E H L Q M P U V W f o a b c i j d e g l V v1 (I 0) B y A D z w u v) h nx:=by kernel_rfl
theorem F21.oP:IR.run F21.t22 C N O K (F21.fr G E H L Q M P U V W f o a b c i j d e g l p s q B y A D z w u v) h nx =
 zh .lss .int q s fun v1=>K (F21.fr G E H L Q M P U V W f o a b c i j d e g l p s q v1 y A D z w u v) h nx:=by kernel_rfl
theorem F21.v24:Arg.ev (.t (.of 24)) ⟨(F21.fr G E H L Q M P U V W f o a b c i j d e g l p s q B y A D z w u v),[]⟩=B:=by kernel_rfl
theorem F21.eH:IR.run F21.t24 C N O K (F21.fr G E H L Q M P U V W f o a b c i j d e g l p s q B y A D z w u v) h nx =
 zM 4 p q fun v1=>zD 4 v1 h fun v2=>yO [(I 0),.zn,(I 0),.zn] h nx fun v3 h4 n5=>zO 4 v3 v2 h4 n5 fun v6 h7 n8=>K (F21.fr G E H L Q M P U V W v3 o a b c i j d e g l p s q B y A D z w u v) h7 n8:=by kernel_rfl
theorem F21.zcl:IR.run F21.t25 C N O K (F21.fr G E H L Q M P U V W f o a b c i j d e g l p s q B y A D z w u v) h nx =
 zJ 0 W fun v1=>zD 4 v1 h fun v2=>zD 4 f h fun v3=>C.fn 90 (.of 90) [v2,v3] h nx fun v4 h5 n6=>zJ 0 W fun v7=>zO 4 v7 v4 h5 n6 fun v8 h9 nA=>K (F21.fr G E H L Q M P U V W f o a b c i j d e g l p s q B y A D z w u v) h9 nA:=by kernel_rfl
theorem F21.tC:IR.run F21.t28 C N O K (F21.fr G E H L Q M P U V W f o a b c i j d e g l p s q B y A D z w u v) h nx =
 zh .add .int q (I 1) fun v1=>K (F21.fr G E H L Q M P U V W f o a b c i j d e g l p s v1 B y A D z w u v) h nx:=by kernel_rfl
theorem F21.qbm (Inv:Nat->AV->T Blk->Pa->Prop) {m:Nat} (hm:m<N) (hi:Inv m q h nx)
  (step:∀ (m:Nat) (zC zR zT:AV) (h:T Blk) (nx:Pa) (R:Ks Prop),Inv m zR h nx->(∀ (m':Nat) (wC wK wL:AV) (h':T Blk) (nx':Pa),m'<m->Inv m' wK h' nx'->R (F21.fr G E H L Q M P U V W wC o a b c i j d e g l p s wK wL y A D z w u v) h' nx'=.ok True)->IR.run F21.t31 C N O R (F21.fr G E H L Q M P U V W zC o a b c i j d e g l p s zR zT y A D z w u v) h nx=.ok True) :
  IR.run F21.t32 C N O K (F21.fr G E H L Q M P U V W f o a b c i j d e g l p s q B y A D z w u v) h nx=.ok True:=by
 rw [F21.t32];refine yD (fun m tm h nx=>∃ zC zR zT,tm=(F21.fr G E H L Q M P U V W zC o a b c i j d e g l p s zR zT y A D z w u v)/\Inv m zR h nx) ?_ hm ⟨_,_,_,rfl,hi⟩;rintro m tm h nx R ⟨zC,zR,zT,rfl,hi⟩ hR;exact step m zC zR zT h nx R hi fun m' wC wK wL h' nx' hlt hi'=>hR m' _ h' nx' hlt ⟨_,_,_,rfl,hi'⟩
theorem F21.znw:IR.run F21.t35 C N O K (F21.fr G E H L Q M P U V W f o a b c i j d e g l p s q B y A D z w u v) h nx =
 zJ 1 E fun v1=>zH v1 h fun v2=>zM 1 v2 (I 0) fun v3=>zH v3 h fun v4=>sLen v4 fun v5=>K (F21.fr G E H L Q M P U V W f o a b c i j d e g l p s q B v4 v5 (I 0) z w u v) h nx:=by kernel_rfl
theorem F21.ay:IR.run F21.t36 C N O K (F21.fr G E H L Q M P U V W f o a b c i j d e g l p s q B y A D z w u v) h nx =
 zh .lss .int D A fun v1=>K (F21.fr G E H L Q M P U V W f o a b c i j d e g l p s q B y A D v1 w u v) h nx:=by kernel_rfl
theorem F21.v28:Arg.ev (.t (.of 28)) ⟨(F21.fr G E H L Q M P U V W f o a b c i j d e g l p s q B y A D z w u v),[]⟩=z:=by kernel_rfl
theorem F21.ze0:IR.run F21.t38 C N O K (F21.fr G E H L Q M P U V W f o a b c i j d e g l p s q B y A D z w u v) h nx =
 zM 1 y D fun v1=>zH v1 h fun v2=>K (F21.fr G E H L Q M P U V W f v2 a b c i j d e g l p s q B y A D z w u v) h nx:=by kernel_rfl
theorem F21.ze1:IR.run F21.t39 C N O K (F21.fr G E H L Q M P U V W f o a b c i j d e g l p s q B y A D z w u v) h nx =
 zJ 4 W fun v1=>zD 4 v1 h fun v2=>zM 4 V o fun v3=>zD 4 v3 h fun v4=>C.fn 90 (.of 90) [v2,v4] h nx fun v5 h6 n7=>zJ 4 W fun v8=>zO 4 v8 v5 h6 n7 fun v9 hC nD=>K (F21.fr G E H L Q M P U V W f o a b c i j d e g l p s q B y A D z w u v) hC nD:=by kernel_rfl
theorem F21.zjf:IR.run F21.t42 C N O K (F21.fr G E H L Q M P U V W f o a b c i j d e g l p s q B y A D z w u v) h nx =
 zh .add .int D (I 1) fun v1=>K (F21.fr G E H L Q M P U V W f o a b c i j d e g l p s q B y A v1 z w u v) h nx:=by kernel_rfl
theorem F21.qbn (Inv:Nat->AV->T Blk->Pa->Prop) {m:Nat} (hm:m<N) (hi:Inv m D h nx)
  (step:∀ (m:Nat) (zF zI z28:AV) (h:T Blk) (nx:Pa) (R:Ks Prop),Inv m zI h nx->(∀ (m':Nat) (wE wG wY:AV) (h':T Blk) (nx':Pa),m'<m->Inv m' wG h' nx'->R (F21.fr G E H L Q M P U V W f wE a b c i j d e g l p s q B y A wG wY w u v) h' nx'=.ok True)->IR.run F21.t45 C N O R (F21.fr G E H L Q M P U V W f zF a b c i j d e g l p s q B y A zI z28 w u v) h nx=.ok True) :
  IR.run F21.t46 C N O K (F21.fr G E H L Q M P U V W f o a b c i j d e g l p s q B y A D z w u v) h nx=.ok True:=by
 rw [F21.t46];refine yD (fun m tm h nx=>∃ zF zI z28,tm=(F21.fr G E H L Q M P U V W f zF a b c i j d e g l p s q B y A zI z28 w u v)/\Inv m zI h nx) ?_ hm ⟨_,_,_,rfl,hi⟩;rintro m tm h nx R ⟨zF,zI,z28,rfl,hi⟩ hR;exact step m zF zI z28 h nx R hi fun m' wE wG wY h' nx' hlt hi'=>hR m' _ h' nx' hlt ⟨_,_,_,rfl,hi'⟩
theorem F21.zoe:IR.run F21.t49 C N O K (F21.fr G E H L Q M P U V W f o a b c i j d e g l p s q B y A D z w u v) h nx =
 zJ 4 W fun v1=>zD 4 v1 h fun v2=>C.fn 91 (.of 91) [v2] h nx fun v3 h4 n5=>zh .neq .int v3 (I 0) fun v6=>sG v6 true (fun k=>k P) fun v7=>sG v6 true (fun k=>eX v7 k) fun v8=>jD v6 v8 (.bool false) fun v9=>K (F21.fr G E H L Q M P U V W f o a b c i j d e g l p s q B y A D z v9 u v) h4 n5:=by kernel_rfl
theorem F21.ze5:IR.run F21.t50 C N O K (F21.fr G E H L Q M P U V W f o a b c i j d e g l p s q B y A D z w u v) h nx =
 zJ 0 W fun v1=>zD 4 v1 h fun v2=>zJ 4 W fun v3=>zD 4 v3 h fun v4=>C.fn 92 (.of 92) [v2,v4] h nx fun v5 h6 n7=>zO 4 M v5 h6 n7 fun v8 h9 nA=>K (F21.fr G E H L Q M (.bool true) U V W f o a b c i j d e g l p s q B y A D z w u v) h9 nA:=by kernel_rfl
theorem F21.v29:Arg.ev (.t (.of 29)) ⟨(F21.fr G E H L Q M P U V W f o a b c i j d e g l p s q B y A D z w u v),[]⟩=w:=by kernel_rfl
theorem F21.ze2:IR.run F21.t53 C N O K (F21.fr G E H L Q M P U V W f o a b c i j d e g l p s q B y A D z w u v) h nx =
 zD 8 W h fun v1=>jH 8 1 [(I 0),.zn,(I 0),.zn,(I 0),.zn,(I 0),.zn] [(0,8,v1)] h nx fun v2 h3 n4=>eY 8 128 U v2 h3 n4 fun v5 h6 n7=>K (F21.fr G E H L Q M P v5 V W f o a b c i j d e g l p s q B y A D z w u v) h6 n7:=by kernel_rfl
theorem F21.ze6:IR.run F21.t60 C N O K (F21.fr G E H L Q M P U V W f o a b c i j d e g l p s q B y A D z w u v) h nx =
 zh .add .int g (I 1) fun v1=>K (F21.fr G E H L Q M P U V W f o a b c i j d e v1 l p s q B y A D z w u v) h nx:=by kernel_rfl
theorem F21.zot (Inv:Nat->AV->AV->AV->T Blk->Pa->Prop) {m:Nat} (hm:m<N) (hi:Inv m P U g h nx)
  (step:∀ (m:Nat) (z6 z7 z8 z9 zC zF zQ zA zB zE zR zT zU zG zI z28 z29:AV) (h:T Blk) (nx:Pa) (R:Ks Prop),Inv m z6 z7 zQ h nx->(∀ (m':Nat) (w6 w7 w8 w9 wC wE wJ wA wB wD wK wL wM wF wG wY wT:AV) (h':T Blk) (nx':Pa),m'<m->Inv m' w6 w7 wJ h' nx'->R (F21.fr G E H L Q M w6 w7 w8 w9 wC wE a b c i j d e wJ wA wB wD wK wL wM wF wG wY wT u v) h' nx'=.ok True)->IR.run F21.t63 C N O R (F21.fr G E H L Q M z6 z7 z8 z9 zC zF a b c i j d e zQ zA zB zE zR zT zU zG zI z28 z29 u v) h nx=.ok True) :
  IR.run F21.t64 C N O K (F21.fr G E H L Q M P U V W f o a b c i j d e g l p s q B y A D z w u v) h nx=.ok True:=by
 rw [F21.t64];refine yD (fun m tm h nx=>∃ z6 z7 z8 z9 zC zF zQ zA zB zE zR zT zU zG zI z28 z29,tm=(F21.fr G E H L Q M z6 z7 z8 z9 zC zF a b c i j d e zQ zA zB zE zR zT zU zG zI z28 z29 u v)/\Inv m z6 z7 zQ h nx) ?_ hm ⟨_,_,_,_,_,_,_,_,_,_,_,_,_,_,_,_,_,rfl,hi⟩;rintro m tm h nx R ⟨z6,z7,z8,z9,zC,zF,zQ,zA,zB,zE,zR,zT,zU,zG,zI,z28,z29,rfl,hi⟩ hR;exact step m z6 z7 z8 z9 zC zF zQ zA zB zE zR zT zU zG zI z28 z29 h nx R hi fun m' w6 w7 w8 w9 wC wE wJ wA wB wD wK wL wM wF wG wY wT h' nx' hlt hi'=>hR m' _ h' nx' hlt ⟨_,_,_,_,_,_,_,_,_,_,_,_,_,_,_,_,_,rfl,hi'⟩
theorem F21.zou:IR.run F21.t67 C N O K tm h nx=zN F21.zov C ⟨tm,[]⟩ h nx (fun tm h nx=>K tm.v h nx):=jG ..
theorem F21.ztw:zN (F21.zow r) C ⟨(F21.fr G E H L Q M P U V W f o a b c i j d e g l p s q B y A D z w u v),[]⟩ h nx Kt =
 eX P fun v1=>sG v1 false (fun k=>zD 4 M h k) fun v2=>sGW v1 false (fun k=>C.fn 91 (.of 91) [v2] h nx k) h nx fun v3 h4 n5=>zN r C ⟨(F21.fr G E H L Q M P U V W f o a b c i j d e g l p s q B y A D z w u v),v3::v2::v1::v1::P::[]⟩ h4 n5 Kt:=by kernel_rfl
theorem F21.zjl:zN (F21.zox r) C ⟨(F21.fr G E H L Q M P U V W f o a b c i j d e g l p s q B y A D z w u v),s0::s1::s2::sT⟩ h nx Kt =
 sG s2 false (fun k=>zh .eql .int s0 (I 0) k) fun v1=>jD s2 (.bool true) v1 fun v2=>sG v2 false (fun k=>k U) fun v3=>sG v2 false (fun k=>k (.fn 94 (.of 94) [M])) fun v4=>sGW v2 false (fun k=>C.fn 93 (.of 93) [v3,v4] h nx k) h nx fun v5 h6 n7=>zN r C ⟨(F21.fr G E H L Q M P U V W f o a b c i j d e g l p s q B y A D z w u v),v5::v4::v3::v2::v2::v1::s0::s1::s2::sT⟩ h6 n7 Kt:=by kernel_rfl
theorem F21.zdl:zN (F21.zoy []) C ⟨(F21.fr G E H L Q M P U V W f o a b c i j d e g l p s q B y A D z w u v),s0::s1::s2::s3::sT⟩ h nx Kt =
 jD s3 (.bool true) s0 fun v1=>Kt ⟨(F21.fr G E H L Q M P U V W f o a b c i j d e g l p s q B y A D z w v1 v),s0::s1::s2::s3::sT⟩ h nx:=by kernel_rfl
theorem F21.zfa:IR.run F21.t68 C N O K (F21.fr G E H L Q M P U V W f o a b c i j d e g l p s q B y A D z w u v) h nx =
 K (F21.fr G E (I 0) (I 7) Q M P U V W f o a b c i j d e g l p s q B y A D z w u v) h nx:=by kernel_rfl
theorem F21.v30:Arg.ev (.t (.of 30)) ⟨(F21.fr G E H L Q M P U V W f o a b c i j d e g l p s q B y A D z w u v),[]⟩=u:=by kernel_rfl
theorem F21.ze7:IR.run F21.t72 C N O K (F21.fr G E H L Q M P U V W f o a b c i j d e g l p s q B y A D z w u v) h nx =
 sChk (true&&true) (zJ 0 E fun v1=>zH v1 h fun v2=>zJ 0 E fun v3=>zH v3 h fun v4=>zh .add .int v4 (I 1) fun v5=>zh .mul .int v2 v5 fun v6=>zh .quo .int v6 (I 2) fun v7=>zD 4 M h fun v8=>C.fn 89 (.of 89) [v7] h nx fun v9 hC nD=>(zD 4 M hC fun vZ=>zP vZ v8 ((zh .quo .int v6 (I 2) fun v43=>zP v43 v7 ((zh .mul .int v2 v5 fun v42=>zP v42 v6 ((zh .add .int v4 (I 1) fun v41=>zP v41 v5 ((zH v3 hC fun v40=>zP v40 v4 ((zJ 0 E fun v39=>zP v39 v3 ((zH v1 hC fun vG=>zP vG v2 ((zJ 0 E fun vH=>zP vH v1 (C.fn 92 (.of 92) [v9,v8] hC nD fun vO hD nE=>(zD 4 M hD fun vI=>zP vI v8 ((zh .quo .int v6 (I 2) fun vJ=>zP vJ v7 ((zh .mul .int v2 v5 fun vK=>zP vK v6 ((zh .add .int v4 (I 1) fun vL=>zP vL v5 ((zH v3 hD fun vM=>zP vM v4 ((zJ 0 E fun vN=>zP vN v3 ((zH v1 hD fun vP=>zP vP v2 ((zJ 0 E fun vQ=>zP vQ v1 (yO [(I 0),.zn,(I 0),.zn] hD nE fun vC hE nF=>(zD 4 M hE fun vR=>zP vR v8 ((zh .quo .int v6 (I 2) fun vS=>zP vS v7 ((zh .mul .int v2 v5 fun vT=>zP vT v6 ((zh .add .int v4 (I 1) fun vU=>zP vU v5 ((zH v3 hE fun v24=>zP v24 v4 ((zJ 0 E fun v23=>zP v23 v3 ((zH v1 hE fun vX=>zP vX v2 ((zJ 0 E fun vW=>zP vW v1 (zO 4 vC vO hE nF fun vV hF nG=>K (F21.fr G E H L Q M P U V W f o vC b c i j d e g l p s q B y A D z w u v) hF nG))))))))))))))))))))))))))))))))))))))))))))))))):=by kernel_rfl
theorem F21.qbo:IR.run F21.t73 C N O K (F21.fr G E H L Q M P U V W f o a b c i j d e g l p s q B y A D z w u v) h nx =
 zD 4 a h fun v1=>C.fn 97 (.of 97) [v1] h nx fun v2 h3 n4=>C.fn 98 (.of 98) [v2] h3 n4 fun v5 h6 n7=>uq 0 v5 fun v8=>uq 1 v5 fun v9=>K (F21.fr G E H L Q M P U V W f o a v8 v9 i j d e g l p s q B y A D z w u v) h6 n7:=by kernel_rfl
theorem F21.qbp:IR.run F21.t74 C N O K (F21.fr G E H L Q M P U V W f o a b c i j d e g l p s q B y A D z w u v) h nx =
 zD 4 a h fun v1=>C.fn 99 (.of 99) [v1] h nx fun v2 h3 n4=>eX v2 fun v5=>sG v5 false (fun k=>k c) fun v6=>sG v5 false (fun k=>eX v6 k) fun v7=>jD v5 (.bool true) v7 fun v8=>K (F21.fr G E H L Q M P U V W f o a b c i j d e g l p s q B y A D z w u v8) h3 n4:=by kernel_rfl
theorem F21.zjk:IR.run F21.t75 C N O K (F21.fr G E H L Q M P U V W f o a b c i j d e g l p s q B y A D z w u v) h nx =
 K (F21.fr G E (I 0) (I 21) Q M P U V W f o a b c i j d e g l p s q B y A D z w u v) h nx:=by kernel_rfl
theorem F21.v31:Arg.ev (.t (.of 31)) ⟨(F21.fr G E H L Q M P U V W f o a b c i j d e g l p s q B y A D z w u v),[]⟩=v:=by kernel_rfl
theorem F21.qbq:IR.run F21.t79 C N O K (F21.fr G E H L Q M P U V W f o a b c i j d e g l p s q B y A D z w u v) h nx =
 K (F21.fr G E b (I 0) Q M P U V W f o a b c i j d e g l p s q B y A D z w u v) h nx:=by kernel_rfl
theorem F21.go:zS tbl N C (.of 21) [a0] h nx K0=IR.run F21.t91 C N (fnO F21.res K0) (yu F21.res K0) (F21.fr a0 .u .u .u .u .u .u .u .u .u .u .u .u .u .u .u .u .u .u .u .u .u .u .u .u .u .u .u .u .u .u .u) h nx:=yW (F:=F21) (by kernel_rfl) (fun _=>by kernel_rfl) (by kernel_rfl)
theorem F21.ret:yu F21.res K0 (F21.fr G E H L Q M P U V W f o a b c i j d e g l p s q B y A D z w u v) h nx=K0 (.tup [H,L]) h nx:=by kernel_rfl
theorem qx.sH (X2:IR) (C:Calls Prop) (N:Nat) (O:dw Prop) (K:Ks Prop) (G E H L Q M P U V:AV) (h:T Blk) (nx:Pa):IR.run (qx.g1 X2) C N O K (qx.fr G E H L Q M P U V) h nx =
 IR.run X2 C N (O.blk 0 K) K (qx.fr G E H L Q M P U V) h nx:=by kernel_rfl
theorem qx.tab:T.get none (.of 147) tbl=some qx:=by kernel_rfl
theorem qx.go:zS tbl N C (.of 147) [a0] h nx K0 =
 C.fn 236 (.of 236) [a0] h nx fun v1 h2 n3=>C.fn 235 (.of 235) [v1] h2 n3 fun v4 h5 n6=>sLen v4 fun v7=>IR.run qx.b1 C N (fnO qx.res K0) (IR.run qx.b8 C N (fnO qx.res K0) (yu qx.res K0)) (qx.fr a0 (.bool false) .u .u v4 v7 (I 0) .u .u) h5 n6:=by
 rw [yI qx.tab];kernel_rfl
theorem qx.e1:IR.run qx.b3 C N ((fnO qx.res K0).blk 0 K) R (qx.fr G E H L Q M P U V) h nx =
 zh .lss .int P M fun v1=>yG v1 (zM 1 Q P fun v2=>zH v2 h fun v3=>zh .add .int P (I 1) fun v4=>zh .neq .int v3 v4 fun v5=>yG v5 (K0 (.bool false) h nx) (zh .add .int P (I 1) fun v6=>R (qx.fr G E P v3 Q M v6 v1 v5) h nx)) (K (qx.fr G E H L Q M P v1 V) h nx):=by kernel_rfl
theorem qx.L1 (Inv:Nat->AV->T Blk->Pa->Prop) {m:Nat} (hm:m<N) (hi:Inv m P h nx)
  (step:∀ (m:Nat) (z1 z2 z3 z6 z7 z8:AV) (h:T Blk) (nx:Pa) (R:Ks Prop),Inv m z6 h nx->(∀ (m':Nat) (w1 w2 w3 w6 w7 w8:AV) (h':T Blk) (nx':Pa),m'<m->Inv m' w6 h' nx'->R (qx.fr G w1 w2 w3 Q M w6 w7 w8) h' nx'=.ok True) ->
   (zh .lss .int z6 M fun v1=>yG v1 (zM 1 Q z6 fun v2=>zH v2 h fun v3=>zh .add .int z6 (I 1) fun v4=>zh .neq .int v3 v4 fun v5=>yG v5 (K0 (.bool false) h nx) (zh .add .int z6 (I 1) fun v6=>R (qx.fr G z1 z6 v3 Q M v6 v1 v5) h nx)) (K (qx.fr G z1 z2 z3 Q M z6 v1 z8) h nx))=.ok True) :
  IR.run qx.b1 C N (fnO qx.res K0) K (qx.fr G E H L Q M P U V) h nx=.ok True:=by
 rw [qx.b1,qx.sH,qx.b2];refine yD (fun m tm h nx=>∃ z1 z2 z3 z6 z7 z8,tm=(qx.fr G z1 z2 z3 Q M z6 z7 z8)/\Inv m z6 h nx) ?_ hm ⟨_,_,_,_,_,_,rfl,hi⟩;rintro m tm h nx R ⟨z1,z2,z3,z6,z7,z8,rfl,hi⟩ hR;rw [qx.e1];exact step m z1 z2 z3 z6 z7 z8 h nx R hi fun m' w1 w2 w3 w6 w7 w8 h' nx' hlt hi'=>hR m' _ h' nx' hlt ⟨_,_,_,_,_,_,rfl,hi'⟩
theorem qx.k8:IR.run qx.b8 C N (fnO qx.res K0) K (qx.fr G E H L Q M P U V) h nx =
 K0 (.bool true) h nx:=by kernel_rfl
theorem aX.tab:T.get none (.of 166) tbl=some aX:=by kernel_rfl
theorem aX.go:zS tbl N C (.of 166) [a0] h nx K0 =
 C.fn 65 (.of 65) [(I (-999999999)),(I 999999999),a0] h nx fun v1 h2 n3=>K0 v1 h2 n3:=by
 rw [yI aX.tab];kernel_rfl
theorem F22.tab:T.get none (.of 22) tbl=some F22:=by kernel_rfl
theorem F22.go:zS tbl N C (.of 22) [a0,a1] h nx K0 =
 xk a0 h nx fun v1 h2 n3=>zD 2 v1 h2 fun v4=>C.fn 67 (.of 67) [v4,a1] h2 n3 fun v5 h6 n7=>zh .neq .int v5 (I 0) fun v8=>yG v8 (K0 (.tup [.zn,v5]) h6 n7) (zD 2 v1 h6 fun v9=>C.fn 100 (.of 100) [v9,a1] h6 n7 fun vF hB nC=>K0 (.tup [vF,(I 0)]) hB nC):=by
 rw [yI F22.tab];kernel_rfl
theorem qy.sH (X2:IR) (C:Calls Prop) (N:Nat) (O:dw Prop) (K:Ks Prop) (G E H L Q M P U V W:AV) (h:T Blk) (nx:Pa):IR.run (qy.g1 X2) C N O K (qy.fr G E H L Q M P U V W) h nx =
 IR.run X2 C N (O.blk 0 K) K (qy.fr G E H L Q M P U V W) h nx:=by kernel_rfl
theorem qy.tab:T.get none (.of 100) tbl=some qy:=by kernel_rfl
theorem qy.go:zS tbl N C (.of 100) [a0,a1] h nx K0 =
 xk a0 h nx fun v1 h2 n3=>zJ 1 v1 fun v4=>zH v4 h2 fun v5=>sLen v5 fun v6=>IR.run qy.b1 C N (fnO qy.res K0) (IR.run qy.b8 C N (fnO qy.res K0) (yu qy.res K0)) (qy.fr a0 a1 v1 .zn .zn .u v5 v6 (I 0) .u) h2 n3:=by
 rw [yI qy.tab];kernel_rfl
theorem qy.e1:IR.run qy.b3 C N ((fnO qy.res K0).blk 0 K) R (qy.fr G E H L Q M P U V W) h nx =
 zh .lss .int V U fun v1=>yG v1 (zM 1 P V fun v2=>zH v2 h fun v3=>C.fn 198 (.of 198) [v3,E] h nx fun v4 h5 n6=>jH 1 1 [(I 0)] [(0,1,v4)] h5 n6 fun v7 h8 n9=>eY 1 8 Q v7 h8 n9 fun vF hB nC=>zh .add .int V (I 1) fun vY=>R (qy.fr G E H L vF v3 P U vY v1) hB nC) (K (qy.fr G E H L Q M P U V v1) h nx):=by kernel_rfl
theorem qy.L1 (Inv:Nat->AV->AV->T Blk->Pa->Prop) {m:Nat} (hm:m<N) (hi:Inv m Q V h nx)
  (step:∀ (m:Nat) (z4 z5 z8 z9:AV) (h:T Blk) (nx:Pa) (R:Ks Prop),Inv m z4 z8 h nx->(∀ (m':Nat) (w4 w5 w8 w9:AV) (h':T Blk) (nx':Pa),m'<m->Inv m' w4 w8 h' nx'->R (qy.fr G E H L w4 w5 P U w8 w9) h' nx'=.ok True) ->
   (zh .lss .int z8 U fun v1=>yG v1 (zM 1 P z8 fun v2=>zH v2 h fun v3=>C.fn 198 (.of 198) [v3,E] h nx fun v4 h5 n6=>jH 1 1 [(I 0)] [(0,1,v4)] h5 n6 fun v7 h8 n9=>eY 1 8 z4 v7 h8 n9 fun vF hB nC=>zh .add .int z8 (I 1) fun vY=>R (qy.fr G E H L vF v3 P U vY v1) hB nC) (K (qy.fr G E H L z4 z5 P U z8 v1) h nx))=.ok True) :
  IR.run qy.b1 C N (fnO qy.res K0) K (qy.fr G E H L Q M P U V W) h nx=.ok True:=by
 rw [qy.b1,qy.sH,qy.b2];refine yD (fun m tm h nx=>∃ z4 z5 z8 z9,tm=(qy.fr G E H L z4 z5 P U z8 z9)/\Inv m z4 z8 h nx) ?_ hm ⟨_,_,_,_,rfl,hi⟩;rintro m tm h nx R ⟨z4,z5,z8,z9,rfl,hi⟩ hR;rw [qy.e1];exact step m z4 z5 z8 z9 h nx R hi fun m' w4 w5 w8 w9 h' nx' hlt hi'=>hR m' _ h' nx' hlt ⟨_,_,_,_,rfl,hi'⟩
theorem qy.k8:IR.run qy.b8 C N (fnO qy.res K0) K (qy.fr G E H L Q M P U V W) h nx =
 K0 Q h nx:=by kernel_rfl
theorem F67.tab:T.get none (.of 67) tbl=some F67:=by kernel_rfl
theorem F67.go:zS tbl N C (.of 67) [a0,a1] h nx K0 =
 xk a0 h nx fun v1 h2 n3=>zD 2 v1 h2 fun v4=>sLen a1 fun v5=>zJ 0 v1 fun v6=>zH v6 h2 fun v7=>zh .neq .int v5 v7 fun v8=>C.fn 87 (.of 87) [v4] h2 n3 fun v9 hC nD=>zP a1 a1 ((zh .neq .int v5 v7 fun vS=>zP vS v8 ((zH v6 hC fun vT=>zP vT v7 ((zJ 0 v1 fun vU=>zP vU v6 ((sLen a1 fun v24=>zP v24 v5 (zP a1 a1 (C.fn 64 (.of 64) [v8,(I 2)] hC nD fun vO hD nE=>zP a1 a1 (C.fn 166 (.of 166) [a1] hD nE fun vC hE nF=>jH 1 3 [(I 0)] [(0,1,v9),(1,1,vO),(2,1,vC)] hE nF fun vV hF nG=>C.fn 63 (.of 63) [vV] hF nG fun vW hH nI=>K0 vW hH nI))))))))))):=by
 rw [yI F67.tab];kernel_rfl
theorem wu.sH (X2:IR) (C:Calls Prop) (N:Nat) (O:dw Prop) (K:Ks Prop) (G E H L Q M P U V:AV) (h:T Blk) (nx:Pa):IR.run (wu.g1 X2) C N O K (wu.fr G E H L Q M P U V) h nx =
 IR.run X2 C N (O.blk 0 K) K (wu.fr G E H L Q M P U V) h nx:=by kernel_rfl
theorem wu.tab:T.get none (.of 198) tbl=some wu:=by kernel_rfl
theorem wu.go:zS tbl N C (.of 198) [a0,a1] h nx K0 =
 sLen a0 fun v1=>IR.run wu.b1 C N (fnO wu.res K0) (IR.run wu.b8 C N (fnO wu.res K0) (yu wu.res K0)) (wu.fr a0 a1 (I 0) (I 0) .u a0 v1 (I 0) .u) h nx:=by
 rw [yI wu.tab];kernel_rfl
theorem wu.e1:IR.run wu.b3 C N ((fnO wu.res K0).blk 0 K) R (wu.fr G E H L Q M P U V) h nx =
 zh .lss .int U P fun v1=>yG v1 (zM 1 M U fun v2=>zH v2 h fun v3=>zM 1 E v3 fun v4=>zH v4 h fun v5=>zh .add .int L v5 fun v6=>zh .add .int U (I 1) fun v7=>R (wu.fr G E H v6 v3 M P v7 v1) h nx) (K (wu.fr G E H L Q M P U v1) h nx):=by kernel_rfl
theorem wu.L1 (Inv:Nat->AV->AV->T Blk->Pa->Prop) {m:Nat} (hm:m<N) (hi:Inv m L U h nx)
  (step:∀ (m:Nat) (z3 z4 z7 z8:AV) (h:T Blk) (nx:Pa) (R:Ks Prop),Inv m z3 z7 h nx->(∀ (m':Nat) (w3 w4 w7 w8:AV) (h':T Blk) (nx':Pa),m'<m->Inv m' w3 w7 h' nx'->R (wu.fr G E H w3 w4 M P w7 w8) h' nx'=.ok True) ->
   (zh .lss .int z7 P fun v1=>yG v1 (zM 1 M z7 fun v2=>zH v2 h fun v3=>zM 1 E v3 fun v4=>zH v4 h fun v5=>zh .add .int z3 v5 fun v6=>zh .add .int z7 (I 1) fun v7=>R (wu.fr G E H v6 v3 M P v7 v1) h nx) (K (wu.fr G E H z3 z4 M P z7 v1) h nx))=.ok True) :
  IR.run wu.b1 C N (fnO wu.res K0) K (wu.fr G E H L Q M P U V) h nx=.ok True:=by
 rw [wu.b1,wu.sH,wu.b2];refine yD (fun m tm h nx=>∃ z3 z4 z7 z8,tm=(wu.fr G E H z3 z4 M P z7 z8)/\Inv m z3 z7 h nx) ?_ hm ⟨_,_,_,_,rfl,hi⟩;rintro m tm h nx R ⟨z3,z4,z7,z8,rfl,hi⟩ hR;rw [wu.e1];exact step m z3 z4 z7 z8 h nx R hi fun m' w3 w4 w7 w8 h' nx' hlt hi'=>hR m' _ h' nx' hlt ⟨_,_,_,_,rfl,hi'⟩
theorem wu.k8:IR.run wu.b8 C N (fnO wu.res K0) K (wu.fr G E H L Q M P U V) h nx =
 K0 L h nx:=by kernel_rfl
theorem F4.jk:IR.run F4.t0 C N O K (F4.fr G E H L Q M P U V W f o a b c i j d e g l p s q) h nx =
 K (F4.fr G (.bool false) H L Q M P U V W f o a b c i j d e g l p s q) h nx:=by kernel_rfl
theorem F4.ji:IR.run F4.t1 C N O K (F4.fr G E H L Q M P U V W f o a b c i j d e g l p s q) h nx =
 qN .i64 G fun v1=>zh .rem .int v1 (I 16) fun v2=>zh .add .int (I 1) v2 fun v3=>K (F4.fr G E v3 L Q M P U V W f o a b c i j d e g l p s q) h nx:=by kernel_rfl
theorem F4.qh:IR.run F4.t2 C N O K (F4.fr G E H L Q M P U V W f o a b c i j d e g l p s q) h nx =
 C.fn 17 (.of 17) [H] h nx fun v1 h2 n3=>uq 0 v1 fun v4=>uq 1 v1 fun v5=>yO [(I 0),(I 0),.zn] h2 n3 fun v6 h7 n8=>zO 3 v6 v4 h7 n8 fun v9 hC nD=>K (F4.fr G E H v6 v5 M P U V W f o a b c i j d e g l p s q) hC nD:=by kernel_rfl
theorem F4.nU:IR.run F4.t3 C N O K (F4.fr G E H L Q M P U V W f o a b c i j d e g l p s q) h nx =
 C.fn 18 (.of 18) [H] h nx fun v1 h2 n3=>uq 0 v1 fun v4=>uq 1 v1 fun v5=>yO [(I 0),(I 0),.zn] h2 n3 fun v6 h7 n8=>zO 3 v6 v4 h7 n8 fun v9 hC nD=>K (F4.fr G E H L Q v6 v5 U V W f o a b c i j d e g l p s q) hC nD:=by kernel_rfl
theorem F4.ny:IR.run F4.t4 C N O K tm h nx=zN F4.r4_0 C ⟨tm,[]⟩ h nx (fun tm h nx=>K tm.v h nx):=jG ..
theorem F4.zg1:zN (F4.zwp r) C ⟨(F4.fr G E H L Q M P U V W f o a b c i j d e g l p s q),[]⟩ h nx Kt =
 zh .eql .int P (I 0) fun v1=>sG v1 true (fun k=>zD 3 M h k) fun v2=>sGW v1 true (fun k=>jH 1 2 [(.str [])] [(0,1,(.str [110,111,114,109,97,108])),(1,1,(.str [112,97,110,100,105,97,103,111,110,97,108]))] h nx k) h nx fun v3 h4 n5=>zN r C ⟨(F4.fr G E H L Q M P U V W f o a b c i j d e g l p s q),v3::v2::v1::v1::P::[]⟩ h4 n5 Kt:=by kernel_rfl
theorem F4.zg2:zN (F4.zwq r) C ⟨(F4.fr G E H L Q M P U V W f o a b c i j d e g l p s q),s0::s1::s2::sT⟩ h nx Kt =
 sGW s2 true (fun k=>C.fn 16 (.of 16) [s1,s0] h nx k) h nx fun v1 h2 n3=>zN r C ⟨(F4.fr G E H L Q M P U V W f o a b c i j d e g l p s q),v1::s0::s1::s2::sT⟩ h2 n3 Kt:=by kernel_rfl
theorem F4.zg3:zN (F4.zwr r) C ⟨(F4.fr G E H L Q M P U V W f o a b c i j d e g l p s q),s0::s1::s2::s3::sT⟩ h nx Kt =
 sG s3 true (fun k=>eX s0 k) fun v1=>sG s3 true (fun k=>k v1) fun v2=>sG v2 false (fun k=>k H) fun v3=>sG v2 false (fun k=>zh .rem .int v3 (I 4) k) fun v4=>sG v2 false (fun k=>zh .eql .int v4 (I 0) k) fun v5=>sG v2 false (fun k=>k v5) fun v6=>sG v6 true (fun k=>zD 3 M h k) fun v7=>sGW v6 true (fun k=>jH 1 1 [(.str [])] [(0,1,(.str [109,111,115,116,45,112,101,114,102,101,99,116]))] h nx k) h nx fun v8 h9 nA=>zN r C ⟨(F4.fr G E H L Q M P U V W f o a b c i j d e g l p s q),v8::v7::v6::v5::v4::v3::v2::v1::s0::s1::s2::s3::sT⟩ h9 nA Kt:=by kernel_rfl
theorem F4.zdm:zN (F4.zwt r) C ⟨(F4.fr G E H L Q M P U V W f o a b c i j d e g l p s q),s0::s1::s2::sT⟩ h nx Kt =
 sGW s2 true (fun k=>C.fn 16 (.of 16) [s1,s0] h nx k) h nx fun v1 h2 n3=>zN r C ⟨(F4.fr G E H L Q M P U V W f o a b c i j d e g l p s q),v1::s0::s1::s2::sT⟩ h2 n3 Kt:=by kernel_rfl
theorem F4.zdn:zN (F4.zwu []) C ⟨(F4.fr G E H L Q M P U V W f o a b c i j d e g l p s q),s0::s1::s2::s3::s4::s5::s6::s7::s8::s9::s10::s11::s12::sT⟩ h nx Kt =
 sG s3 true (fun k=>eX s0 k) fun v1=>sG s7 false (fun k=>jD s3 v1 (.bool false) k) fun v2=>sG s12 true (fun k=>jD s7 (.bool true) v2 k) fun v3=>jD s12 v3 (.bool false) fun v4=>Kt ⟨(F4.fr G E H L Q M P U V W f o a b v4 i j d e g l p s q),v3::v2::v1::s0::s1::s2::s3::s4::s5::s6::s7::s8::s9::s10::s11::s12::sT⟩ h nx:=by kernel_rfl
theorem F4.v14:Arg.ev (.t (.of 14)) ⟨(F4.fr G E H L Q M P U V W f o a b c i j d e g l p s q),[]⟩=c:=by kernel_rfl
theorem F4.nR:IR.run F4.t10 C N O K (F4.fr G E H L Q M P U V W f o a b c i j d e g l p s q) h nx =
 zh .eql .int H (I 2) fun v1=>K (F4.fr G E H L Q M P U V W f o a b c v1 j d e g l p s q) h nx:=by kernel_rfl
theorem F4.fM:IR.run F4.t11 C N O K (F4.fr G E H L Q M P U V W f o a b c i j d e g l p s q) h nx =
 zh .eql .int Q (I 7) fun v1=>sGW v1 true (fun k=>C.fn 19 (.of 19) [] h nx k) h nx fun v2 h3 n4=>jD v1 v2 (.bool false) fun v5=>K (F4.fr G v5 H L Q M P U V W f o a b c i j d e g l p s q) h3 n4:=by kernel_rfl
theorem F4.v15:Arg.ev (.t (.of 15)) ⟨(F4.fr G E H L Q M P U V W f o a b c i j d e g l p s q),[]⟩=i:=by kernel_rfl
theorem F4.sF:IR.run F4.t15 C N O K tm h nx=zN F4.r8_0 C ⟨tm,[]⟩ h nx (fun tm h nx=>K tm.v h nx):=jG ..
theorem F4.zyp:zN (F4.zwv r) C ⟨(F4.fr G E H L Q M P U V W f o a b c i j d e g l p s q),[]⟩ h nx Kt =
 zh .neq .int Q (I 0) fun v1=>sG v1 false (fun k=>zD 3 L h k) fun v2=>sGW v1 false (fun k=>jH 1 3 [(.str [])] [(0,1,(.str [110,111,114,109,97,108])),(1,1,(.str [115,101,109,105,109,97,103,105,99])),(2,1,(.str [109,97,103,105,99]))] h nx k) h nx fun v3 h4 n5=>zN r C ⟨(F4.fr G E H L Q M P U V W f o a b c i j d e g l p s q),v3::v2::v1::v1::Q::[]⟩ h4 n5 Kt:=by kernel_rfl
theorem F4.zyq:zN (F4.zww r) C ⟨(F4.fr G E H L Q M P U V W f o a b c i j d e g l p s q),s0::s1::s2::sT⟩ h nx Kt =
 sGW s2 false (fun k=>C.fn 16 (.of 16) [s1,s0] h nx k) h nx fun v1 h2 n3=>zN r C ⟨(F4.fr G E H L Q M P U V W f o a b c i j d e g l p s q),v1::s0::s1::s2::sT⟩ h2 n3 Kt:=by kernel_rfl
theorem F4.zyr:zN (F4.zwx r) C ⟨(F4.fr G E H L Q M P U V W f o a b c i j d e g l p s q),s0::s1::s2::s3::sT⟩ h nx Kt =
 sG s3 false (fun k=>eX s0 k) fun v1=>jD s3 (.bool true) v1 fun v2=>sG v2 false (fun k=>k H) fun v3=>sG v2 false (fun k=>zh .rem .int v3 (I 4) k) fun v4=>sG v2 false (fun k=>zh .neq .int v4 (I 2) k) fun v5=>sG v2 false (fun k=>k v5) fun v6=>sG v6 true (fun k=>zD 3 L h k) fun v7=>zN r C ⟨(F4.fr G E H L Q M P U V W f o a b c i j d e g l p s q),v7::v6::v5::v4::v3::v2::v2::v1::s0::s1::s2::s3::sT⟩ h nx Kt:=by kernel_rfl
theorem F4.zoz:zN (F4.zwy r) C ⟨(F4.fr G E H L Q M P U V W f o a b c i j d e g l p s q),s0::s1::sT⟩ h nx Kt =
 sGW s1 true (fun k=>jH 1 1 [(.str [])] [(0,1,(.str [97,115,115,111,99,105,97,116,105,118,101]))] h nx k) h nx fun v1 h2 n3=>zN r C ⟨(F4.fr G E H L Q M P U V W f o a b c i j d e g l p s q),v1::s0::s1::sT⟩ h2 n3 Kt:=by kernel_rfl
theorem F4.zo0:zN (F4.zwz r) C ⟨(F4.fr G E H L Q M P U V W f o a b c i j d e g l p s q),s0::s1::s2::sT⟩ h nx Kt =
 sGW s2 true (fun k=>C.fn 16 (.of 16) [s1,s0] h nx k) h nx fun v1 h2 n3=>zN r C ⟨(F4.fr G E H L Q M P U V W f o a b c i j d e g l p s q),v1::s0::s1::s2::sT⟩ h2 n3 Kt:=by kernel_rfl
theorem F4.zo1:zN (F4.zw0 []) C ⟨(F4.fr G E H L Q M P U V W f o a b c i j d e g l p s q),s0::s1::s2::s3::s4::s5::s6::s7::sT⟩ h nx Kt =
 sG s3 true (fun k=>eX s0 k) fun v1=>sG s7 false (fun k=>jD s3 v1 (.bool false) k) fun v2=>jD s7 (.bool true) v2 fun v3=>Kt ⟨(F4.fr G E H L Q M P U V W f o a b c i v3 d e g l p s q),v2::v1::s0::s1::s2::s3::s4::s5::s6::s7::sT⟩ h nx:=by kernel_rfl
theorem F4.v16:Arg.ev (.t (.of 16)) ⟨(F4.fr G E H L Q M P U V W f o a b c i j d e g l p s q),[]⟩=j:=by kernel_rfl
theorem F4.zez:IR.run F4.t20 C N O K (F4.fr G E H L Q M P U V W f o a b c i j d e g l p s q) h nx =
 C.fn 12 (.of 12) [(.str [109,97,103,105,99]),H] h nx fun v1 h2 n3=>uq 0 v1 fun v4=>uq 1 v1 fun v5=>yO [(I 0),.zn] h2 n3 fun v6 h7 n8=>zO 2 v6 v4 h7 n8 fun v9 hC nD=>K (F4.fr G E H L Q M P v6 v5 W f o a b c i j d e g l p s q) hC nD:=by kernel_rfl
theorem F4.sU:IR.run F4.t21 C N O K (F4.fr G E H L Q M P U V W f o a b c i j d e g l p s q) h nx =
 zh .neq .int V (I 0) fun v1=>sG v1 false (fun k=>zD 2 U h k) fun v2=>sGW v1 false (fun k=>C.fn 20 (.of 20) [v2] h nx k) h nx fun v3 h4 n5=>sG v1 false (fun k=>zh .neq .int v3 (I 0) k) fun v6=>jD v1 (.bool true) v6 fun v7=>K (F4.fr G E H L Q M P U V W f o a b c i j v7 e g l p s q) h4 n5:=by kernel_rfl
theorem F4.v17:Arg.ev (.t (.of 17)) ⟨(F4.fr G E H L Q M P U V W f o a b c i j d e g l p s q),[]⟩=d:=by kernel_rfl
theorem F4.zjd:IR.run F4.t26 C N O K (F4.fr G E H L Q M P U V W f o a b c i j d e g l p s q) h nx =
 zD 2 U h fun v1=>C.fn 21 (.of 21) [v1] h nx fun v2 h3 n4=>uq 0 v2 fun v5=>uq 1 v2 fun v6=>K (F4.fr G E H L Q M P U V v5 v6 o a b c i j d e g l p s q) h3 n4:=by kernel_rfl
theorem F4.zcm:IR.run F4.t27 C N O K (F4.fr G E H L Q M P U V W f o a b c i j d e g l p s q) h nx =
 zD 2 U h fun v1=>zJ 2 L fun v2=>zH v2 h fun v3=>C.fn 22 (.of 22) [v1,v3] h nx fun v4 h5 n6=>uq 0 v4 fun v7=>uq 1 v4 fun v8=>K (F4.fr G E H L Q M P U V W f v7 v8 b c i j d e g l p s q) h5 n6:=by kernel_rfl
theorem F4.tC:IR.run F4.t28 C N O K tm h nx=zN F4.zo2 C ⟨tm,[]⟩ h nx (fun tm h nx=>K tm.v h nx):=jG ..
theorem F4.ztx:zN (F4.zo3 r) C ⟨(F4.fr G E H L Q M P U V W f o a b c i j d e g l p s q),[]⟩ h nx Kt =
 zh .neq .int f (I 0) fun v1=>sG v1 false (fun k=>k a) fun v2=>sG v1 false (fun k=>zh .neq .int v2 (I 0) k) fun v3=>jD v1 (.bool true) v3 fun v4=>sG v4 false (fun k=>k W) fun v5=>zN r C ⟨(F4.fr G E H L Q M P U V W f o a b c i j d e g l p s q),v5::v4::v4::v3::v2::v1::v1::f::[]⟩ h nx Kt:=by kernel_rfl
theorem F4.zty:zN (F4.zo4 r) C ⟨(F4.fr G E H L Q M P U V W f o a b c i j d e g l p s q),s0::s1::sT⟩ h nx Kt =
 sG s1 false (fun k=>k H) fun v1=>sGW s1 false (fun k=>C.fn 23 (.of 23) [v1] h nx k) h nx fun v2 h3 n4=>zN r C ⟨(F4.fr G E H L Q M P U V W f o a b c i j d e g l p s q),v2::v1::s0::s1::sT⟩ h3 n4 Kt:=by kernel_rfl
theorem F4.ztz:zN (F4.zo5 r) C ⟨(F4.fr G E H L Q M P U V W f o a b c i j d e g l p s q),s0::s1::s2::s3::sT⟩ h nx Kt =
 sG s3 false (fun k=>zh .neq .int s2 s0 k) fun v1=>jD s3 (.bool true) v1 fun v2=>sG v2 false (fun k=>k o) fun v3=>sG v2 false (fun k=>sLen v3 k) fun v4=>sG v2 false (fun k=>zJ 1 U k) fun v5=>sG v2 false (fun k=>zH v5 h k) fun v6=>sG v2 false (fun k=>sLen v6 k) fun v7=>zN r C ⟨(F4.fr G E H L Q M P U V W f o a b c i j d e g l p s q),v7::v6::v5::v4::v3::v2::v2::v1::s0::s1::s2::s3::sT⟩ h nx Kt:=by kernel_rfl
theorem F4.zt0:zN (F4.zo6 []) C ⟨(F4.fr G E H L Q M P U V W f o a b c i j d e g l p s q),s0::s1::s2::s3::s4::s5::sT⟩ h nx Kt =
 sG s5 false (fun k=>zh .neq .int s3 s0 k) fun v1=>jD s5 (.bool true) v1 fun v2=>Kt ⟨(F4.fr G E H L Q M P U V W f o a b c i j d v2 g l p s q),v1::s0::s1::s2::s3::s4::s5::sT⟩ h nx:=by kernel_rfl
theorem F4.v18:Arg.ev (.t (.of 18)) ⟨(F4.fr G E H L Q M P U V W f o a b c i j d e g l p s q),[]⟩=e:=by kernel_rfl
theorem F4.oU:IR.run F4.t33 C N O K (F4.fr G E H L Q M P U V W f o a b c i j d e g l p s q) h nx =
 sLen o fun v1=>K (F4.fr G E H L Q M P U V W f o a b c i j d e o v1 (I 0) s q) h nx:=by kernel_rfl
theorem F4.zac:IR.run F4.t34 C N O K (F4.fr G E H L Q M P U V W f o a b c i j d e g l p s q) h nx =
 zh .lss .int p l fun v1=>K (F4.fr G E H L Q M P U V W f o a b c i j d e g l p v1 q) h nx:=by kernel_rfl
theorem F4.v22:Arg.ev (.t (.of 22)) ⟨(F4.fr G E H L Q M P U V W f o a b c i j d e g l p s q),[]⟩=s:=by kernel_rfl
theorem F4.ay:IR.run F4.t36 C N O K (F4.fr G E H L Q M P U V W f o a b c i j d e g l p s q) h nx =
 zM 1 g p fun v1=>zH v1 h fun v2=>K (F4.fr G E H L Q M P U V W f o a v2 c i j d e g l p s q) h nx:=by kernel_rfl
theorem F4.zaf:IR.run F4.t37 C N O K (F4.fr G E H L Q M P U V W f o a b c i j d e g l p s q) h nx =
 zh .neq .int b W fun v1=>K (F4.fr G E H L Q M P U V W f o a b c i j d e g l p s v1) h nx:=by kernel_rfl
theorem F4.v23:Arg.ev (.t (.of 23)) ⟨(F4.fr G E H L Q M P U V W f o a b c i j d e g l p s q),[]⟩=q:=by kernel_rfl
theorem F4.zcn:IR.run F4.t44 C N O K (F4.fr G E H L Q M P U V W f o a b c i j d e g l p s q) h nx =
 zh .add .int p (I 1) fun v1=>K (F4.fr G E H L Q M P U V W f o a b c i j d e g l v1 s q) h nx:=by kernel_rfl
theorem F4.zos (Inv:Nat->AV->T Blk->Pa->Prop) {m:Nat} (hm:m<N) (hi:Inv m p h nx)
  (step:∀ (m:Nat) (z1 zZ zB zE zR:AV) (h:T Blk) (nx:Pa) (R:Ks Prop),Inv m zB h nx->(∀ (m':Nat) (w1 wR wB wD wK:AV) (h':T Blk) (nx':Pa),m'<m->Inv m' wB h' nx'->R (F4.fr G w1 H L Q M P U V W f o a wR c i j d e g l wB wD wK) h' nx'=.ok True)->IR.run F4.t47 C N O R (F4.fr G z1 H L Q M P U V W f o a zZ c i j d e g l zB zE zR) h nx=.ok True) :
  IR.run F4.t48 C N O K (F4.fr G E H L Q M P U V W f o a b c i j d e g l p s q) h nx=.ok True:=by
 rw [F4.t48];refine yD (fun m tm h nx=>∃ z1 zZ zB zE zR,tm=(F4.fr G z1 H L Q M P U V W f o a zZ c i j d e g l zB zE zR)/\Inv m zB h nx) ?_ hm ⟨_,_,_,_,_,rfl,hi⟩;rintro m tm h nx R ⟨z1,zZ,zB,zE,zR,rfl,hi⟩ hR;exact step m z1 zZ zB zE zR h nx R hi fun m' w1 wR wB wD wK h' nx' hlt hi'=>hR m' _ h' nx' hlt ⟨_,_,_,_,_,rfl,hi'⟩
theorem F4.zaj:IR.run F4.t51 C N O K (F4.fr G E H L Q M P U V W f o a b c i j d e g l p s q) h nx =
 C.fn 19 (.of 19) [] h nx fun v1 h2 n3=>K (F4.fr G v1 H L Q M P U V W f o a b c i j d e g l p s q) h2 n3:=by kernel_rfl
theorem F4.go:zS tbl N C (.of 4) [a0] h nx K0=IR.run F4.t64 C N (fnO F4.res K0) (yu F4.res K0) (F4.fr a0 .u .u .u .u .u .u .u .u .u .u .u .u .u .u .u .u .u .u .u .u .u .u .u) h nx:=yW (F:=F4) (by kernel_rfl) (fun _=>by kernel_rfl) (by kernel_rfl)
theorem F4.ret:yu F4.res K0 (F4.fr G E H L Q M P U V W f o a b c i j d e g l p s q) h nx=K0 E h nx:=by kernel_rfl
end
end Go.Ev
