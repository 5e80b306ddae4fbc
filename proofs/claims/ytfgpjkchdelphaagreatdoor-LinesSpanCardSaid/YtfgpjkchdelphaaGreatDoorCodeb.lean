import Derived.Test.YtfgpjkchdelphaaGreatDoorIrT
import Derived.Test.YtfgpjkchdelphaaGreatDoorEvD
import Derived.KernelRfl
set_option linter.unusedSimpArgs false
set_option linter.unusedVariables false
namespace Go.Ev
open Go Go.Proofs
set_option maxRecDepth 100000
section
variable {N:Nat} {C:Calls Prop} {K0:Kw Prop} {K R:Ks Prop} {h:T Blk} {nx:Pa} {a b c f i o p q u x9 d a0 a1 a2 s0 s1 s2 s3 s4 s5 s6 s7 s8 s9 s10 s11 s12 s13 s14 s15 s16 s17 s18 s19 s20 s21 s22 s23 s24 s25 s26 s27 s28 s29 s30 s31 s32 s33 s34 s35 s36 s37 s38 s39 s40 s41 s42 s43 s44 s45 s46 s47 s48 s49 s50 s51 s52 s53 s54 s55 s56 s57 s58 s59 g j l e s H v w y z U W L A B E M D G Z P Q V x34 x35 x36 x37 x38 x39:AV} {O:fP Prop} {tm:T AV} {Kt:KTm} {r:List RO} {sT:List AV}
theorem gu.zy:IR.run gu.t0 C N O K (gu.fr a b c f i o p q u x9 d) h nx =
 xw b h nx λv1 h2 n3=>K (gu.fr a b c v1 i o p q u x9 d) h2 n3:=by kernel_rfl
theorem gu.zx:IR.run gu.t1 C N O K (gu.fr a b c f i o p q u x9 d) h nx =
 sLen c λv1=>K (gu.fr a b c f i o c v1 (I 0) x9 d) h nx:=by kernel_rfl
theorem gu.je:IR.run gu.t2 C N O K (gu.fr a b c f i o p q u x9 d) h nx =
 za .lss .int u q λv1=>K (gu.fr a b c f i o p q u v1 d) h nx:=by kernel_rfl
theorem gu.v9:Arg.ev (.t (.of 9)) ⟨(gu.fr a b c f i o p q u x9 d),[]⟩=x9:=by kernel_rfl
theorem gu.fJ:IR.run gu.t4 C N O K (gu.fr a b c f i o p q u x9 d) h nx =
 zH 4 p u λv1=>zJ 4 v1 h λv2=>yK [(I 0),.ze,(I 0),.ze] h nx λv3 h4 n5=>zV 4 v3 v2 h4 n5 λv6 h7 n8=>K (gu.fr a b c f u v3 p q u x9 d) h7 n8:=by kernel_rfl
theorem gu.fG:IR.run gu.t5 C N O K (gu.fr a b c f i o p q u x9 d) h nx =
 zJ 4 o h λv1=>C.fn 110 (.of 110) [v1] h nx λv2 h3 n4=>za .neq .int v2 (I 0) λv5=>K (gu.fr a b c f i o p q u x9 v5) h3 n4:=by kernel_rfl
theorem gu.qi:IR.run gu.t6 C N O K (gu.fr a b c f i o p q u x9 d) h nx =
 zH 4 a i λv1=>zJ 4 v1 h λv2=>zJ 4 f h λv3=>zJ 4 o h λv4=>C.fn 119 (.of 119) [v3,v4] h nx λv5 h6 n7=>(zJ 4 v1 h6 λvA=>zL vA v2 ((zH 4 a i λvB=>zL vB v1 (zL i i (zL a a (zL i i (zL a a (C.fn 192 (.of 192) [v2,v5] h6 n7 λv8 h9 nA=>zL i i (zL a a (zH 4 a i λvC=>zV 4 vC v8 h9 nA λvD hA nB=>K (gu.fr a b c f i o p q u x9 d) hA nB)))))))))):=by kernel_rfl
theorem gu.v10:Arg.ev (.t (.of 10)) ⟨(gu.fr a b c f i o p q u x9 d),[]⟩=d:=by kernel_rfl
theorem gu.di:IR.run gu.t11 C N O K (gu.fr a b c f i o p q u x9 d) h nx =
 za .add .int u (I 1) λv1=>K (gu.fr a b c f i o p q v1 x9 d) h nx:=by kernel_rfl
theorem gu.zfy (Inv:Nat->AV->T Blk->Pa->Prop) {m:Nat} (hm:m<N) (hi:Inv m u h nx)
  (step:∀ (m:Nat) (z4 z5 z8 z9 zA:AV) (h:T Blk) (nx:Pa) (R:Ks Prop),Inv m z8 h nx->(∀ (m':Nat) (w4 w5 w8 w9 wA:AV) (h':T Blk) (nx':Pa),m'<m->Inv m' w8 h' nx'->R (gu.fr a b c f w4 w5 p q w8 w9 wA) h' nx'=.ok True)->IR.run gu.t14 C N O R (gu.fr a b c f z4 z5 p q z8 z9 zA) h nx=.ok True) :
  IR.run gu.t15 C N O K (gu.fr a b c f i o p q u x9 d) h nx=.ok True:=by
 rw [gu.t15];refine yB (λm tm h nx=>∃ z4 z5 z8 z9 zA,tm=(gu.fr a b c f z4 z5 p q z8 z9 zA)/\Inv m z8 h nx) ?_ hm ⟨_,_,_,_,_,rfl,hi⟩;rintro m tm h nx R ⟨z4,z5,z8,z9,zA,rfl,hi⟩ hR;exact step m z4 z5 z8 z9 zA h nx R hi λm' w4 w5 w8 w9 wA h' nx' hlt hi'=>hR m' _ h' nx' hlt ⟨_,_,_,_,_,rfl,hi'⟩
theorem gu.go:zR tbl N C (.of 106) [a0,a1,a2] h nx K0=IR.run gu.t18 C N (fnO gu.res K0) (zi gu.res K0) (gu.fr a0 a1 a2 .u .u .u .u .u .u .u .u) h nx:=yC (F:=gu) (by kernel_rfl) (λ_=>by kernel_rfl) (by kernel_rfl)
theorem gu.ret:zi gu.res K0 (gu.fr a b c f i o p q u x9 d) h nx=K0 (.tup []) h nx:=by kernel_rfl
theorem gy.zy:IR.run gy.t0 C N O K (gy.fr a b c f i o p q u x9) h nx =
 xw b h nx λv1 h2 n3=>K (gy.fr a b v1 f i o p q u x9) h2 n3:=by kernel_rfl
theorem gy.zx:IR.run gy.t1 C N O K (gy.fr a b c f i o p q u x9) h nx =
 sLen a λv1=>K (gy.fr a b c f i a v1 (I 0) u x9) h nx:=by kernel_rfl
theorem gy.je:IR.run gy.t2 C N O K (gy.fr a b c f i o p q u x9) h nx =
 za .lss .int q p λv1=>K (gy.fr a b c f i o p q v1 x9) h nx:=by kernel_rfl
theorem gy.v8:Arg.ev (.t (.of 8)) ⟨(gy.fr a b c f i o p q u x9),[]⟩=u:=by kernel_rfl
theorem gy.fJ:IR.run gy.t4 C N O K (gy.fr a b c f i o p q u x9) h nx =
 zH 4 o q λv1=>zJ 4 v1 h λv2=>yK [(I 0),.ze,(I 0),.ze] h nx λv3 h4 n5=>zV 4 v3 v2 h4 n5 λv6 h7 n8=>K (gy.fr a b c q v3 o p q u x9) h7 n8:=by kernel_rfl
theorem gy.fG:IR.run gy.t5 C N O K (gy.fr a b c f i o p q u x9) h nx =
 zJ 4 i h λv1=>C.fn 110 (.of 110) [v1] h nx λv2 h3 n4=>za .neq .int v2 (I 0) λv5=>K (gy.fr a b c f i o p q u v5) h3 n4:=by kernel_rfl
theorem gy.qi:IR.run gy.t6 C N O K (gy.fr a b c f i o p q u x9) h nx =
 zJ 4 i h λv1=>zJ 4 c h λv2=>C.fn 119 (.of 119) [v1,v2] h nx λv3 h4 n5=>zH 4 a f λv6=>zV 4 v6 v3 h4 n5 λv7 h8 n9=>K (gy.fr a b c f i o p q u x9) h8 n9:=by kernel_rfl
theorem gy.v9:Arg.ev (.t (.of 9)) ⟨(gy.fr a b c f i o p q u x9),[]⟩=x9:=by kernel_rfl
theorem gy.di:IR.run gy.t11 C N O K (gy.fr a b c f i o p q u x9) h nx =
 za .add .int q (I 1) λv1=>K (gy.fr a b c f i o p v1 u x9) h nx:=by kernel_rfl
theorem gy.zfy (Inv:Nat->AV->T Blk->Pa->Prop) {m:Nat} (hm:m<N) (hi:Inv m q h nx)
  (step:∀ (m:Nat) (z3 z4 z7 z8 z9:AV) (h:T Blk) (nx:Pa) (R:Ks Prop),Inv m z7 h nx->(∀ (m':Nat) (w3 w4 w7 w8 w9:AV) (h':T Blk) (nx':Pa),m'<m->Inv m' w7 h' nx'->R (gy.fr a b c w3 w4 o p w7 w8 w9) h' nx'=.ok True)->IR.run gy.t14 C N O R (gy.fr a b c z3 z4 o p z7 z8 z9) h nx=.ok True) :
  IR.run gy.t15 C N O K (gy.fr a b c f i o p q u x9) h nx=.ok True:=by
 rw [gy.t15];refine yB (λm tm h nx=>∃ z3 z4 z7 z8 z9,tm=(gy.fr a b c z3 z4 o p z7 z8 z9)/\Inv m z7 h nx) ?_ hm ⟨_,_,_,_,_,rfl,hi⟩;rintro m tm h nx R ⟨z3,z4,z7,z8,z9,rfl,hi⟩ hR;exact step m z3 z4 z7 z8 z9 h nx R hi λm' w3 w4 w7 w8 w9 h' nx' hlt hi'=>hR m' _ h' nx' hlt ⟨_,_,_,_,_,rfl,hi'⟩
theorem gy.go:zR tbl N C (.of 111) [a0,a1] h nx K0=IR.run gy.t18 C N (fnO gy.res K0) (zi gy.res K0) (gy.fr a0 a1 .u .u .u .u .u .u .u .u) h nx:=yC (F:=gy) (by kernel_rfl) (λ_=>by kernel_rfl) (by kernel_rfl)
theorem gy.ret:zi gy.res K0 (gy.fr a b c f i o p q u x9) h nx=K0 (.tup []) h nx:=by kernel_rfl
theorem rG.zy:IR.run rG.t0 C N O K (rG.fr a b c) h nx =
 K (rG.fr a b (.bool false)) h nx:=by kernel_rfl
theorem rG.zx:IR.run rG.t1 C N O K (rG.fr a b c) h nx =
 C.fn 247 (.of 247) [a,b] h nx λv1 h2 n3=>za .geq .int v1 (I 0) λv4=>K (rG.fr a b v4) h2 n3:=by kernel_rfl
theorem rG.go:zR tbl N C (.of 182) [a0,a1] h nx K0=IR.run rG.t3 C N (fnO rG.res K0) (zi rG.res K0) (rG.fr a0 a1 .u) h nx:=yC (F:=rG) (by kernel_rfl) (λ_=>by kernel_rfl) (by kernel_rfl)
theorem rG.ret:zi rG.res K0 (rG.fr a b c) h nx=K0 c h nx:=by kernel_rfl
theorem jq.zy:IR.run jq.t0 C N O K (jq.fr a b c f i o p q) h nx =
 K (jq.fr a b (I 0) f i o p q) h nx:=by kernel_rfl
theorem jq.zx:IR.run jq.t1 C N O K (jq.fr a b c f i o p q) h nx =
 sLen a λv1=>K (jq.fr a b c f v1 (I 0) p q) h nx:=by kernel_rfl
theorem jq.je:IR.run jq.t2 C N O K (jq.fr a b c f i o p q) h nx =
 za .lss .int o i λv1=>K (jq.fr a b c f i o v1 q) h nx:=by kernel_rfl
theorem jq.v6:Arg.ev (.t (.of 6)) ⟨(jq.fr a b c f i o p q),[]⟩=p:=by kernel_rfl
theorem jq.fJ:IR.run jq.t4 C N O K (jq.fr a b c f i o p q) h nx =
 K (jq.fr a b c o i o p q) h nx:=by kernel_rfl
theorem jq.fG:IR.run jq.t5 C N O K (jq.fr a b c f i o p q) h nx =
 zH 1 a f λv1=>zE v1 h λv2=>za .eql .int b v2 λv3=>K (jq.fr a b c f i o p v3) h nx:=by kernel_rfl
theorem jq.qi:IR.run jq.t6 C N O K (jq.fr a b c f i o p q) h nx =
 K (jq.fr a b f f i o p q) h nx:=by kernel_rfl
theorem jq.v7:Arg.ev (.t (.of 7)) ⟨(jq.fr a b c f i o p q),[]⟩=q:=by kernel_rfl
theorem jq.rP:IR.run jq.t12 C N O K (jq.fr a b c f i o p q) h nx =
 za .add .int o (I 1) λv1=>K (jq.fr a b c f i v1 p q) h nx:=by kernel_rfl
theorem jq.aL (Inv:Nat->AV->T Blk->Pa->Prop) {m:Nat} (hm:m<N) (hi:Inv m o h nx)
  (step:∀ (m:Nat) (z2 z3 z5 z6 z7:AV) (h:T Blk) (nx:Pa) (R:Ks Prop),Inv m z5 h nx->(∀ (m':Nat) (w2 w3 w5 w6 w7:AV) (h':T Blk) (nx':Pa),m'<m->Inv m' w5 h' nx'->R (jq.fr a b w2 w3 i w5 w6 w7) h' nx'=.ok True)->IR.run jq.t15 C N O R (jq.fr a b z2 z3 i z5 z6 z7) h nx=.ok True) :
  IR.run jq.t16 C N O K (jq.fr a b c f i o p q) h nx=.ok True:=by
 rw [jq.t16];refine yB (λm tm h nx=>∃ z2 z3 z5 z6 z7,tm=(jq.fr a b z2 z3 i z5 z6 z7)/\Inv m z5 h nx) ?_ hm ⟨_,_,_,_,_,rfl,hi⟩;rintro m tm h nx R ⟨z2,z3,z5,z6,z7,rfl,hi⟩ hR;exact step m z2 z3 z5 z6 z7 h nx R hi λm' w2 w3 w5 w6 w7 h' nx' hlt hi'=>hR m' _ h' nx' hlt ⟨_,_,_,_,_,rfl,hi'⟩
theorem jq.sV:IR.run jq.t19 C N O K (jq.fr a b c f i o p q) h nx =
 K (jq.fr a b (I (-1)) f i o p q) h nx:=by kernel_rfl
theorem jq.go:zR tbl N C (.of 247) [a0,a1] h nx K0=IR.run jq.t22 C N (fnO jq.res K0) (zi jq.res K0) (jq.fr a0 a1 .u .u .u .u .u .u) h nx:=yC (F:=jq) (by kernel_rfl) (λ_=>by kernel_rfl) (by kernel_rfl)
theorem jq.ret:zi jq.res K0 (jq.fr a b c f i o p q) h nx=K0 c h nx:=by kernel_rfl
theorem jy.zy:IR.run jy.t0 C N O K (jy.fr a b c f i o p q u) h nx =
 K (jy.fr a .ze c f i o p q u) h nx:=by kernel_rfl
theorem jy.zx:IR.run jy.t1 C N O K (jy.fr a b c f i o p q u) h nx =
 sLen a λv1=>kC 1 16 [(.str [])] v1 v1 h nx λv2 h3 n4=>K (jy.fr a b v2 f i o p q u) h3 n4:=by kernel_rfl
theorem jy.je:IR.run jy.t2 C N O K (jy.fr a b c f i o p q u) h nx =
 sLen a λv1=>K (jy.fr a b c f i a v1 (I 0) u) h nx:=by kernel_rfl
theorem jy.pq:IR.run jy.t3 C N O K (jy.fr a b c f i o p q u) h nx =
 za .lss .int q p λv1=>K (jy.fr a b c f i o p q v1) h nx:=by kernel_rfl
theorem jy.v8:Arg.ev (.t (.of 8)) ⟨(jy.fr a b c f i o p q u),[]⟩=u:=by kernel_rfl
theorem jy.fG:IR.run jy.t5 C N O K (jy.fr a b c f i o p q u) h nx =
 zH 4 o q λv1=>zJ 4 v1 h λv2=>yK [(I 0),.ze,(I 0),.ze] h nx λv3 h4 n5=>zV 4 v3 v2 h4 n5 λv6 h7 n8=>K (jy.fr a b c q v3 o p q u) h7 n8:=by kernel_rfl
theorem jy.qi:IR.run jy.t6 C N O K (jy.fr a b c f i o p q u) h nx =
 zJ 4 i h λv1=>C.fn 97 (.of 97) [v1] h nx λv2 h3 n4=>zH 1 c f λv5=>zV 1 v5 v2 h3 n4 λv6 h7 n8=>K (jy.fr a b c f i o p q u) h7 n8:=by kernel_rfl
theorem jy.fK:IR.run jy.t9 C N O K (jy.fr a b c f i o p q u) h nx =
 za .add .int q (I 1) λv1=>K (jy.fr a b c f i o p v1 u) h nx:=by kernel_rfl
theorem jy.zf0 (Inv:Nat->AV->T Blk->Pa->Prop) {m:Nat} (hm:m<N) (hi:Inv m q h nx)
  (step:∀ (m:Nat) (z3 z4 z7 z8:AV) (h:T Blk) (nx:Pa) (R:Ks Prop),Inv m z7 h nx->(∀ (m':Nat) (w3 w4 w7 w8:AV) (h':T Blk) (nx':Pa),m'<m->Inv m' w7 h' nx'->R (jy.fr a b c w3 w4 o p w7 w8) h' nx'=.ok True)->IR.run jy.t12 C N O R (jy.fr a b c z3 z4 o p z7 z8) h nx=.ok True) :
  IR.run jy.t13 C N O K (jy.fr a b c f i o p q u) h nx=.ok True:=by
 rw [jy.t13];refine yB (λm tm h nx=>∃ z3 z4 z7 z8,tm=(jy.fr a b c z3 z4 o p z7 z8)/\Inv m z7 h nx) ?_ hm ⟨_,_,_,_,rfl,hi⟩;rintro m tm h nx R ⟨z3,z4,z7,z8,rfl,hi⟩ hR;exact step m z3 z4 z7 z8 h nx R hi λm' w3 w4 w7 w8 h' nx' hlt hi'=>hR m' _ h' nx' hlt ⟨_,_,_,_,rfl,hi'⟩
theorem jy.aI:IR.run jy.t16 C N O K (jy.fr a b c f i o p q u) h nx =
 K (jy.fr a c c f i o p q u) h nx:=by kernel_rfl
theorem jy.go:zR tbl N C (.of 181) [a0] h nx K0=IR.run jy.t20 C N (fnO jy.res K0) (zi jy.res K0) (jy.fr a0 .u .u .u .u .u .u .u .u) h nx:=yC (F:=jy) (by kernel_rfl) (λ_=>by kernel_rfl) (by kernel_rfl)
theorem jy.ret:zi jy.res K0 (jy.fr a b c f i o p q u) h nx=K0 b h nx:=by kernel_rfl
theorem jo.zy:IR.run jo.t0 C N O K (jo.fr a b c f i) h nx =
 K (jo.fr a (.bool false) c f i) h nx:=by kernel_rfl
theorem jo.zx:IR.run jo.t1 C N O K (jo.fr a b c f i) h nx =
 K (jo.fr a b (I 0) f i) h nx:=by kernel_rfl
theorem jo.je:IR.run jo.t2 C N O K (jo.fr a b c f i) h nx =
 uH a λv1=>za .lss .int c v1 λv2=>K (jo.fr a b c v2 i) h nx:=by kernel_rfl
theorem jo.v3:Arg.ev (.t (.of 3)) ⟨(jo.fr a b c f i),[]⟩=f:=by kernel_rfl
theorem jo.fG:IR.run jo.t5 C N O K tm h nx=zP jo.r3_0 C ⟨tm,[]⟩ h nx (λtm h nx=>K tm.v h nx):=yT ..
theorem jo.zie:zP (jo.zfp r) C ⟨(jo.fr a b c f i),[]⟩ h nx Kt =
 jM a c λv1=>za .lss .int v1 (.int .u8 48) λv2=>sG v2 false (λk=>k a) λv3=>sG v2 false (λk=>k c) λv4=>sG v2 false (λk=>jM v3 v4 k) λv5=>zP r C ⟨(jo.fr a b c f i),v5::v4::v3::v2::v2::v1::c::a::[]⟩ h nx Kt:=by kernel_rfl
theorem jo.zif:zP (jo.zfq []) C ⟨(jo.fr a b c f i),s0::s1::s2::s3::sT⟩ h nx Kt =
 sG s3 false (λk=>za .gtr .int s0 (.int .u8 57) k) λv1=>yF s3 (.bool true) v1 λv2=>Kt ⟨(jo.fr a b c f v2),v1::s0::s1::s2::s3::sT⟩ h nx:=by kernel_rfl
theorem jo.v4:Arg.ev (.t (.of 4)) ⟨(jo.fr a b c f i),[]⟩=i:=by kernel_rfl
theorem jo.di:IR.run jo.t11 C N O K (jo.fr a b c f i) h nx =
 za .add .int c (I 1) λv1=>K (jo.fr a b v1 f i) h nx:=by kernel_rfl
theorem jo.znx (Inv:Nat->AV->T Blk->Pa->Prop) {m:Nat} (hm:m<N) (hi:Inv m c h nx)
  (step:∀ (m:Nat) (z1 z2 z3 z4:AV) (h:T Blk) (nx:Pa) (R:Ks Prop),Inv m z2 h nx->(∀ (m':Nat) (w1 w2 w3 w4:AV) (h':T Blk) (nx':Pa),m'<m->Inv m' w2 h' nx'->R (jo.fr a w1 w2 w3 w4) h' nx'=.ok True)->IR.run jo.t13 C N O R (jo.fr a z1 z2 z3 z4) h nx=.ok True) :
  IR.run jo.t14 C N O K (jo.fr a b c f i) h nx=.ok True:=by
 rw [jo.t14];refine yB (λm tm h nx=>∃ z1 z2 z3 z4,tm=(jo.fr a z1 z2 z3 z4)/\Inv m z2 h nx) ?_ hm ⟨_,_,_,_,rfl,hi⟩;rintro m tm h nx R ⟨z1,z2,z3,z4,rfl,hi⟩ hR;exact step m z1 z2 z3 z4 h nx R hi λm' w1 w2 w3 w4 h' nx' hlt hi'=>hR m' _ h' nx' hlt ⟨_,_,_,_,rfl,hi'⟩
theorem jo.rX:IR.run jo.t17 C N O K (jo.fr a b c f i) h nx =
 K (jo.fr a (.bool true) c f i) h nx:=by kernel_rfl
theorem jo.go:zR tbl N C (.of 267) [a0] h nx K0=IR.run jo.t20 C N (fnO jo.res K0) (zi jo.res K0) (jo.fr a0 .u .u .u .u) h nx:=yC (F:=jo) (by kernel_rfl) (λ_=>by kernel_rfl) (by kernel_rfl)
theorem jo.ret:zi jo.res K0 (jo.fr a b c f i) h nx=K0 b h nx:=by kernel_rfl
theorem kg.zy:IR.run kg.t0 C N O K (kg.fr a b c) h nx =
 K (kg.fr a (.bool false) c) h nx:=by kernel_rfl
theorem kg.zx:IR.run kg.t1 C N O K tm h nx=zP kg.si C ⟨tm,[]⟩ h nx (λtm h nx=>K tm.v h nx):=yT ..
theorem kg.sj:zP (kg.rQ r) C ⟨(kg.fr a b c),[]⟩ h nx Kt =
 uH a λv1=>za .eql .int v1 (I 0) λv2=>sG v2 false (λk=>k a) λv3=>sG v2 false (λk=>uH v3 k) λv4=>sG v2 false (λk=>za .gtr .int v4 (I 1) k) λv5=>sG v2 false (λk=>k v5) λv6=>zP r C ⟨(kg.fr a b c),v6::v5::v4::v3::v2::v2::v1::a::[]⟩ h nx Kt:=by kernel_rfl
theorem kg.fZ:zP (kg.rR []) C ⟨(kg.fr a b c),s0::s1::s2::s3::s4::sT⟩ h nx Kt =
 sG s0 true (λk=>k a) λv1=>sG s0 true (λk=>jM v1 (I 0) k) λv2=>sG s0 true (λk=>za .eql .int v2 (.int .u8 48) k) λv3=>sG s4 false (λk=>yF s0 v3 (.bool false) k) λv4=>yF s4 (.bool true) v4 λv5=>Kt ⟨(kg.fr a b v5),v4::v3::v2::v1::s0::s1::s2::s3::s4::sT⟩ h nx:=by kernel_rfl
theorem kg.v2:Arg.ev (.t (.of 2)) ⟨(kg.fr a b c),[]⟩=c:=by kernel_rfl
theorem kg.qi:IR.run kg.t6 C N O K (kg.fr a b c) h nx =
 C.fn 267 (.of 267) [a] h nx λv1 h2 n3=>K (kg.fr a v1 c) h2 n3:=by kernel_rfl
theorem kg.go:zR tbl N C (.of 207) [a0] h nx K0=IR.run kg.t9 C N (fnO kg.res K0) (zi kg.res K0) (kg.fr a0 .u .u) h nx:=yC (F:=kg) (by kernel_rfl) (λ_=>by kernel_rfl) (by kernel_rfl)
theorem kg.ret:zi kg.res K0 (kg.fr a b c) h nx=K0 b h nx:=by kernel_rfl
theorem zf.zy:IR.run zf.t0 C N O K (zf.fr a b c f i o p q u x9 d g j) h nx =
 K (zf.fr a (I 0) c f i o p q u x9 d g j) h nx:=by kernel_rfl
theorem zf.zx:IR.run zf.t1 C N O K (zf.fr a b c f i o p q u x9 d g j) h nx =
 K (zf.fr a b a f i o p q u x9 d g j) h nx:=by kernel_rfl
theorem zf.je:IR.run zf.t2 C N O K (zf.fr a b c f i o p q u x9 d g j) h nx =
 uH c λv1=>za .gtr .int v1 (I 0) λv2=>sG v2 true (λk=>k c) λv3=>sG v2 true (λk=>jM v3 (I 0) k) λv4=>sG v2 true (λk=>za .eql .int v4 (.int .u8 45) k) λv5=>yF v2 v5 (.bool false) λv6=>K (zf.fr a b c f i o p v6 u x9 d g j) h nx:=by kernel_rfl
theorem zf.pq:IR.run zf.t3 C N O K (zf.fr a b c f i o p q u x9 d g j) h nx =
 jR c (some (I 1)) none λv1=>K (zf.fr a b v1 f i o p q u x9 d g j) h nx:=by kernel_rfl
theorem zf.v7:Arg.ev (.t (.of 7)) ⟨(zf.fr a b c f i o p q u x9 d g j),[]⟩=q:=by kernel_rfl
theorem zf.qi:IR.run zf.t6 C N O K (zf.fr a b c f i o p q u x9 d g j) h nx =
 C.fn 206 (.of 206) [c] h nx λv1 h2 n3=>K (zf.fr a b c v1 i o p q u x9 d g j) h2 n3:=by kernel_rfl
theorem zf.fC:IR.run zf.t7 C N O K tm h nx=zP zf.r5_0 C ⟨tm,[]⟩ h nx (λtm h nx=>K tm.v h nx):=yT ..
theorem zf.zxw:zP (zf.zvw r) C ⟨(zf.fr a b c f i o p q u x9 d g j),[]⟩ h nx Kt =
 jR c none (some f) λv1=>C.fn 207 (.of 207) [v1] h nx λv2 h3 n4=>zP r C ⟨(zf.fr a b c f i o p q u x9 d g j),v2::v1::f::c::[]⟩ h3 n4 Kt:=by kernel_rfl
theorem zf.zxx:zP (zf.zvx r) C ⟨(zf.fr a b c f i o p q u x9 d g j),s0::sT⟩ h nx Kt =
 sNot s0 λv1=>sG v1 false (λk=>k a) λv2=>sG v1 false (λk=>jM v2 (I 0) k) λv3=>sG v1 false (λk=>za .eql .int v3 (.int .u8 45) k) λv4=>sG v1 false (λk=>k v4) λv5=>sG v5 true (λk=>k c) λv6=>sG v5 true (λk=>k f) λv7=>zP r C ⟨(zf.fr a b c f i o p q u x9 d g j),v7::v6::v5::v4::v3::v2::v1::v1::s0::sT⟩ h nx Kt:=by kernel_rfl
theorem zf.zn2:zP (zf.zvy []) C ⟨(zf.fr a b c f i o p q u x9 d g j),s0::s1::s2::s3::s4::s5::s6::sT⟩ h nx Kt =
 sG s2 true (λk=>jR s1 none (some s0) k) λv1=>sG s2 true (λk=>za .eql .str v1 (.str [48]) k) λv2=>sG s6 false (λk=>yF s2 v2 (.bool false) k) λv3=>yF s6 (.bool true) v3 λv4=>Kt ⟨(zf.fr a b c f i o p q v4 x9 d g j),v3::v2::v1::s0::s1::s2::s3::s4::s5::s6::sT⟩ h nx:=by kernel_rfl
theorem zf.v8:Arg.ev (.t (.of 8)) ⟨(zf.fr a b c f i o p q u x9 d g j),[]⟩=u:=by kernel_rfl
theorem zf.rP:IR.run zf.t12 C N O K tm h nx=zP zf.r7_0 C ⟨tm,[]⟩ h nx (λtm h nx=>K tm.v h nx):=yT ..
theorem zf.zic:zP (zf.zfk r) C ⟨(zf.fr a b c f i o p q u x9 d g j),[]⟩ h nx Kt =
 uH c λv1=>za .lss .int f v1 λv2=>sG v2 true (λk=>k c) λv3=>sG v2 true (λk=>k f) λv4=>sG v2 true (λk=>za .add .int v4 (I 1) k) λv5=>zP r C ⟨(zf.fr a b c f i o p q u x9 d g j),v5::v4::v3::v2::v2::v1::c::f::[]⟩ h nx Kt:=by kernel_rfl
theorem zf.zdy:zP (zf.zfl r) C ⟨(zf.fr a b c f i o p q u x9 d g j),s0::s1::s2::s3::sT⟩ h nx Kt =
 sG s3 true (λk=>jR s2 (some s0) none k) λv1=>sGW s3 true (λk=>C.fn 207 (.of 207) [v1] h nx k) h nx λv2 h3 n4=>zP r C ⟨(zf.fr a b c f i o p q u x9 d g j),v2::v1::s0::s1::s2::s3::sT⟩ h3 n4 Kt:=by kernel_rfl
theorem zf.zdz:zP (zf.zfm r) C ⟨(zf.fr a b c f i o p q u x9 d g j),s0::s1::s2::s3::s4::s5::sT⟩ h nx Kt =
 sG s5 true (λk=>sNot s0 k) λv1=>sG s5 true (λk=>k v1) λv2=>sG v2 false (λk=>k c) λv3=>sG v2 false (λk=>k f) λv4=>sG v2 false (λk=>za .add .int v4 (I 1) k) λv5=>sG v2 false (λk=>jR v3 (some v5) none k) λv6=>sG v2 false (λk=>za .eql .str v6 (.str [48]) k) λv7=>sG s5 true (λk=>yF v2 (.bool true) v7 k) λv8=>zP r C ⟨(zf.fr a b c f i o p q u x9 d g j),v8::v7::v6::v5::v4::v3::v2::v1::s0::s1::s2::s3::s4::s5::sT⟩ h nx Kt:=by kernel_rfl
theorem zf.zn3:zP (zf.zvz []) C ⟨(zf.fr a b c f i o p q u x9 d g j),s0::s1::s2::s3::s4::s5::s6::s7::s8::s9::s10::s11::s12::s13::sT⟩ h nx Kt =
 sG s13 true (λk=>k s0) λv1=>sG v1 false (λk=>k c) λv2=>sG v1 false (λk=>k f) λv3=>sG v1 false (λk=>za .add .int v3 (I 1) k) λv4=>sG v1 false (λk=>jR v2 (some v4) none k) λv5=>sG v1 false (λk=>za .eql .str v5 (.str [49]) k) λv6=>sG s13 true (λk=>yF v1 (.bool true) v6 k) λv7=>yF s13 v7 (.bool false) λv8=>Kt ⟨(zf.fr a b c f i o p q u v8 d g j),v7::v6::v5::v4::v3::v2::v1::s0::s1::s2::s3::s4::s5::s6::s7::s8::s9::s10::s11::s12::s13::sT⟩ h nx:=by kernel_rfl
theorem zf.v9:Arg.ev (.t (.of 9)) ⟨(zf.fr a b c f i o p q u x9 d g j),[]⟩=x9:=by kernel_rfl
theorem zf.rX:IR.run zf.t17 C N O K tm h nx=zP zf.r9_0 C ⟨tm,[]⟩ h nx (λtm h nx=>K tm.v h nx):=yT ..
theorem zf.zxy:zP (zf.zv0 r) C ⟨(zf.fr a b c f i o p q u x9 d g j),[]⟩ h nx Kt =
 za .gtr .int f (I 600) λv1=>sG v1 false (λk=>k c) λv2=>sG v1 false (λk=>uH v2 k) λv3=>sG v1 false (λk=>k f) λv4=>sG v1 false (λk=>za .sub .int v3 v4 k) λv5=>sG v1 false (λk=>za .sub .int v5 (I 1) k) λv6=>zP r C ⟨(zf.fr a b c f i o p q u x9 d g j),v6::v5::v4::v3::v2::v1::v1::f::[]⟩ h nx Kt:=by kernel_rfl
theorem zf.zxz:zP (zf.zv1 []) C ⟨(zf.fr a b c f i o p q u x9 d g j),s0::s1::s2::s3::s4::s5::sT⟩ h nx Kt =
 sG s5 false (λk=>za .gtr .int s0 (I 600) k) λv1=>yF s5 (.bool true) v1 λv2=>Kt ⟨(zf.fr a b c f i o p q u x9 v2 g j),v1::s0::s1::s2::s3::s4::s5::sT⟩ h nx:=by kernel_rfl
theorem zf.v10:Arg.ev (.t (.of 10)) ⟨(zf.fr a b c f i o p q u x9 d g j),[]⟩=d:=by kernel_rfl
theorem zf.aX:IR.run zf.t22 C N O K (zf.fr a b c f i o p q u x9 d g j) h nx =
 uH c λv1=>za .lss .int f v1 λv2=>K (zf.fr a b c f i o p q u x9 d v2 j) h nx:=by kernel_rfl
theorem zf.zfn:IR.run zf.t23 C N O K (zf.fr a b c f i o p q u x9 d g j) h nx =
 C.fn 129 (.of 129) [c] h nx λv1 h2 n3=>cu 0 v1 λv4=>cu 1 v1 λv5=>yK [(.bool false),.ze] h2 n3 λv6 h7 n8=>yK [(.bool false),.ze] h7 n8 λv9 hB nC=>zV 2 v6 v4 hB nC λvD hA nB=>zV 2 v9 v5 hA nB λvB hC nD=>K (zf.fr a b c f v6 v9 p q u x9 d g j) hC nD:=by kernel_rfl
theorem zf.oD:IR.run zf.t24 C N O K (zf.fr a b c f i o p q u x9 d g j) h nx =
 zM 1 i λv1=>zE v1 h λv2=>zM 1 o λv3=>zE v3 h λv4=>C.fn 208 (.of 208) [v2,v4] h nx λv5 h6 n7=>K (zf.fr a b c f i o v5 q u x9 d g j) h6 n7:=by kernel_rfl
theorem zf.zaj:IR.run zf.t25 C N O K tm h nx=zP zf.zn4 C ⟨tm,[]⟩ h nx (λtm h nx=>K tm.v h nx):=yT ..
theorem zf.zs8:zP (zf.zn5 r) C ⟨(zf.fr a b c f i o p q u x9 d g j),[]⟩ h nx Kt =
 sLen p λv1=>za .neq .int v1 (I 1) λv2=>sG v2 false (λk=>k p) λv3=>sG v2 false (λk=>zH 1 v3 (I 0) k) λv4=>sG v2 false (λk=>zE v4 h k) λv5=>sG v2 false (λk=>za .neq .int v5 (I 1) k) λv6=>zP r C ⟨(zf.fr a b c f i o p q u x9 d g j),v6::v5::v4::v3::v2::v2::v1::p::[]⟩ h nx Kt:=by kernel_rfl
theorem zf.zs9:zP (zf.zn6 []) C ⟨(zf.fr a b c f i o p q u x9 d g j),s0::s1::s2::s3::s4::sT⟩ h nx Kt =
 yF s4 (.bool true) s0 λv1=>Kt ⟨(zf.fr a b c f i o p q u x9 d g v1),s0::s1::s2::s3::s4::sT⟩ h nx:=by kernel_rfl
theorem zf.v12:Arg.ev (.t (.of 12)) ⟨(zf.fr a b c f i o p q u x9 d g j),[]⟩=j:=by kernel_rfl
theorem zf.v11:Arg.ev (.t (.of 11)) ⟨(zf.fr a b c f i o p q u x9 d g j),[]⟩=g:=by kernel_rfl
theorem zf.zab:IR.run zf.t34 C N O K (zf.fr a b c f i o p q u x9 d g j) h nx =
 K (zf.fr a (I 0) c f i o p q u x9 d g j) h nx:=by kernel_rfl
theorem zf.go:zR tbl N C (.of 126) [a0] h nx K0=IR.run zf.t43 C N (fnO zf.res K0) (zi zf.res K0) (zf.fr a0 .u .u .u .u .u .u .u .u .u .u .u .u) h nx:=yC (F:=zf) (by kernel_rfl) (λ_=>by kernel_rfl) (by kernel_rfl)
theorem zf.ret:zi zf.res K0 (zf.fr a b c f i o p q u x9 d g j) h nx=K0 b h nx:=by kernel_rfl
theorem F37.zy:IR.run F37.t0 C N O K (F37.fr a b c f i o) h nx =
 K (F37.fr a (I 0) c f i o) h nx:=by kernel_rfl
theorem F37.zx:IR.run F37.t1 C N O K (F37.fr a b c f i o) h nx =
 K (F37.fr a b (I 0) f i o) h nx:=by kernel_rfl
theorem F37.je:IR.run F37.t2 C N O K (F37.fr a b c f i o) h nx =
 sLen a λv1=>za .lss .int c v1 λv2=>K (F37.fr a b c f v2 o) h nx:=by kernel_rfl
theorem F37.v4:Arg.ev (.t (.of 4)) ⟨(F37.fr a b c f i o),[]⟩=i:=by kernel_rfl
theorem F37.fG:IR.run F37.t5 C N O K (F37.fr a b c f i o) h nx =
 zH 1 a c λv1=>zE v1 h λv2=>C.fn 126 (.of 126) [v2] h nx λv3 h4 n5=>K (F37.fr a b c v3 i o) h4 n5:=by kernel_rfl
theorem F37.qi:IR.run F37.t6 C N O K (F37.fr a b c f i o) h nx =
 za .neq .int f (I 0) λv1=>K (F37.fr a b c f i v1) h nx:=by kernel_rfl
theorem F37.v5:Arg.ev (.t (.of 5)) ⟨(F37.fr a b c f i o),[]⟩=o:=by kernel_rfl
theorem F37.fU:IR.run F37.t13 C N O K (F37.fr a b c f i o) h nx =
 za .add .int c (I 1) λv1=>K (F37.fr a b v1 f i o) h nx:=by kernel_rfl
theorem F37.aL (Inv:Nat->AV->T Blk->Pa->Prop) {m:Nat} (hm:m<N) (hi:Inv m c h nx)
  (step:∀ (m:Nat) (z1 z2 z3 z4 z5:AV) (h:T Blk) (nx:Pa) (R:Ks Prop),Inv m z2 h nx->(∀ (m':Nat) (w1 w2 w3 w4 w5:AV) (h':T Blk) (nx':Pa),m'<m->Inv m' w2 h' nx'->R (F37.fr a w1 w2 w3 w4 w5) h' nx'=.ok True)->IR.run F37.t15 C N O R (F37.fr a z1 z2 z3 z4 z5) h nx=.ok True) :
  IR.run F37.t16 C N O K (F37.fr a b c f i o) h nx=.ok True:=by
 rw [F37.t16];refine yB (λm tm h nx=>∃ z1 z2 z3 z4 z5,tm=(F37.fr a z1 z2 z3 z4 z5)/\Inv m z2 h nx) ?_ hm ⟨_,_,_,_,_,rfl,hi⟩;rintro m tm h nx R ⟨z1,z2,z3,z4,z5,rfl,hi⟩ hR;exact step m z1 z2 z3 z4 z5 h nx R hi λm' w1 w2 w3 w4 w5 h' nx' hlt hi'=>hR m' _ h' nx' hlt ⟨_,_,_,_,_,rfl,hi'⟩
theorem F37.sV:IR.run F37.t19 C N O K (F37.fr a b c f i o) h nx =
 K (F37.fr a (I 0) c f i o) h nx:=by kernel_rfl
theorem F37.go:zR tbl N C (.of 37) [a0] h nx K0=IR.run F37.t22 C N (fnO F37.res K0) (zi F37.res K0) (F37.fr a0 .u .u .u .u .u) h nx:=yC (F:=F37) (by kernel_rfl) (λ_=>by kernel_rfl) (by kernel_rfl)
theorem F37.ret:zi F37.res K0 (F37.fr a b c f i o) h nx=K0 b h nx:=by kernel_rfl
theorem F49.oF (X3:IR) (C:Calls Prop) (N:Nat) (O:fP Prop) (K:Ks Prop) (a b c f i o p:AV) (h:T Blk) (nx:Pa):IR.run (F49.g2 X3) C N O K (F49.fr a b c f i o p) h nx =
 IR.run X3 C N (O.blk 0 K) K (F49.fr a b c f i o p) h nx:=by kernel_rfl
theorem F49.tab:T.get none (.of 49) tbl=some F49:=by kernel_rfl
theorem F49.go:zR tbl N C (.of 49) [a0,a1] h nx K0 =
 sLen a0 λv1=>sLen a1 λv2=>za .neq .int v1 v2 λv3=>yM v3 (K0 (.bool false) h nx) (IR.run F49.b2 C N (fnO F49.res K0) (IR.run F49.b9 C N (fnO F49.res K0) (zi F49.res K0)) (F49.fr a0 a1 (.bool false) (I 0) v3 .u .u) h nx):=by
 rw [yS F49.tab];kernel_rfl
theorem F49.e2:IR.run F49.b4 C N ((fnO F49.res K0).blk 0 K) R (F49.fr a b c f i o p) h nx =
 sLen a λv1=>za .lss .int f v1 λv2=>yM v2 (zH 1 a f λv3=>zE v3 h λv4=>zH 1 b f λv5=>zE v5 h λv6=>za .neq .int v4 v6 λv7=>yM v7 (K0 (.bool false) h nx) (za .add .int f (I 1) λv8=>R (F49.fr a b c v8 i v2 v7) h nx)) (K (F49.fr a b c f i v2 p) h nx):=by kernel_rfl
theorem F49.L2 (Inv:Nat->AV->T Blk->Pa->Prop) {m:Nat} (hm:m<N) (hi:Inv m f h nx)
  (step:∀ (m:Nat) (z2 z3 z5 z6:AV) (h:T Blk) (nx:Pa) (R:Ks Prop),Inv m z3 h nx->(∀ (m':Nat) (w2 w3 w5 w6:AV) (h':T Blk) (nx':Pa),m'<m->Inv m' w3 h' nx'->R (F49.fr a b w2 w3 i w5 w6) h' nx'=.ok True) ->
   (sLen a λv1=>za .lss .int z3 v1 λv2=>yM v2 (zH 1 a z3 λv3=>zE v3 h λv4=>zH 1 b z3 λv5=>zE v5 h λv6=>za .neq .int v4 v6 λv7=>yM v7 (K0 (.bool false) h nx) (za .add .int z3 (I 1) λv8=>R (F49.fr a b z2 v8 i v2 v7) h nx)) (K (F49.fr a b z2 z3 i v2 z6) h nx))=.ok True) :
  IR.run F49.b2 C N (fnO F49.res K0) K (F49.fr a b c f i o p) h nx=.ok True:=by
 rw [F49.b2,F49.oF,F49.b3];refine yB (λm tm h nx=>∃ z2 z3 z5 z6,tm=(F49.fr a b z2 z3 i z5 z6)/\Inv m z3 h nx) ?_ hm ⟨_,_,_,_,rfl,hi⟩;rintro m tm h nx R ⟨z2,z3,z5,z6,rfl,hi⟩ hR;rw [F49.e2];exact step m z2 z3 z5 z6 h nx R hi λm' w2 w3 w5 w6 h' nx' hlt hi'=>hR m' _ h' nx' hlt ⟨_,_,_,_,rfl,hi'⟩
theorem F49.k9:IR.run F49.b9 C N (fnO F49.res K0) K (F49.fr a b c f i o p) h nx =
 K0 (.bool true) h nx:=by kernel_rfl
theorem eB.tab:T.get none (.of 176) tbl=some eB:=by kernel_rfl
theorem eB.go:zR tbl N C (.of 176) [a0,a1] h nx K0 =
 zE a1 h λv1=>C.fn 177 (.of 177) [a0,v1] h nx λv2 h3 n4=>K0 v2 h3 n4:=by
 rw [yS eB.tab];kernel_rfl
theorem eD.tab:T.get none (.of 175) tbl=some eD:=by kernel_rfl
theorem eD.go:zR tbl N C (.of 175) [a0,a1] h nx K0 =
 C.fn 245 (.of 245) [a0,a1] h nx λv1 h2 n3=>za .geq .int v1 (I 0) λv4=>K0 v4 h2 n3:=by
 rw [yS eD.tab];kernel_rfl
theorem vk.aM (X2:IR) (C:Calls Prop) (N:Nat) (O:fP Prop) (K:Ks Prop) (a b c f i o p q:AV) (h:T Blk) (nx:Pa):IR.run (vk.g1 X2) C N O K (vk.fr a b c f i o p q) h nx =
 IR.run X2 C N (O.blk 0 K) K (vk.fr a b c f i o p q) h nx:=by kernel_rfl
theorem vk.tab:T.get none (.of 245) tbl=some vk:=by kernel_rfl
theorem vk.go:zR tbl N C (.of 245) [a0,a1] h nx K0 =
 sLen a0 λv1=>IR.run vk.b1 C N (fnO vk.res K0) (IR.run vk.b8 C N (fnO vk.res K0) (zi vk.res K0)) (vk.fr a0 a1 (I 0) .u v1 (I 0) .u .u) h nx:=by
 rw [yS vk.tab];kernel_rfl
theorem vk.e1:IR.run vk.b3 C N ((fnO vk.res K0).blk 0 K) R (vk.fr a b c f i o p q) h nx =
 za .lss .int o i λv1=>yM v1 (zH 1 a o λv2=>zE v2 h λv3=>zal C b [v3] h nx λv4 h5 n6=>yM v4 (K0 o h5 n6) (za .add .int o (I 1) λv7=>R (vk.fr a b c o i v7 v1 v4) h5 n6)) (K (vk.fr a b c f i o v1 q) h nx):=by kernel_rfl
theorem vk.L1 (Inv:Nat->AV->T Blk->Pa->Prop) {m:Nat} (hm:m<N) (hi:Inv m o h nx)
  (step:∀ (m:Nat) (z2 z3 z5 z6 z7:AV) (h:T Blk) (nx:Pa) (R:Ks Prop),Inv m z5 h nx->(∀ (m':Nat) (w2 w3 w5 w6 w7:AV) (h':T Blk) (nx':Pa),m'<m->Inv m' w5 h' nx'->R (vk.fr a b w2 w3 i w5 w6 w7) h' nx'=.ok True) ->
   (za .lss .int z5 i λv1=>yM v1 (zH 1 a z5 λv2=>zE v2 h λv3=>zal C b [v3] h nx λv4 h5 n6=>yM v4 (K0 z5 h5 n6) (za .add .int z5 (I 1) λv7=>R (vk.fr a b z2 z5 i v7 v1 v4) h5 n6)) (K (vk.fr a b z2 z3 i z5 v1 z7) h nx))=.ok True) :
  IR.run vk.b1 C N (fnO vk.res K0) K (vk.fr a b c f i o p q) h nx=.ok True:=by
 rw [vk.b1,vk.aM,vk.b2];refine yB (λm tm h nx=>∃ z2 z3 z5 z6 z7,tm=(vk.fr a b z2 z3 i z5 z6 z7)/\Inv m z5 h nx) ?_ hm ⟨_,_,_,_,_,rfl,hi⟩;rintro m tm h nx R ⟨z2,z3,z5,z6,z7,rfl,hi⟩ hR;rw [vk.e1];exact step m z2 z3 z5 z6 z7 h nx R hi λm' w2 w3 w5 w6 w7 h' nx' hlt hi'=>hR m' _ h' nx' hlt ⟨_,_,_,_,_,rfl,hi'⟩
theorem vk.k8:IR.run vk.b8 C N (fnO vk.res K0) K (vk.fr a b c f i o p q) h nx =
 K0 (I (-1)) h nx:=by kernel_rfl
theorem vo.oF (X3:IR) (C:Calls Prop) (N:Nat) (O:fP Prop) (K:Ks Prop) (a b c f i o p q u:AV) (h:T Blk) (nx:Pa):IR.run (vo.g2 X3) C N O K (vo.fr a b c f i o p q u) h nx =
 IR.run X3 C N (O.blk 0 K) K (vo.fr a b c f i o p q u) h nx:=by kernel_rfl
theorem vo.tab:T.get none (.of 177) tbl=some vo:=by kernel_rfl
theorem vo.go:zR tbl N C (.of 177) [a0,a1] h nx K0 =
 sLen a0 λv1=>sLen a1 λv2=>za .neq .int v1 v2 λv3=>yM v3 (K0 (.bool false) h nx) (sLen a0 λv4=>IR.run vo.b2 C N (fnO vo.res K0) (IR.run vo.b9 C N (fnO vo.res K0) (zi vo.res K0)) (vo.fr a0 a1 (.bool false) .u v3 v4 (I 0) .u .u) h nx):=by
 rw [yS vo.tab];kernel_rfl
theorem vo.e2:IR.run vo.b4 C N ((fnO vo.res K0).blk 0 K) R (vo.fr a b c f i o p q u) h nx =
 za .lss .int p o λv1=>yM v1 (zH 1 a p λv2=>zE v2 h λv3=>zH 1 b p λv4=>zE v4 h λv5=>za .neq .int v3 v5 λv6=>yM v6 (K0 (.bool false) h nx) (za .add .int p (I 1) λv7=>R (vo.fr a b c p i o v7 v1 v6) h nx)) (K (vo.fr a b c f i o p v1 u) h nx):=by kernel_rfl
theorem vo.L2 (Inv:Nat->AV->T Blk->Pa->Prop) {m:Nat} (hm:m<N) (hi:Inv m p h nx)
  (step:∀ (m:Nat) (z2 z3 z6 z7 z8:AV) (h:T Blk) (nx:Pa) (R:Ks Prop),Inv m z6 h nx->(∀ (m':Nat) (w2 w3 w6 w7 w8:AV) (h':T Blk) (nx':Pa),m'<m->Inv m' w6 h' nx'->R (vo.fr a b w2 w3 i o w6 w7 w8) h' nx'=.ok True) ->
   (za .lss .int z6 o λv1=>yM v1 (zH 1 a z6 λv2=>zE v2 h λv3=>zH 1 b z6 λv4=>zE v4 h λv5=>za .neq .int v3 v5 λv6=>yM v6 (K0 (.bool false) h nx) (za .add .int z6 (I 1) λv7=>R (vo.fr a b z2 z6 i o v7 v1 v6) h nx)) (K (vo.fr a b z2 z3 i o z6 v1 z8) h nx))=.ok True) :
  IR.run vo.b2 C N (fnO vo.res K0) K (vo.fr a b c f i o p q u) h nx=.ok True:=by
 rw [vo.b2,vo.oF,vo.b3];refine yB (λm tm h nx=>∃ z2 z3 z6 z7 z8,tm=(vo.fr a b z2 z3 i o z6 z7 z8)/\Inv m z6 h nx) ?_ hm ⟨_,_,_,_,_,rfl,hi⟩;rintro m tm h nx R ⟨z2,z3,z6,z7,z8,rfl,hi⟩ hR;rw [vo.e2];exact step m z2 z3 z6 z7 z8 h nx R hi λm' w2 w3 w6 w7 w8 h' nx' hlt hi'=>hR m' _ h' nx' hlt ⟨_,_,_,_,_,rfl,hi'⟩
theorem vo.k9:IR.run vo.b9 C N (fnO vo.res K0) K (vo.fr a b c f i o p q u) h nx =
 K0 (.bool true) h nx:=by kernel_rfl
theorem F90.aM (X2:IR) (C:Calls Prop) (N:Nat) (O:fP Prop) (K:Ks Prop) (a b c f i o:AV) (h:T Blk) (nx:Pa):IR.run (F90.g1 X2) C N O K (F90.fr a b c f i o) h nx =
 IR.run X2 C N (O.blk 0 K) K (F90.fr a b c f i o) h nx:=by kernel_rfl
theorem F90.tab:T.get none (.of 90) tbl=some F90:=by kernel_rfl
theorem F90.go:zR tbl N C (.of 90) [a0,a1] h nx K0 =
 IR.run F90.b1 C N (fnO F90.res K0) (IR.run F90.b8 C N (fnO F90.res K0) (zi F90.res K0)) (F90.fr a0 a1 (.bool false) (I 0) .u .u) h nx:=by
 rw [yS F90.tab];kernel_rfl
theorem F90.e1:IR.run F90.b3 C N ((fnO F90.res K0).blk 0 K) R (F90.fr a b c f i o) h nx =
 sLen a λv1=>za .lss .int f v1 λv2=>yM v2 (zH 1 a f λv3=>zE v3 h λv4=>C.fn 49 (.of 49) [v4,b] h nx λv5 h6 n7=>yM v5 (K0 (.bool true) h6 n7) (za .add .int f (I 1) λv8=>R (F90.fr a b c v8 v2 v5) h6 n7)) (K (F90.fr a b c f v2 o) h nx):=by kernel_rfl
theorem F90.L1 (Inv:Nat->AV->T Blk->Pa->Prop) {m:Nat} (hm:m<N) (hi:Inv m f h nx)
  (step:∀ (m:Nat) (z2 z3 z4 z5:AV) (h:T Blk) (nx:Pa) (R:Ks Prop),Inv m z3 h nx->(∀ (m':Nat) (w2 w3 w4 w5:AV) (h':T Blk) (nx':Pa),m'<m->Inv m' w3 h' nx'->R (F90.fr a b w2 w3 w4 w5) h' nx'=.ok True) ->
   (sLen a λv1=>za .lss .int z3 v1 λv2=>yM v2 (zH 1 a z3 λv3=>zE v3 h λv4=>C.fn 49 (.of 49) [v4,b] h nx λv5 h6 n7=>yM v5 (K0 (.bool true) h6 n7) (za .add .int z3 (I 1) λv8=>R (F90.fr a b z2 v8 v2 v5) h6 n7)) (K (F90.fr a b z2 z3 v2 z5) h nx))=.ok True) :
  IR.run F90.b1 C N (fnO F90.res K0) K (F90.fr a b c f i o) h nx=.ok True:=by
 rw [F90.b1,F90.aM,F90.b2];refine yB (λm tm h nx=>∃ z2 z3 z4 z5,tm=(F90.fr a b z2 z3 z4 z5)/\Inv m z3 h nx) ?_ hm ⟨_,_,_,_,rfl,hi⟩;rintro m tm h nx R ⟨z2,z3,z4,z5,rfl,hi⟩ hR;rw [F90.e1];exact step m z2 z3 z4 z5 h nx R hi λm' w2 w3 w4 w5 h' nx' hlt hi'=>hR m' _ h' nx' hlt ⟨_,_,_,_,rfl,hi'⟩
theorem F90.k8:IR.run F90.b8 C N (fnO F90.res K0) K (F90.fr a b c f i o) h nx =
 K0 (.bool false) h nx:=by kernel_rfl
theorem F86.aM (X2:IR) (C:Calls Prop) (N:Nat) (O:fP Prop) (K:Ks Prop) (a b c f i o p q:AV) (h:T Blk) (nx:Pa):IR.run (F86.g1 X2) C N O K (F86.fr a b c f i o p q) h nx =
 IR.run X2 C N (O.blk 0 K) K (F86.fr a b c f i o p q) h nx:=by kernel_rfl
theorem F86.tab:T.get none (.of 86) tbl=some F86:=by kernel_rfl
theorem F86.go:zR tbl N C (.of 86) [a0] h nx K0 =
 sLen a0 λv1=>IR.run F86.b1 C N (fnO F86.res K0) (IR.run F86.b8 C N (fnO F86.res K0) (zi F86.res K0)) (F86.fr a0 (I 0) .u a0 v1 (I 0) .u .u) h nx:=by
 rw [yS F86.tab];kernel_rfl
theorem F86.e1:IR.run F86.b3 C N ((fnO F86.res K0).blk 0 K) R (F86.fr a b c f i o p q) h nx =
 za .lss .int o i λv1=>yM v1 (zH 1 f o λv2=>zE v2 h λv3=>za .neq .int v3 (I 0) λv4=>yM v4 (K0 v3 h nx) (za .add .int o (I 1) λv5=>R (F86.fr a b v3 f i v5 v1 v4) h nx)) (K (F86.fr a b c f i o v1 q) h nx):=by kernel_rfl
theorem F86.L1 (Inv:Nat->AV->T Blk->Pa->Prop) {m:Nat} (hm:m<N) (hi:Inv m o h nx)
  (step:∀ (m:Nat) (z1 z2 z5 z6 z7:AV) (h:T Blk) (nx:Pa) (R:Ks Prop),Inv m z5 h nx->(∀ (m':Nat) (w1 w2 w5 w6 w7:AV) (h':T Blk) (nx':Pa),m'<m->Inv m' w5 h' nx'->R (F86.fr a w1 w2 f i w5 w6 w7) h' nx'=.ok True) ->
   (za .lss .int z5 i λv1=>yM v1 (zH 1 f z5 λv2=>zE v2 h λv3=>za .neq .int v3 (I 0) λv4=>yM v4 (K0 v3 h nx) (za .add .int z5 (I 1) λv5=>R (F86.fr a z1 v3 f i v5 v1 v4) h nx)) (K (F86.fr a z1 z2 f i z5 v1 z7) h nx))=.ok True) :
  IR.run F86.b1 C N (fnO F86.res K0) K (F86.fr a b c f i o p q) h nx=.ok True:=by
 rw [F86.b1,F86.aM,F86.b2];refine yB (λm tm h nx=>∃ z1 z2 z5 z6 z7,tm=(F86.fr a z1 z2 f i z5 z6 z7)/\Inv m z5 h nx) ?_ hm ⟨_,_,_,_,_,rfl,hi⟩;rintro m tm h nx R ⟨z1,z2,z5,z6,z7,rfl,hi⟩ hR;rw [F86.e1];exact step m z1 z2 z5 z6 z7 h nx R hi λm' w1 w2 w5 w6 w7 h' nx' hlt hi'=>hR m' _ h' nx' hlt ⟨_,_,_,_,_,rfl,hi'⟩
theorem F86.k8:IR.run F86.b8 C N (fnO F86.res K0) K (F86.fr a b c f i o p q) h nx =
 K0 (I 0) h nx:=by kernel_rfl
theorem F88.tab:T.get none (.of 88) tbl=some F88:=by kernel_rfl
theorem F88.go:zR tbl N C (.of 88) [a0,a1] h nx K0 =
 yM a0 (K0 a1 h nx) (K0 (I 0) h nx):=by
 rw [yS F88.tab];kernel_rfl
theorem F16.oF (X3:IR) (C:Calls Prop) (N:Nat) (O:fP Prop) (K:Ks Prop) (a b c f i o p q u:AV) (h:T Blk) (nx:Pa):IR.run (F16.g2 X3) C N O K (F16.fr a b c f i o p q u) h nx =
 IR.run X3 C N (O.blk 0 K) K (F16.fr a b c f i o p q u) h nx:=by kernel_rfl
theorem F16.tab:T.get none (.of 16) tbl=some F16:=by kernel_rfl
theorem F16.go:zR tbl N C (.of 16) [a0,a1,a2] h nx K0 =
 xw a0 h nx λv1 h2 n3=>zM 1 v1 λv4=>zE v4 h2 λv5=>sLen v5 λv6=>za .gtr .int v6 a2 λv7=>yM v7 (K0 (.bool false) h2 n3) (IR.run F16.b2 C N (fnO F16.res K0) (IR.run F16.b9 C N (fnO F16.res K0) (zi F16.res K0)) (F16.fr a0 a1 a2 v1 (.bool false) (I 0) v7 .u .u) h2 n3):=by
 rw [yS F16.tab];kernel_rfl
theorem F16.e2:IR.run F16.b4 C N ((fnO F16.res K0).blk 0 K) R (F16.fr a b c f i o p q u) h nx =
 zM 1 f λv1=>zE v1 h λv2=>sLen v2 λv3=>za .lss .int o v3 λv4=>yM v4 (zM 1 f λv5=>zE v5 h λv6=>zH 1 v6 o λv7=>zE v7 h λv8=>sLen v8 λv9=>za .gtr .int v9 b λvE=>yM vE (K0 (.bool false) h nx) (za .add .int o (I 1) λvC=>R (F16.fr a b c f i vC p v4 vE) h nx)) (K (F16.fr a b c f i o p v4 u) h nx):=by kernel_rfl
theorem F16.L2 (Inv:Nat->AV->T Blk->Pa->Prop) {m:Nat} (hm:m<N) (hi:Inv m o h nx)
  (step:∀ (m:Nat) (z4 z5 z7 z8:AV) (h:T Blk) (nx:Pa) (R:Ks Prop),Inv m z5 h nx->(∀ (m':Nat) (w4 w5 w7 w8:AV) (h':T Blk) (nx':Pa),m'<m->Inv m' w5 h' nx'->R (F16.fr a b c f w4 w5 p w7 w8) h' nx'=.ok True) ->
   (zM 1 f λv1=>zE v1 h λv2=>sLen v2 λv3=>za .lss .int z5 v3 λv4=>yM v4 (zM 1 f λv5=>zE v5 h λv6=>zH 1 v6 z5 λv7=>zE v7 h λv8=>sLen v8 λv9=>za .gtr .int v9 b λvE=>yM vE (K0 (.bool false) h nx) (za .add .int z5 (I 1) λvC=>R (F16.fr a b c f z4 vC p v4 vE) h nx)) (K (F16.fr a b c f z4 z5 p v4 z8) h nx))=.ok True) :
  IR.run F16.b2 C N (fnO F16.res K0) K (F16.fr a b c f i o p q u) h nx=.ok True:=by
 rw [F16.b2,F16.oF,F16.b3];refine yB (λm tm h nx=>∃ z4 z5 z7 z8,tm=(F16.fr a b c f z4 z5 p z7 z8)/\Inv m z5 h nx) ?_ hm ⟨_,_,_,_,rfl,hi⟩;rintro m tm h nx R ⟨z4,z5,z7,z8,rfl,hi⟩ hR;rw [F16.e2];exact step m z4 z5 z7 z8 h nx R hi λm' w4 w5 w7 w8 h' nx' hlt hi'=>hR m' _ h' nx' hlt ⟨_,_,_,_,rfl,hi'⟩
theorem F16.k9:IR.run F16.b9 C N (fnO F16.res K0) K (F16.fr a b c f i o p q u) h nx =
 K0 (.bool true) h nx:=by kernel_rfl
theorem F19.zx0 (X11:IR) (C:Calls Prop) (N:Nat) (O:fP Prop) (K:Ks Prop) (a b c f i o p q u x9 d g j l:AV) (h:T Blk) (nx:Pa):IR.run (F19.g10 X11) C N O K (F19.fr a b c f i o p q u x9 d g j l) h nx =
 IR.run X11 C N (O.blk 2 K) K (F19.fr a b c f i o p q u x9 d g j l) h nx:=by kernel_rfl
theorem F19.qak (X4:IR) (C:Calls Prop) (N:Nat) (O:fP Prop) (K:Ks Prop) (a b c f i o p q u x9 d g j l:AV) (h:T Blk) (nx:Pa):IR.run (F19.g3 X4) C N O K (F19.fr a b c f i o p q u x9 d g j l) h nx =
 IR.run X4 C N (O.blk 0 K) K (F19.fr a b c f i o p q u x9 d g j l) h nx:=by kernel_rfl
theorem F19.tab:T.get none (.of 19) tbl=some F19:=by kernel_rfl
theorem F19.go:zR tbl N C (.of 19) [a0] h nx K0 =
 xw a0 h nx λv1 h2 n3=>zM 0 v1 λv4=>zE v4 h2 λv5=>za .lss .int v5 (I 1) λv6=>sG v6 false (λk=>zM 0 v1 k) λv7=>sG v6 false (λk=>zE v7 h2 k) λv8=>sG v6 false (λk=>za .gtr .int v8 (I 256) k) λv9=>yF v6 (.bool true) v9 λvE=>yM vE (K0 (I 3) h2 n3) (zM 1 v1 λvC=>zE vC h2 λvD=>sLen vD λvF=>za .gtr .int vF (I 128) λvG=>yM vG (K0 (I 5) h2 n3) (IR.run F19.b3 C N (fnO F19.res K0) (IR.run F19.b20 C N (fnO F19.res K0) (zi F19.res K0)) (F19.fr a0 v1 (I 0) (I 0) .u .u vE vG .u .u .u .u .u .u) h2 n3)):=by
 rw [yS F19.tab];kernel_rfl
theorem F19.e3:IR.run F19.b5 C N ((fnO F19.res K0).blk 0 K) R (F19.fr a b c f i o p q u x9 d g j l) h nx =
 zM 1 b λv1=>zE v1 h λv2=>sLen v2 λv3=>za .lss .int f v3 λv4=>yM v4 (zM 1 b λv5=>zE v5 h λv6=>zH 1 v6 f λv7=>zE v7 h λv8=>sLen v8 λv9=>za .eql .int v9 (I 0) λvE=>yM vE (K0 (I 12) h nx) (IR.run F19.b10 C N (((fnO F19.res K0).blk 0 K).blk 1 (IR.run F19.b19 C N ((fnO F19.res K0).blk 0 K) R)) (IR.run F19.b18 C N (((fnO F19.res K0).blk 0 K).blk 1 (IR.run F19.b19 C N ((fnO F19.res K0).blk 0 K) R)) (IR.run F19.b19 C N ((fnO F19.res K0).blk 0 K) R)) (F19.fr a b c f v8 (I 0) p q v4 vE d g j l) h nx)) (K (F19.fr a b c f i o p q v4 x9 d g j l) h nx):=by kernel_rfl
theorem F19.L3 (Inv:Nat->AV->T Blk->Pa->Prop) {m:Nat} (hm:m<N) (hi:Inv m f h nx)
  (step:∀ (m:Nat) (z2 z3 z4 z5 z8 z9 zA zB zC zD:AV) (h:T Blk) (nx:Pa) (R:Ks Prop),Inv m z3 h nx->(∀ (m':Nat) (w2 w3 w4 w5 w8 w9 wA wB wC wD:AV) (h':T Blk) (nx':Pa),m'<m->Inv m' w3 h' nx'->R (F19.fr a b w2 w3 w4 w5 p q w8 w9 wA wB wC wD) h' nx'=.ok True) ->
   (zM 1 b λv1=>zE v1 h λv2=>sLen v2 λv3=>za .lss .int z3 v3 λv4=>yM v4 (zM 1 b λv5=>zE v5 h λv6=>zH 1 v6 z3 λv7=>zE v7 h λv8=>sLen v8 λv9=>za .eql .int v9 (I 0) λvE=>yM vE (K0 (I 12) h nx) (IR.run F19.b10 C N (((fnO F19.res K0).blk 0 K).blk 1 (IR.run F19.b19 C N ((fnO F19.res K0).blk 0 K) R)) (IR.run F19.b18 C N (((fnO F19.res K0).blk 0 K).blk 1 (IR.run F19.b19 C N ((fnO F19.res K0).blk 0 K) R)) (IR.run F19.b19 C N ((fnO F19.res K0).blk 0 K) R)) (F19.fr a b z2 z3 v8 (I 0) p q v4 vE zA zB zC zD) h nx)) (K (F19.fr a b z2 z3 z4 z5 p q v4 z9 zA zB zC zD) h nx))=.ok True) :
  IR.run F19.b3 C N (fnO F19.res K0) K (F19.fr a b c f i o p q u x9 d g j l) h nx=.ok True:=by
 rw [F19.b3,F19.qak,F19.b4];refine yB (λm tm h nx=>∃ z2 z3 z4 z5 z8 z9 zA zB zC zD,tm=(F19.fr a b z2 z3 z4 z5 p q z8 z9 zA zB zC zD)/\Inv m z3 h nx) ?_ hm ⟨_,_,_,_,_,_,_,_,_,_,rfl,hi⟩;rintro m tm h nx R ⟨z2,z3,z4,z5,z8,z9,zA,zB,zC,zD,rfl,hi⟩ hR;rw [F19.e3];exact step m z2 z3 z4 z5 z8 z9 zA zB zC zD h nx R hi λm' w2 w3 w4 w5 w8 w9 wA wB wC wD h' nx' hlt hi'=>hR m' _ h' nx' hlt ⟨_,_,_,_,_,_,_,_,_,_,rfl,hi'⟩
theorem F19.k20:IR.run F19.b20 C N (fnO F19.res K0) K (F19.fr a b c f i o p q u x9 d g j l) h nx =
 K0 (I 0) h nx:=by kernel_rfl
theorem F19.k19 {E0:Ks Prop}:IR.run F19.b19 C N ((fnO F19.res K0).blk 0 E0) K (F19.fr a b c f i o p q u x9 d g j l) h nx =
 za .add .int f (I 1) λv1=>K (F19.fr a b c v1 i o p q u x9 d g j l) h nx:=by kernel_rfl
theorem F19.e10 {E0 E1:Ks Prop}:IR.run F19.b12 C N ((((fnO F19.res K0).blk 0 E0).blk 1 E1).blk 2 K) R (F19.fr a b c f i o p q u x9 d g j l) h nx =
 sLen i λv1=>za .lss .int o v1 λv2=>yM v2 (zH 1 i o λv3=>zE v3 h λv4=>za .lss .int v4 (I 0) λv5=>sG v5 false (λk=>k i) λv6=>sG v5 false (λk=>k o) λv7=>sG v5 false (λk=>zH 1 v6 v7 k) λv8=>sG v5 false (λk=>zE v8 h k) λv9=>sG v5 false (λk=>zM 0 b k) λvE=>sG v5 false (λk=>zE vE h k) λvC=>sG v5 false (λk=>za .geq .int v9 vC k) λvD=>yF v5 (.bool true) vD λvF=>yM vF (K0 (I 10) h nx) ((IR.run F19.b16 C N (((((fnO F19.res K0).blk 0 E0).blk 1 E1).blk 2 K).blk 3 (IR.run F19.b17 C N ((((fnO F19.res K0).blk 0 E0).blk 1 E1).blk 2 K) R)) (IR.run F19.b17 C N ((((fnO F19.res K0).blk 0 E0).blk 1 E1).blk 2 K) R)) (F19.fr a b c f i o p q u x9 v2 vF j l) h nx)) (K (F19.fr a b c f i o p q u x9 v2 g j l) h nx):=by kernel_rfl
theorem F19.L10 {E0 E1:Ks Prop} (Inv:Nat->AV->T Blk->Pa->Prop) {m:Nat} (hm:m<N) (hi:Inv m o h nx)
  (step:∀ (m:Nat) (z2 z5 zA zB zC:AV) (h:T Blk) (nx:Pa) (R:Ks Prop),Inv m z5 h nx->(∀ (m':Nat) (w2 w5 wA wB wC:AV) (h':T Blk) (nx':Pa),m'<m->Inv m' w5 h' nx'->R (F19.fr a b w2 f i w5 p q u x9 wA wB wC l) h' nx'=.ok True) ->
   (sLen i λv1=>za .lss .int z5 v1 λv2=>yM v2 (zH 1 i z5 λv3=>zE v3 h λv4=>za .lss .int v4 (I 0) λv5=>sG v5 false (λk=>k i) λv6=>sG v5 false (λk=>k z5) λv7=>sG v5 false (λk=>zH 1 v6 v7 k) λv8=>sG v5 false (λk=>zE v8 h k) λv9=>sG v5 false (λk=>zM 0 b k) λvE=>sG v5 false (λk=>zE vE h k) λvC=>sG v5 false (λk=>za .geq .int v9 vC k) λvD=>yF v5 (.bool true) vD λvF=>yM vF (K0 (I 10) h nx) ((IR.run F19.b16 C N (((((fnO F19.res K0).blk 0 E0).blk 1 E1).blk 2 K).blk 3 (IR.run F19.b17 C N ((((fnO F19.res K0).blk 0 E0).blk 1 E1).blk 2 K) R)) (IR.run F19.b17 C N ((((fnO F19.res K0).blk 0 E0).blk 1 E1).blk 2 K) R)) (F19.fr a b z2 f i z5 p q u x9 v2 vF zC l) h nx)) (K (F19.fr a b z2 f i z5 p q u x9 v2 zB zC l) h nx))=.ok True) :
  IR.run F19.b10 C N (((fnO F19.res K0).blk 0 E0).blk 1 E1) K (F19.fr a b c f i o p q u x9 d g j l) h nx=.ok True:=by
 rw [F19.b10,F19.zx0,F19.b11];refine yB (λm tm h nx=>∃ z2 z5 zA zB zC,tm=(F19.fr a b z2 f i z5 p q u x9 zA zB zC l)/\Inv m z5 h nx) ?_ hm ⟨_,_,_,_,_,rfl,hi⟩;rintro m tm h nx R ⟨z2,z5,zA,zB,zC,rfl,hi⟩ hR;rw [F19.e10];exact step m z2 z5 zA zB zC h nx R hi λm' w2 w5 wA wB wC h' nx' hlt hi'=>hR m' _ h' nx' hlt ⟨_,_,_,_,_,rfl,hi'⟩
theorem F19.k18 {E0 E1:Ks Prop}:IR.run F19.b18 C N (((fnO F19.res K0).blk 0 E0).blk 1 E1) K (F19.fr a b c f i o p q u x9 d g j l) h nx =
 zM 1 b λv1=>zE v1 h λv2=>vJ 1 v2 none (some f) none λv3=>C.fn 90 (.of 90) [v3,i] h nx λv4 h5 n6=>yM v4 (K0 (I 9) h5 n6) (K (F19.fr a b c f i o p q u x9 d g j v4) h5 n6):=by kernel_rfl
theorem F19.k17 {E0 E1 E2:Ks Prop}:IR.run F19.b17 C N ((((fnO F19.res K0).blk 0 E0).blk 1 E1).blk 2 E2) K (F19.fr a b c f i o p q u x9 d g j l) h nx =
 za .add .int o (I 1) λv1=>K (F19.fr a b c f i v1 p q u x9 d g j l) h nx:=by kernel_rfl
theorem F19.k16 {E0 E1 E2 E3:Ks Prop}:IR.run F19.b16 C N (((((fnO F19.res K0).blk 0 E0).blk 1 E1).blk 2 E2).blk 3 E3) K (F19.fr a b c f i o p q u x9 d g j l) h nx =
 za .gtr .int o (I 0) λv1=>sG v1 true (λk=>k i) λv2=>sG v1 true (λk=>k o) λv3=>sG v1 true (λk=>zH 1 v2 v3 k) λv4=>sG v1 true (λk=>zE v4 h k) λv5=>sG v1 true (λk=>k i) λv6=>sG v1 true (λk=>k o) λv7=>sG v1 true (λk=>za .sub .int v7 (I 1) k) λv8=>sG v1 true (λk=>zH 1 v6 v8 k) λv9=>sG v1 true (λk=>zE v9 h k) λvE=>sG v1 true (λk=>za .leq .int v5 vE k) λvC=>yF v1 vC (.bool false) λvD=>yM vD (K0 (I 11) h nx) (K (F19.fr a b c f i o p q u x9 d g vD l) h nx):=by kernel_rfl
theorem F87.tab:T.get none (.of 87) tbl=some F87:=by kernel_rfl
theorem F87.go:zR tbl N C (.of 87) [a0,a1,a2] h nx K0 =
 xw a0 h nx λv1 h2 n3=>xw a1 h2 n3 λv4 h5 n6=>C.fn 173 (.of 173) [a2,(.fn 174 (.of 174) [v1,v4])] h5 n6 λv7 h8 n9=>C.fn 88 (.of 88) [v7,(I 3)] h8 n9 λvE hD nE=>K0 vE hD nE:=by
 rw [yS F87.tab];kernel_rfl
theorem eF.tab:T.get none (.of 174) tbl=some eF:=by kernel_rfl
theorem eF.go:zR tbl N C (.of 174) [a0,a1,a2] h nx K0 =
 zE a1 h λv1=>za .lss .int a0 v1 λv2=>sG v2 false (λk=>k a0) λv3=>sG v2 false (λk=>zE a2 h k) λv4=>sG v2 false (λk=>za .gtr .int v3 v4 k) λv5=>yF v2 (.bool true) v5 λv6=>K0 v6 h nx:=by
 rw [yS eF.tab];kernel_rfl
theorem eG.tab:T.get none (.of 173) tbl=some eG:=by kernel_rfl
theorem eG.go:zR tbl N C (.of 173) [a0,a1] h nx K0 =
 C.fn 184 (.of 184) [a0,a1] h nx λv1 h2 n3=>za .geq .int v1 (I 0) λv4=>K0 v4 h2 n3:=by
 rw [yS eG.tab];kernel_rfl
theorem xu.aM (X2:IR) (C:Calls Prop) (N:Nat) (O:fP Prop) (K:Ks Prop) (a b c f i o p q:AV) (h:T Blk) (nx:Pa):IR.run (xu.g1 X2) C N O K (xu.fr a b c f i o p q) h nx =
 IR.run X2 C N (O.blk 0 K) K (xu.fr a b c f i o p q) h nx:=by kernel_rfl
theorem xu.tab:T.get none (.of 184) tbl=some xu:=by kernel_rfl
theorem xu.go:zR tbl N C (.of 184) [a0,a1] h nx K0 =
 sLen a0 λv1=>IR.run xu.b1 C N (fnO xu.res K0) (IR.run xu.b8 C N (fnO xu.res K0) (zi xu.res K0)) (xu.fr a0 a1 (I 0) .u v1 (I 0) .u .u) h nx:=by
 rw [yS xu.tab];kernel_rfl
theorem xu.e1:IR.run xu.b3 C N ((fnO xu.res K0).blk 0 K) R (xu.fr a b c f i o p q) h nx =
 za .lss .int o i λv1=>yM v1 (zH 1 a o λv2=>zE v2 h λv3=>zal C b [v3] h nx λv4 h5 n6=>yM v4 (K0 o h5 n6) (za .add .int o (I 1) λv7=>R (xu.fr a b c o i v7 v1 v4) h5 n6)) (K (xu.fr a b c f i o v1 q) h nx):=by kernel_rfl
theorem xu.L1 (Inv:Nat->AV->T Blk->Pa->Prop) {m:Nat} (hm:m<N) (hi:Inv m o h nx)
  (step:∀ (m:Nat) (z2 z3 z5 z6 z7:AV) (h:T Blk) (nx:Pa) (R:Ks Prop),Inv m z5 h nx->(∀ (m':Nat) (w2 w3 w5 w6 w7:AV) (h':T Blk) (nx':Pa),m'<m->Inv m' w5 h' nx'->R (xu.fr a b w2 w3 i w5 w6 w7) h' nx'=.ok True) ->
   (za .lss .int z5 i λv1=>yM v1 (zH 1 a z5 λv2=>zE v2 h λv3=>zal C b [v3] h nx λv4 h5 n6=>yM v4 (K0 z5 h5 n6) (za .add .int z5 (I 1) λv7=>R (xu.fr a b z2 z5 i v7 v1 v4) h5 n6)) (K (xu.fr a b z2 z3 i z5 v1 z7) h nx))=.ok True) :
  IR.run xu.b1 C N (fnO xu.res K0) K (xu.fr a b c f i o p q) h nx=.ok True:=by
 rw [xu.b1,xu.aM,xu.b2];refine yB (λm tm h nx=>∃ z2 z3 z5 z6 z7,tm=(xu.fr a b z2 z3 i z5 z6 z7)/\Inv m z5 h nx) ?_ hm ⟨_,_,_,_,_,rfl,hi⟩;rintro m tm h nx R ⟨z2,z3,z5,z6,z7,rfl,hi⟩ hR;rw [xu.e1];exact step m z2 z3 z5 z6 z7 h nx R hi λm' w2 w3 w5 w6 w7 h' nx' hlt hi'=>hR m' _ h' nx' hlt ⟨_,_,_,_,_,rfl,hi'⟩
theorem xu.k8:IR.run xu.b8 C N (fnO xu.res K0) K (xu.fr a b c f i o p q) h nx =
 K0 (I (-1)) h nx:=by kernel_rfl
theorem F18.oF (X3:IR) (C:Calls Prop) (N:Nat) (O:fP Prop) (K:Ks Prop) (a b c f i o p q u x9 d:AV) (h:T Blk) (nx:Pa):IR.run (F18.g2 X3) C N O K (F18.fr a b c f i o p q u x9 d) h nx =
 IR.run X3 C N (O.blk 0 K) K (F18.fr a b c f i o p q u x9 d) h nx:=by kernel_rfl
theorem F18.tab:T.get none (.of 18) tbl=some F18:=by kernel_rfl
theorem F18.go:zR tbl N C (.of 18) [a0] h nx K0 =
 xw a0 h nx λv1 h2 n3=>zM 0 v1 λv4=>zE v4 h2 λv5=>zM 1 v1 λv6=>zE v6 h2 λv7=>sLen v7 λv8=>za .gtr .int v8 (I 128) λv9=>yZ 1 1 [(I 0)] [(0,1,v5)] h2 n3 λvE hD nE=>(za .gtr .int v8 (I 128) λvH=>zL vH v9 ((sLen v7 λvI=>zL vI v8 ((zE v6 hD λvK=>zL vK v7 ((zM 1 v1 λvL=>zL vL v6 (C.fn 87 (.of 87) [(I 1),(I 256),vE] hD nE λvF hE nF=>(za .gtr .int v8 (I 128) λvM=>zL vM v9 ((sLen v7 λvN=>zL vN v8 ((zE v6 hE λvO=>zL vO v7 ((zM 1 v1 λvP=>zL vP v6 (C.fn 88 (.of 88) [v9,(I 5)] hE nF λvA hF nG=>yZ 1 2 [(I 0)] [(0,1,vF),(1,1,vA)] hF nG λvQ hG nH=>C.fn 86 (.of 86) [vQ] hG nH λvR hH nI=>za .neq .int vR (I 0) λvS=>yM vS (K0 vR hH nI) (zM 1 v1 λvT=>zE vT hH λvU=>sLen vU λvV=>IR.run F18.b2 C N (fnO F18.res K0) (IR.run F18.b9 C N (fnO F18.res K0) (zi F18.res K0)) (F18.fr a0 v1 (I 0) vR .u .u vS vV (I 0) .u .u) hH nI))))))))))))))))):=by
 rw [yS F18.tab];kernel_rfl
theorem F18.e2:IR.run F18.b4 C N ((fnO F18.res K0).blk 0 K) R (F18.fr a b c f i o p q u x9 d) h nx =
 za .lss .int u q λv1=>yM v1 (zJ 2 b h λv2=>C.fn 89 (.of 89) [v2,u] h nx λv3 h4 n5=>za .neq .int v3 (I 0) λv6=>yM v6 (K0 v3 h4 n5) (za .add .int u (I 1) λv7=>R (F18.fr a b c f u v3 p q v7 v1 v6) h4 n5)) (K (F18.fr a b c f i o p q u v1 d) h nx):=by kernel_rfl
theorem F18.L2 (Inv:Nat->AV->T Blk->Pa->Prop) {m:Nat} (hm:m<N) (hi:Inv m u h nx)
  (step:∀ (m:Nat) (z2 z4 z5 z8 z9 zA:AV) (h:T Blk) (nx:Pa) (R:Ks Prop),Inv m z8 h nx->(∀ (m':Nat) (w2 w4 w5 w8 w9 wA:AV) (h':T Blk) (nx':Pa),m'<m->Inv m' w8 h' nx'->R (F18.fr a b w2 f w4 w5 p q w8 w9 wA) h' nx'=.ok True) ->
   (za .lss .int z8 q λv1=>yM v1 (zJ 2 b h λv2=>C.fn 89 (.of 89) [v2,z8] h nx λv3 h4 n5=>za .neq .int v3 (I 0) λv6=>yM v6 (K0 v3 h4 n5) (za .add .int z8 (I 1) λv7=>R (F18.fr a b z2 f z8 v3 p q v7 v1 v6) h4 n5)) (K (F18.fr a b z2 f z4 z5 p q z8 v1 zA) h nx))=.ok True) :
  IR.run F18.b2 C N (fnO F18.res K0) K (F18.fr a b c f i o p q u x9 d) h nx=.ok True:=by
 rw [F18.b2,F18.oF,F18.b3];refine yB (λm tm h nx=>∃ z2 z4 z5 z8 z9 zA,tm=(F18.fr a b z2 f z4 z5 p q z8 z9 zA)/\Inv m z8 h nx) ?_ hm ⟨_,_,_,_,_,_,rfl,hi⟩;rintro m tm h nx R ⟨z2,z4,z5,z8,z9,zA,rfl,hi⟩ hR;rw [F18.e2];exact step m z2 z4 z5 z8 z9 zA h nx R hi λm' w2 w4 w5 w8 w9 wA h' nx' hlt hi'=>hR m' _ h' nx' hlt ⟨_,_,_,_,_,_,rfl,hi'⟩
theorem F18.k9:IR.run F18.b9 C N (fnO F18.res K0) K (F18.fr a b c f i o p q u x9 d) h nx =
 K0 (I 0) h nx:=by kernel_rfl
theorem F89.oF (X3:IR) (C:Calls Prop) (N:Nat) (O:fP Prop) (K:Ks Prop) (a b c f i o p q u x9 d g j l:AV) (h:T Blk) (nx:Pa):IR.run (F89.g2 X3) C N O K (F89.fr a b c f i o p q u x9 d g j l) h nx =
 IR.run X3 C N (O.blk 0 K) K (F89.fr a b c f i o p q u x9 d g j l) h nx:=by kernel_rfl
theorem F89.tab:T.get none (.of 89) tbl=some F89:=by kernel_rfl
theorem F89.go:zR tbl N C (.of 89) [a0,a1] h nx K0 =
 xw a0 h nx λv1 h2 n3=>zM 1 v1 λv4=>zE v4 h2 λv5=>zH 1 v5 a1 λv6=>zE v6 h2 λv7=>yK [.ze] h2 n3 λv8 h9 nA=>zV 1 v8 v7 h9 nA λvC hI nJ=>zE v8 hI λvG=>sLen vG λvB=>za .eql .int vB (I 0) λvA=>yM vA (K0 (I 12) hI nJ) (zE v8 hI λvW=>sLen vW λvX=>IR.run F89.b2 C N (fnO F89.res K0) (IR.run F89.b9 C N (fnO F89.res K0) (zi F89.res K0)) (F89.fr a0 a1 v1 (I 0) v8 .u .u .u vA vW vX (I 0) .u .u) hI nJ):=by
 rw [yS F89.tab];kernel_rfl
theorem F89.e2:IR.run F89.b4 C N ((fnO F89.res K0).blk 0 K) R (F89.fr a b c f i o p q u x9 d g j l) h nx =
 za .lss .int g d λv1=>yM v1 (zH 1 x9 g λv2=>zE v2 h λv3=>za .lss .int v3 (I 0) λv4=>sG v4 false (λk=>k v3) λv5=>sG v4 false (λk=>zM 0 c k) λv6=>sG v4 false (λk=>zE v6 h k) λv7=>sG v4 false (λk=>za .geq .int v5 v7 k) λv8=>yF v4 (.bool true) v8 λv9=>C.fn 88 (.of 88) [v9,(I 10)] h nx λvE hD nE=>za .gtr .int g (I 0) λvF=>sG vF true (λk=>zE i hD k) λvG=>sG vF true (λk=>k g) λvB=>sG vF true (λk=>za .sub .int vB (I 1) k) λvA=>sG vF true (λk=>zH 1 vG vA k) λvW=>sG vF true (λk=>zE vW hD k) λvX=>sG vF true (λk=>k v3) λvQ=>sG vF true (λk=>za .geq .int vX vQ k) λvY=>yF vF vY (.bool false) λvZ=>C.fn 88 (.of 88) [vZ,(I 11)] hD nE λvR hH nI=>yZ 1 2 [(I 0)] [(0,1,vE),(1,1,vR)] hH nI λvS hJ nK=>C.fn 86 (.of 86) [vS] hJ nK λvV hK nL=>za .neq .int vV (I 0) λvN=>yM vN (K0 vV hK nL) (za .add .int g (I 1) λvM=>R (F89.fr a b c f i g v3 vV u x9 d vM v1 vN) hK nL)) (K (F89.fr a b c f i o p q u x9 d g v1 l) h nx):=by kernel_rfl
theorem F89.L2 (Inv:Nat->AV->T Blk->Pa->Prop) {m:Nat} (hm:m<N) (hi:Inv m g h nx)
  (step:∀ (m:Nat) (z3 z5 z6 z7 zB zC zD:AV) (h:T Blk) (nx:Pa) (R:Ks Prop),Inv m zB h nx->(∀ (m':Nat) (w3 w5 w6 w7 wB wC wD:AV) (h':T Blk) (nx':Pa),m'<m->Inv m' wB h' nx'->R (F89.fr a b c w3 i w5 w6 w7 u x9 d wB wC wD) h' nx'=.ok True) ->
   (za .lss .int zB d λv1=>yM v1 (zH 1 x9 zB λv2=>zE v2 h λv3=>za .lss .int v3 (I 0) λv4=>sG v4 false (λk=>k v3) λv5=>sG v4 false (λk=>zM 0 c k) λv6=>sG v4 false (λk=>zE v6 h k) λv7=>sG v4 false (λk=>za .geq .int v5 v7 k) λv8=>yF v4 (.bool true) v8 λv9=>C.fn 88 (.of 88) [v9,(I 10)] h nx λvE hD nE=>za .gtr .int zB (I 0) λvF=>sG vF true (λk=>zE i hD k) λvG=>sG vF true (λk=>k zB) λvB=>sG vF true (λk=>za .sub .int vB (I 1) k) λvA=>sG vF true (λk=>zH 1 vG vA k) λvW=>sG vF true (λk=>zE vW hD k) λvX=>sG vF true (λk=>k v3) λvQ=>sG vF true (λk=>za .geq .int vX vQ k) λvY=>yF vF vY (.bool false) λvZ=>C.fn 88 (.of 88) [vZ,(I 11)] hD nE λvR hH nI=>yZ 1 2 [(I 0)] [(0,1,vE),(1,1,vR)] hH nI λvS hJ nK=>C.fn 86 (.of 86) [vS] hJ nK λvV hK nL=>za .neq .int vV (I 0) λvN=>yM vN (K0 vV hK nL) (za .add .int zB (I 1) λvM=>R (F89.fr a b c z3 i zB v3 vV u x9 d vM v1 vN) hK nL)) (K (F89.fr a b c z3 i z5 z6 z7 u x9 d zB v1 zD) h nx))=.ok True) :
  IR.run F89.b2 C N (fnO F89.res K0) K (F89.fr a b c f i o p q u x9 d g j l) h nx=.ok True:=by
 rw [F89.b2,F89.oF,F89.b3];refine yB (λm tm h nx=>∃ z3 z5 z6 z7 zB zC zD,tm=(F89.fr a b c z3 i z5 z6 z7 u x9 d zB zC zD)/\Inv m zB h nx) ?_ hm ⟨_,_,_,_,_,_,_,rfl,hi⟩;rintro m tm h nx R ⟨z3,z5,z6,z7,zB,zC,zD,rfl,hi⟩ hR;rw [F89.e2];exact step m z3 z5 z6 z7 zB zC zD h nx R hi λm' w3 w5 w6 w7 wB wC wD h' nx' hlt hi'=>hR m' _ h' nx' hlt ⟨_,_,_,_,_,_,_,rfl,hi'⟩
theorem F89.k9:IR.run F89.b9 C N (fnO F89.res K0) K (F89.fr a b c f i o p q u x9 d g j l) h nx =
 zM 1 c λv1=>zE v1 h λv2=>vJ 1 v2 none (some b) none λv3=>C.fn 175 (.of 175) [v3,(.fn 176 (.of 176) [i])] h nx λv4 h5 n6=>C.fn 88 (.of 88) [v4,(I 9)] h5 n6 λv7 h8 n9=>K0 v7 h8 n9:=by kernel_rfl
theorem F93.zy:IR.run F93.t0 C N O K (F93.fr a b c f i o p q u x9 d g j l e s H v w y z U W L A B E M D G Z P Q V x34 x35) h nx =
 xw a h nx λv1 h2 n3=>yK [.ze,.ze] h2 n3 λv4 h5 n6=>K (F93.fr a v1 v4 f i o p q u x9 d g j l e s H v w y z U W L A B E M D G Z P Q V x34 x35) h5 n6:=by kernel_rfl
theorem F93.zx:IR.run F93.t1 C N O K (F93.fr a b c f i o p q u x9 d g j l e s H v w y z U W L A B E M D G Z P Q V x34 x35) h nx =
 zM 0 b λv1=>zE v1 h λv2=>K (F93.fr a b c v2 i o p q u x9 d g j l e s H v w y z U W L A B E M D G Z P Q V x34 x35) h nx:=by kernel_rfl
theorem F93.je:IR.run F93.t2 C N O K (F93.fr a b c f i o p q u x9 d g j l e s H v w y z U W L A B E M D G Z P Q V x34 x35) h nx =
 K (F93.fr a b c f .ze o p q u x9 d g j l e s H v w y z U W L A B E M D G Z P Q V x34 x35) h nx:=by kernel_rfl
theorem F93.pq:IR.run F93.t3 C N O K (F93.fr a b c f i o p q u x9 d g j l e s H v w y z U W L A B E M D G Z P Q V x34 x35) h nx =
 K (F93.fr a b c f i .ze p q u x9 d g j l e s H v w y z U W L A B E M D G Z P Q V x34 x35) h nx:=by kernel_rfl
theorem F93.fJ:IR.run F93.t4 C N O K (F93.fr a b c f i o p q u x9 d g j l e s H v w y z U W L A B E M D G Z P Q V x34 x35) h nx =
 K (F93.fr a b c f i o (I 1) q u x9 d g j l e s H v w y z U W L A B E M D G Z P Q V x34 x35) h nx:=by kernel_rfl
theorem F93.fG:IR.run F93.t5 C N O K (F93.fr a b c f i o p q u x9 d g j l e s H v w y z U W L A B E M D G Z P Q V x34 x35) h nx =
 zM 1 b λv1=>zE v1 h λv2=>sLen v2 λv3=>za .lss .int p v3 λv4=>K (F93.fr a b c f i o p q u x9 d g j l e s H v4 w y z U W L A B E M D G Z P Q V x34 x35) h nx:=by kernel_rfl
theorem F93.v17:Arg.ev (.t (.of 17)) ⟨(F93.fr a b c f i o p q u x9 d g j l e s H v w y z U W L A B E M D G Z P Q V x34 x35),[]⟩=v:=by kernel_rfl
theorem F93.fH:IR.run F93.t8 C N O K (F93.fr a b c f i o p q u x9 d g j l e s H v w y z U W L A B E M D G Z P Q V x34 x35) h nx =
 zM 1 b λv1=>zE v1 h λv2=>zH 1 v2 p λv3=>zE v3 h λv4=>C.fn 104 (.of 104) [f,v4] h nx λv5 h6 n7=>K (F93.fr a b c f i o p v5 u x9 d g j l e s H v w y z U W L A B E M D G Z P Q V x34 x35) h6 n7:=by kernel_rfl
theorem F93.fK:IR.run F93.t9 C N O K (F93.fr a b c f i o p q u x9 d g j l e s H v w y z U W L A B E M D G Z P Q V x34 x35) h nx =
 zM 1 b λv1=>zE v1 h λv2=>zH 1 v2 (I 0) λv3=>zE v3 h λv4=>C.fn 96 (.of 96) [(I 1)] h nx λv5 h6 n7=>(zE v3 h6 λvW=>zL vW v4 ((zH 1 v2 (I 0) λvA=>zL vA v3 ((zE v1 h6 λvB=>zL vB v2 ((zM 1 b λvG=>zL vG v1 (zL f f (zL q q (C.fn 104 (.of 104) [f,v4] h6 n7 λv8 h9 nA=>zL q q (C.fn 106 (.of 106) [q,v5,v8] h9 nA λvC hI nJ=>K (F93.fr a b c f i o p q u x9 d g j l e s H v w y z U W L A B E M D G Z P Q V x34 x35) hI nJ))))))))))):=by kernel_rfl
theorem F93.fT:IR.run F93.t10 C N O K (F93.fr a b c f i o p q u x9 d g j l e s H v w y z U W L A B E M D G Z P Q V x34 x35) h nx =
 sLen o λv1=>K (F93.fr a b c f i o p q u x9 d g j l e s H v o v1 (I 0) U W L A B E M D G Z P Q V x34 x35) h nx:=by kernel_rfl
theorem F93.di:IR.run F93.t11 C N O K (F93.fr a b c f i o p q u x9 d g j l e s H v w y z U W L A B E M D G Z P Q V x34 x35) h nx =
 za .lss .int z y λv1=>K (F93.fr a b c f i o p q u x9 d g j l e s H v w y z v1 W L A B E M D G Z P Q V x34 x35) h nx:=by kernel_rfl
theorem F93.v21:Arg.ev (.t (.of 21)) ⟨(F93.fr a b c f i o p q u x9 d g j l e s H v w y z U W L A B E M D G Z P Q V x34 x35),[]⟩=U:=by kernel_rfl
theorem F93.fU:IR.run F93.t13 C N O K (F93.fr a b c f i o p q u x9 d g j l e s H v w y z U W L A B E M D G Z P Q V x34 x35) h nx =
 zH 1 w z λv1=>zE v1 h λv2=>K (F93.fr a b c f i o p q z v2 d g j l e s H v w y z U W L A B E M D G Z P Q V x34 x35) h nx:=by kernel_rfl
theorem F93.sD:IR.run F93.t14 C N O K (F93.fr a b c f i o p q u x9 d g j l e s H v w y z U W L A B E M D G Z P Q V x34 x35) h nx =
 zH 4 q x9 λv1=>zJ 4 v1 h λv2=>zH 1 i u λv3=>zE v3 h λv4=>C.fn 106 (.of 106) [q,v2,v4] h nx λv5 h6 n7=>K (F93.fr a b c f i o p q u x9 d g j l e s H v w y z U W L A B E M D G Z P Q V x34 x35) h6 n7:=by kernel_rfl
theorem F93.rX:IR.run F93.t17 C N O K (F93.fr a b c f i o p q u x9 d g j l e s H v w y z U W L A B E M D G Z P Q V x34 x35) h nx =
 za .add .int z (I 1) λv1=>K (F93.fr a b c f i o p q u x9 d g j l e s H v w y v1 U W L A B E M D G Z P Q V x34 x35) h nx:=by kernel_rfl
theorem F93.zn7 (Inv:Nat->AV->T Blk->Pa->Prop) {m:Nat} (hm:m<N) (hi:Inv m z h nx)
  (step:∀ (m:Nat) (z8 z9 zF zG:AV) (h:T Blk) (nx:Pa) (R:Ks Prop),Inv m zF h nx->(∀ (m':Nat) (w8 w9 wE wF:AV) (h':T Blk) (nx':Pa),m'<m->Inv m' wE h' nx'->R (F93.fr a b c f i o p q w8 w9 d g j l e s H v w y wE wF W L A B E M D G Z P Q V x34 x35) h' nx'=.ok True)->IR.run F93.t20 C N O R (F93.fr a b c f i o p q z8 z9 d g j l e s H v w y zF zG W L A B E M D G Z P Q V x34 x35) h nx=.ok True) :
  IR.run F93.t21 C N O K (F93.fr a b c f i o p q u x9 d g j l e s H v w y z U W L A B E M D G Z P Q V x34 x35) h nx=.ok True:=by
 rw [F93.t21];refine yB (λm tm h nx=>∃ z8 z9 zF zG,tm=(F93.fr a b c f i o p q z8 z9 d g j l e s H v w y zF zG W L A B E M D G Z P Q V x34 x35)/\Inv m zF h nx) ?_ hm ⟨_,_,_,_,rfl,hi⟩;rintro m tm h nx R ⟨z8,z9,zF,zG,rfl,hi⟩ hR;exact step m z8 z9 zF zG h nx R hi λm' w8 w9 wE wF h' nx' hlt hi'=>hR m' _ h' nx' hlt ⟨_,_,_,_,rfl,hi'⟩
theorem F93.oD:IR.run F93.t24 C N O K (F93.fr a b c f i o p q u x9 d g j l e s H v w y z U W L A B E M D G Z P Q V x34 x35) h nx =
 za .sub .int f (I 1) λv1=>K (F93.fr a b c f i o p q u x9 v1 g j l e s H v w y z U W L A B E M D G Z P Q V x34 x35) h nx:=by kernel_rfl
theorem F93.zaj:IR.run F93.t25 C N O K tm h nx=zP F93.zn8 C ⟨tm,[]⟩ h nx (λtm h nx=>K tm.v h nx):=yT ..
theorem F93.zta:zP (F93.zn9 r) C ⟨(F93.fr a b c f i o p q u x9 d g j l e s H v w y z U W L A B E M D G Z P Q V x34 x35),[]⟩ h nx Kt =
 za .geq .int d (I 0) λv1=>sG v1 true (λk=>k q) λv2=>sG v1 true (λk=>k d) λv3=>sG v1 true (λk=>zH 4 v2 v3 k) λv4=>sG v1 true (λk=>zJ 4 v4 h k) λv5=>sGW v1 true (λk=>C.fn 110 (.of 110) [v5] h nx k) h nx λv6 h7 n8=>zP r C ⟨(F93.fr a b c f i o p q u x9 d g j l e s H v w y z U W L A B E M D G Z P Q V x34 x35),v6::v5::v4::v3::v2::v1::v1::d::[]⟩ h7 n8 Kt:=by kernel_rfl
theorem F93.zj2:zP (F93.zoa []) C ⟨(F93.fr a b c f i o p q u x9 d g j l e s H v w y z U W L A B E M D G Z P Q V x34 x35),s0::s1::s2::s3::s4::s5::sT⟩ h nx Kt =
 sG s5 true (λk=>za .eql .int s0 (I 0) k) λv1=>yF s5 v1 (.bool false) λv2=>Kt ⟨(F93.fr a b c f i o p q u x9 d g j l e s H v w y z U v2 L A B E M D G Z P Q V x34 x35),v1::s0::s1::s2::s3::s4::s5::sT⟩ h nx:=by kernel_rfl
theorem F93.v22:Arg.ev (.t (.of 22)) ⟨(F93.fr a b c f i o p q u x9 d g j l e s H v w y z U W L A B E M D G Z P Q V x34 x35),[]⟩=W:=by kernel_rfl
theorem F93.zfj:IR.run F93.t28 C N O K (F93.fr a b c f i o p q u x9 d g j l e s H v w y z U W L A B E M D G Z P Q V x34 x35) h nx =
 za .sub .int d (I 1) λv1=>K (F93.fr a b c f i o p q u x9 v1 g j l e s H v w y z U W L A B E M D G Z P Q V x34 x35) h nx:=by kernel_rfl
theorem F93.zm4 (Inv:Nat->AV->T Blk->Pa->Prop) {m:Nat} (hm:m<N) (hi:Inv m d h nx)
  (step:∀ (m:Nat) (zA zI:AV) (h:T Blk) (nx:Pa) (R:Ks Prop),Inv m zA h nx->(∀ (m':Nat) (wA wG:AV) (h':T Blk) (nx':Pa),m'<m->Inv m' wA h' nx'->R (F93.fr a b c f i o p q u x9 wA g j l e s H v w y z U wG L A B E M D G Z P Q V x34 x35) h' nx'=.ok True)->IR.run F93.t30 C N O R (F93.fr a b c f i o p q u x9 zA g j l e s H v w y z U zI L A B E M D G Z P Q V x34 x35) h nx=.ok True) :
  IR.run F93.t31 C N O K (F93.fr a b c f i o p q u x9 d g j l e s H v w y z U W L A B E M D G Z P Q V x34 x35) h nx=.ok True:=by
 rw [F93.t31];refine yB (λm tm h nx=>∃ zA zI,tm=(F93.fr a b c f i o p q u x9 zA g j l e s H v w y z U zI L A B E M D G Z P Q V x34 x35)/\Inv m zA h nx) ?_ hm ⟨_,_,rfl,hi⟩;rintro m tm h nx R ⟨zA,zI,rfl,hi⟩ hR;exact step m zA zI h nx R hi λm' wA wG h' nx' hlt hi'=>hR m' _ h' nx' hlt ⟨_,_,rfl,hi'⟩
theorem F93.zad:IR.run F93.t33 C N O K (F93.fr a b c f i o p q u x9 d g j l e s H v w y z U W L A B E M D G Z P Q V x34 x35) h nx =
 za .lss .int d (I 0) λv1=>K (F93.fr a b c f i o p q u x9 d g j l e s H v w y z U W v1 A B E M D G Z P Q V x34 x35) h nx:=by kernel_rfl
theorem F93.v23:Arg.ev (.t (.of 23)) ⟨(F93.fr a b c f i o p q u x9 d g j l e s H v w y z U W L A B E M D G Z P Q V x34 x35),[]⟩=L:=by kernel_rfl
theorem F93.zfu:IR.run F93.t36 C N O K (F93.fr a b c f i o p q u x9 d g j l e s H v w y z U W L A B E M D G Z P Q V x34 x35) h nx =
 zH 4 q d λv1=>zJ 4 v1 h λv2=>C.fn 112 (.of 112) [v2] h nx λv3 h4 n5=>C.fn 111 (.of 111) [q,v3] h4 n5 λv6 h7 n8=>K (F93.fr a b c f i o p q u x9 d g j l e s H v w y z U W L A B E M D G Z P Q V x34 x35) h7 n8:=by kernel_rfl
theorem F93.znb:IR.run F93.t37 C N O K (F93.fr a b c f i o p q u x9 d g j l e s H v w y z U W L A B E M D G Z P Q V x34 x35) h nx =
 sLen i λv1=>K (F93.fr a b c f i o p q u x9 d g j l e s H v w y z U W L i v1 (I 0) M D G Z P Q V x34 x35) h nx:=by kernel_rfl
theorem F93.znc:IR.run F93.t38 C N O K (F93.fr a b c f i o p q u x9 d g j l e s H v w y z U W L A B E M D G Z P Q V x34 x35) h nx =
 za .lss .int E B λv1=>K (F93.fr a b c f i o p q u x9 d g j l e s H v w y z U W L A B E v1 D G Z P Q V x34 x35) h nx:=by kernel_rfl
theorem F93.v27:Arg.ev (.t (.of 27)) ⟨(F93.fr a b c f i o p q u x9 d g j l e s H v w y z U W L A B E M D G Z P Q V x34 x35),[]⟩=M:=by kernel_rfl
theorem F93.zfv:IR.run F93.t40 C N O K (F93.fr a b c f i o p q u x9 d g j l e s H v w y z U W L A B E M D G Z P Q V x34 x35) h nx =
 zH 1 A E λv1=>zE v1 h λv2=>K (F93.fr a b c f i o p q u x9 d v2 j l e s H v w y z U W L A B E M D G Z P Q V x34 x35) h nx:=by kernel_rfl
theorem F93.zfw:IR.run F93.t41 C N O K (F93.fr a b c f i o p q u x9 d g j l e s H v w y z U W L A B E M D G Z P Q V x34 x35) h nx =
 zH 4 g d λv1=>zJ 4 v1 h λv2=>C.fn 106 (.of 106) [g,v2,q] h nx λv3 h4 n5=>K (F93.fr a b c f i o p q u x9 d g j l e s H v w y z U W L A B E M D G Z P Q V x34 x35) h4 n5:=by kernel_rfl
theorem F93.zfz:IR.run F93.t44 C N O K (F93.fr a b c f i o p q u x9 d g j l e s H v w y z U W L A B E M D G Z P Q V x34 x35) h nx =
 za .add .int E (I 1) λv1=>K (F93.fr a b c f i o p q u x9 d g j l e s H v w y z U W L A B v1 M D G Z P Q V x34 x35) h nx:=by kernel_rfl
theorem F93.qal (Inv:Nat->AV->T Blk->Pa->Prop) {m:Nat} (hm:m<N) (hi:Inv m E h nx)
  (step:∀ (m:Nat) (zB zK zN:AV) (h:T Blk) (nx:Pa) (R:Ks Prop),Inv m zK h nx->(∀ (m':Nat) (wB wH wI:AV) (h':T Blk) (nx':Pa),m'<m->Inv m' wH h' nx'->R (F93.fr a b c f i o p q u x9 d wB j l e s H v w y z U W L A B wH wI D G Z P Q V x34 x35) h' nx'=.ok True)->IR.run F93.t47 C N O R (F93.fr a b c f i o p q u x9 d zB j l e s H v w y z U W L A B zK zN D G Z P Q V x34 x35) h nx=.ok True) :
  IR.run F93.t48 C N O K (F93.fr a b c f i o p q u x9 d g j l e s H v w y z U W L A B E M D G Z P Q V x34 x35) h nx=.ok True:=by
 rw [F93.t48];refine yB (λm tm h nx=>∃ zB zK zN,tm=(F93.fr a b c f i o p q u x9 d zB j l e s H v w y z U W L A B zK zN D G Z P Q V x34 x35)/\Inv m zK h nx) ?_ hm ⟨_,_,_,rfl,hi⟩;rintro m tm h nx R ⟨zB,zK,zN,rfl,hi⟩ hR;exact step m zB zK zN h nx R hi λm' wB wH wI h' nx' hlt hi'=>hR m' _ h' nx' hlt ⟨_,_,_,rfl,hi'⟩
theorem F93.zne:IR.run F93.t51 C N O K (F93.fr a b c f i o p q u x9 d g j l e s H v w y z U W L A B E M D G Z P Q V x34 x35) h nx =
 yZ 1 1 [.ze] [(0,1,q)] h nx λv1 h2 n3=>sO 1 24 i v1 h2 n3 λv4 h5 n6=>yZ 1 1 [(I 0)] [(0,1,d)] h5 n6 λv7 h8 n9=>sO 1 8 o v7 h8 n9 λvE hD nE=>K (F93.fr a b c f v4 vE p q u x9 d g j l e s H v w y z U W L A B E M D G Z P Q V x34 x35) hD nE:=by kernel_rfl
theorem F93.zj0:IR.run F93.t61 C N O K (F93.fr a b c f i o p q u x9 d g j l e s H v w y z U W L A B E M D G Z P Q V x34 x35) h nx =
 za .add .int p (I 1) λv1=>K (F93.fr a b c f i o v1 q u x9 d g j l e s H v w y z U W L A B E M D G Z P Q V x34 x35) h nx:=by kernel_rfl
theorem F93.qam (Inv:Nat->AV->AV->AV->T Blk->Pa->Prop) {m:Nat} (hm:m<N) (hi:Inv m i o p h nx)
  (step:∀ (m:Nat) (z4 z5 z6 z7 z8 z9 zA zB zO zQ zS zF zG zI zT zU zW zK zN:AV) (h:T Blk) (nx:Pa) (R:Ks Prop),Inv m z4 z5 z6 h nx->(∀ (m':Nat) (w4 w5 w6 w7 w8 w9 wA wB wJ wK wL wE wF wG wM wN wO wH wI:AV) (h':T Blk) (nx':Pa),m'<m->Inv m' w4 w5 w6 h' nx'->R (F93.fr a b c f w4 w5 w6 w7 w8 w9 wA wB j l e s H wJ wK wL wE wF wG wM wN wO wH wI D G Z P Q V x34 x35) h' nx'=.ok True)->IR.run F93.t63 C N O R (F93.fr a b c f z4 z5 z6 z7 z8 z9 zA zB j l e s H zO zQ zS zF zG zI zT zU zW zK zN D G Z P Q V x34 x35) h nx=.ok True) :
  IR.run F93.t64 C N O K (F93.fr a b c f i o p q u x9 d g j l e s H v w y z U W L A B E M D G Z P Q V x34 x35) h nx=.ok True:=by
 rw [F93.t64];refine yB (λm tm h nx=>∃ z4 z5 z6 z7 z8 z9 zA zB zO zQ zS zF zG zI zT zU zW zK zN,tm=(F93.fr a b c f z4 z5 z6 z7 z8 z9 zA zB j l e s H zO zQ zS zF zG zI zT zU zW zK zN D G Z P Q V x34 x35)/\Inv m z4 z5 z6 h nx) ?_ hm ⟨_,_,_,_,_,_,_,_,_,_,_,_,_,_,_,_,_,_,_,rfl,hi⟩;rintro m tm h nx R ⟨z4,z5,z6,z7,z8,z9,zA,zB,zO,zQ,zS,zF,zG,zI,zT,zU,zW,zK,zN,rfl,hi⟩ hR;exact step m z4 z5 z6 z7 z8 z9 zA zB zO zQ zS zF zG zI zT zU zW zK zN h nx R hi λm' w4 w5 w6 w7 w8 w9 wA wB wJ wK wL wE wF wG wM wN wO wH wI h' nx' hlt hi'=>hR m' _ h' nx' hlt ⟨_,_,_,_,_,_,_,_,_,_,_,_,_,_,_,_,_,_,_,rfl,hi'⟩
theorem F93.znp:IR.run F93.t67 C N O K (F93.fr a b c f i o p q u x9 d g j l e s H v w y z U W L A B E M D G Z P Q V x34 x35) h nx =
 yK [.ze,.ze] h nx λv1 h2 n3=>K (F93.fr a b c f i o p q u x9 d g v1 l e s H v w y z U W L A B E M D G Z P Q V x34 x35) h2 n3:=by kernel_rfl
theorem F93.qan:IR.run F93.t68 C N O K (F93.fr a b c f i o p q u x9 d g j l e s H v w y z U W L A B E M D G Z P Q V x34 x35) h nx =
 K (F93.fr a b c f i o p q u x9 d g j l e s H v w y z U W L A B E M f (I 0) Z P Q V x34 x35) h nx:=by kernel_rfl
theorem F93.qao:IR.run F93.t69 C N O K (F93.fr a b c f i o p q u x9 d g j l e s H v w y z U W L A B E M D G Z P Q V x34 x35) h nx =
 za .lss .int G D λv1=>K (F93.fr a b c f i o p q u x9 d g j l e s H v w y z U W L A B E M D G v1 P Q V x34 x35) h nx:=by kernel_rfl
theorem F93.v30:Arg.ev (.t (.of 30)) ⟨(F93.fr a b c f i o p q u x9 d g j l e s H v w y z U W L A B E M D G Z P Q V x34 x35),[]⟩=Z:=by kernel_rfl
theorem F93.znq:IR.run F93.t71 C N O K (F93.fr a b c f i o p q u x9 d g j l e s H v w y z U W L A B E M D G Z P Q V x34 x35) h nx =
 K (F93.fr a b c f i o p q u x9 d g j G e s H v w y z U W L A B E M D G Z P Q V x34 x35) h nx:=by kernel_rfl
theorem F93.qap:IR.run F93.t72 C N O K (F93.fr a b c f i o p q u x9 d g j l e s H v w y z U W L A B E M D G Z P Q V x34 x35) h nx =
 C.fn 182 (.of 182) [o,l] h nx λv1 h2 n3=>K (F93.fr a b c f i o p q u x9 d g j l e s H v w y z U W L A B E M D G Z v1 Q V x34 x35) h2 n3:=by kernel_rfl
theorem F93.v31:Arg.ev (.t (.of 31)) ⟨(F93.fr a b c f i o p q u x9 d g j l e s H v w y z U W L A B E M D G Z P Q V x34 x35),[]⟩=P:=by kernel_rfl
theorem F93.qaq:IR.run F93.t75 C N O K (F93.fr a b c f i o p q u x9 d g j l e s H v w y z U W L A B E M D G Z P Q V x34 x35) h nx =
 C.fn 105 (.of 105) [f] h nx λv1 h2 n3=>K (F93.fr a b c f i o p q u x9 d g j l v1 s H v w y z U W L A B E M D G Z P Q V x34 x35) h2 n3:=by kernel_rfl
theorem F93.qar:IR.run F93.t76 C N O K (F93.fr a b c f i o p q u x9 d g j l e s H v w y z U W L A B E M D G Z P Q V x34 x35) h nx =
 C.fn 96 (.of 96) [(I 1)] h nx λv1 h2 n3=>zH 4 e l λv4=>zV 4 v4 v1 h2 n3 λv5 h6 n7=>K (F93.fr a b c f i o p q u x9 d g j l e s H v w y z U W L A B E M D G Z P Q V x34 x35) h6 n7:=by kernel_rfl
theorem F93.znr:IR.run F93.t77 C N O K (F93.fr a b c f i o p q u x9 d g j l e s H v w y z U W L A B E M D G Z P Q V x34 x35) h nx =
 sLen o λv1=>K (F93.fr a b c f i o p q u x9 d g j l e s H v w y z U W L A B E M D G Z P o v1 (I 0) x35) h nx:=by kernel_rfl
theorem F93.qas:IR.run F93.t78 C N O K (F93.fr a b c f i o p q u x9 d g j l e s H v w y z U W L A B E M D G Z P Q V x34 x35) h nx =
 za .lss .int x34 V λv1=>K (F93.fr a b c f i o p q u x9 d g j l e s H v w y z U W L A B E M D G Z P Q V x34 v1) h nx:=by kernel_rfl
theorem F93.v35:Arg.ev (.t (.of 35)) ⟨(F93.fr a b c f i o p q u x9 d g j l e s H v w y z U W L A B E M D G Z P Q V x34 x35),[]⟩=x35:=by kernel_rfl
theorem F93.qat:IR.run F93.t80 C N O K (F93.fr a b c f i o p q u x9 d g j l e s H v w y z U W L A B E M D G Z P Q V x34 x35) h nx =
 zH 1 Q x34 λv1=>zE v1 h λv2=>K (F93.fr a b c f i o p q u x9 d g j l e x34 v2 v w y z U W L A B E M D G Z P Q V x34 x35) h nx:=by kernel_rfl
theorem F93.qau:IR.run F93.t81 C N O K (F93.fr a b c f i o p q u x9 d g j l e s H v w y z U W L A B E M D G Z P Q V x34 x35) h nx =
 zH 1 i s λv1=>zE v1 h λv2=>zH 4 v2 l λv3=>zJ 4 v3 h λv4=>C.fn 107 (.of 107) [v4] h nx λv5 h6 n7=>zH 4 e H λv8=>zV 4 v8 v5 h6 n7 λv9 hB nC=>K (F93.fr a b c f i o p q u x9 d g j l e s H v w y z U W L A B E M D G Z P Q V x34 x35) hB nC:=by kernel_rfl
theorem F93.qav:IR.run F93.t84 C N O K (F93.fr a b c f i o p q u x9 d g j l e s H v w y z U W L A B E M D G Z P Q V x34 x35) h nx =
 za .add .int x34 (I 1) λv1=>K (F93.fr a b c f i o p q u x9 d g j l e s H v w y z U W L A B E M D G Z P Q V v1 x35) h nx:=by kernel_rfl
theorem F93.qaw (Inv:Nat->AV->T Blk->Pa->Prop) {m:Nat} (hm:m<N) (hi:Inv m x34 h nx)
  (step:∀ (m:Nat) (zX zY zZ z35:AV) (h:T Blk) (nx:Pa) (R:Ks Prop),Inv m zZ h nx->(∀ (m':Nat) (wP wQ wR wS:AV) (h':T Blk) (nx':Pa),m'<m->Inv m' wR h' nx'->R (F93.fr a b c f i o p q u x9 d g j l e wP wQ v w y z U W L A B E M D G Z P Q V wR wS) h' nx'=.ok True)->IR.run F93.t87 C N O R (F93.fr a b c f i o p q u x9 d g j l e zX zY v w y z U W L A B E M D G Z P Q V zZ z35) h nx=.ok True) :
  IR.run F93.t88 C N O K (F93.fr a b c f i o p q u x9 d g j l e s H v w y z U W L A B E M D G Z P Q V x34 x35) h nx=.ok True:=by
 rw [F93.t88];refine yB (λm tm h nx=>∃ zX zY zZ z35,tm=(F93.fr a b c f i o p q u x9 d g j l e zX zY v w y z U W L A B E M D G Z P Q V zZ z35)/\Inv m zZ h nx) ?_ hm ⟨_,_,_,_,rfl,hi⟩;rintro m tm h nx R ⟨zX,zY,zZ,z35,rfl,hi⟩ hR;exact step m zX zY zZ z35 h nx R hi λm' wP wQ wR wS h' nx' hlt hi'=>hR m' _ h' nx' hlt ⟨_,_,_,_,rfl,hi'⟩
theorem F93.zob:IR.run F93.t91 C N O K (F93.fr a b c f i o p q u x9 d g j l e s H v w y z U W L A B E M D G Z P Q V x34 x35) h nx =
 zM 0 j λv1=>zE v1 h λv2=>sChk ((gB (fM 1 [(I 0)]) [(0,1,l)]).isSome&&true) (zM 1 j λv3=>zE v3 h λv4=>sChk ((gB (fM 1 [.ze]) [(0,1,e)]).isSome&&true) (yZ 1 1 [(I 0)] [(0,1,l)] h nx λv5 h6 n7=>zL e e ((zE v3 h6 λv38=>zL v38 v4 ((zM 1 j λv37=>zL v37 v3 (zL l l ((zE v1 h6 λvH=>zL vH v2 ((zM 0 j λvI=>zL vI v1 (sO 1 8 v2 v5 h6 n7 λv8 h9 nA=>zL e e ((zE v3 h9 λvK=>zL vK v4 ((zM 1 j λvL=>zL vL v3 (zL l l ((zE v1 h9 λvM=>zL vM v2 ((zM 0 j λvN=>zL vN v1 (zM 0 j λvC=>yZ 1 1 [.ze] [(0,1,e)] h9 nA λvD hA nB=>(zM 0 j λvO=>zL vO vC ((zE v3 hA λvP=>zL vP v4 ((zM 1 j λvV=>zL vV v3 (zL l l ((zE v1 hA λvU=>zL vU v2 ((zM 0 j λvT=>zL vT v1 (sO 1 24 v4 vD hA nB λvB hC nD=>(zM 0 j λvS=>zL vS vC (zV 1 vC v8 hC nD λvX hL nM=>zM 1 j λvZ=>zV 1 vZ vB hL nM λvR hH nI=>K (F93.fr a b c f i o p q u x9 d g j l e s H v w y z U W L A B E M D G Z P Q V x34 x35) hH nI))))))))))))))))))))))))))))))))))):=by kernel_rfl
theorem F93.zv2:IR.run F93.t98 C N O K (F93.fr a b c f i o p q u x9 d g j l e s H v w y z U W L A B E M D G Z P Q V x34 x35) h nx =
 za .add .int G (I 1) λv1=>K (F93.fr a b c f i o p q u x9 d g j l e s H v w y z U W L A B E M D v1 Z P Q V x34 x35) h nx:=by kernel_rfl
theorem F93.zx1 (Inv:Nat->AV->T Blk->Pa->Prop) {m:Nat} (hm:m<N) (hi:Inv m G h nx)
  (step:∀ (m:Nat) (zD z14 zX zY z29 z30 z31 z32 z33 zZ z35:AV) (h:T Blk) (nx:Pa) (R:Ks Prop),Inv m z29 h nx->(∀ (m':Nat) (wD wT wP wQ wU wV wW wX wY wR wS:AV) (h':T Blk) (nx':Pa),m'<m->Inv m' wU h' nx'->R (F93.fr a b c f i o p q u x9 d g j wD wT wP wQ v w y z U W L A B E M D wU wV wW wX wY wR wS) h' nx'=.ok True)->IR.run F93.t101 C N O R (F93.fr a b c f i o p q u x9 d g j zD z14 zX zY v w y z U W L A B E M D z29 z30 z31 z32 z33 zZ z35) h nx=.ok True) :
  IR.run F93.t102 C N O K (F93.fr a b c f i o p q u x9 d g j l e s H v w y z U W L A B E M D G Z P Q V x34 x35) h nx=.ok True:=by
 rw [F93.t102];refine yB (λm tm h nx=>∃ zD z14 zX zY z29 z30 z31 z32 z33 zZ z35,tm=(F93.fr a b c f i o p q u x9 d g j zD z14 zX zY v w y z U W L A B E M D z29 z30 z31 z32 z33 zZ z35)/\Inv m z29 h nx) ?_ hm ⟨_,_,_,_,_,_,_,_,_,_,_,rfl,hi⟩;rintro m tm h nx R ⟨zD,z14,zX,zY,z29,z30,z31,z32,z33,zZ,z35,rfl,hi⟩ hR;exact step m zD z14 zX zY z29 z30 z31 z32 z33 zZ z35 h nx R hi λm' wD wT wP wQ wU wV wW wX wY wR wS h' nx' hlt hi'=>hR m' _ h' nx' hlt ⟨_,_,_,_,_,_,_,_,_,_,_,rfl,hi'⟩
theorem F93.zx2:IR.run F93.t105 C N O K (F93.fr a b c f i o p q u x9 d g j l e s H v w y z U W L A B E M D G Z P Q V x34 x35) h nx =
 zJ 2 j h λv1=>zV 2 c v1 h nx λv2 h3 n4=>K (F93.fr a b c f i o p q u x9 d g j l e s H v w y z U W L A B E M D G Z P Q V x34 x35) h3 n4:=by kernel_rfl
theorem F93.go:zR tbl N C (.of 93) [a0] h nx K0=IR.run F93.t113 C N (fnO F93.res K0) (zi F93.res K0) (F93.fr a0 .u .u .u .u .u .u .u .u .u .u .u .u .u .u .u .u .u .u .u .u .u .u .u .u .u .u .u .u .u .u .u .u .u .u .u) h nx:=yC (F:=F93) (by kernel_rfl) (λ_=>by kernel_rfl) (by kernel_rfl)
theorem F93.ret:zi F93.res K0 (F93.fr a b c f i o p q u x9 d g j l e s H v w y z U W L A B E M D G Z P Q V x34 x35) h nx=zJ 2 c h λv1=>K0 v1 h nx:=by kernel_rfl
theorem F36.zy:IR.run F36.t0 C N O K (F36.fr a b c f i) h nx =
 K (F36.fr a .ze c f i) h nx:=by kernel_rfl
theorem F36.zx:IR.run F36.t1 C N O K (F36.fr a b c f i) h nx =
 K (F36.fr a b .ze f i) h nx:=by kernel_rfl
theorem F36.je:IR.run F36.t2 C N O K (F36.fr a b c f i) h nx =
 K (F36.fr a b c (I 0) i) h nx:=by kernel_rfl
theorem F36.pq:IR.run F36.t3 C N O K (F36.fr a b c f i) h nx =
 za .lss .int f a λv1=>K (F36.fr a b c f v1) h nx:=by kernel_rfl
theorem F36.v4:Arg.ev (.t (.of 4)) ⟨(F36.fr a b c f i),[]⟩=i:=by kernel_rfl
theorem F36.qi:IR.run F36.t6 C N O K (F36.fr a b c f i) h nx =
 yZ 1 1 [(.str [])] [(0,1,(.str [48]))] h nx λv1 h2 n3=>sO 1 16 c v1 h2 n3 λv4 h5 n6=>K (F36.fr a b v4 f i) h5 n6:=by kernel_rfl
theorem F36.fH:IR.run F36.t8 C N O K (F36.fr a b c f i) h nx =
 za .add .int f (I 1) λv1=>K (F36.fr a b c v1 i) h nx:=by kernel_rfl
theorem F36.zfx (Inv:Nat->AV->AV->T Blk->Pa->Prop) {m:Nat} (hm:m<N) (hi:Inv m c f h nx)
  (step:∀ (m:Nat) (z2 z3 z4:AV) (h:T Blk) (nx:Pa) (R:Ks Prop),Inv m z2 z3 h nx->(∀ (m':Nat) (w2 w3 w4:AV) (h':T Blk) (nx':Pa),m'<m->Inv m' w2 w3 h' nx'->R (F36.fr a b w2 w3 w4) h' nx'=.ok True)->IR.run F36.t10 C N O R (F36.fr a b z2 z3 z4) h nx=.ok True) :
  IR.run F36.t11 C N O K (F36.fr a b c f i) h nx=.ok True:=by
 rw [F36.t11];refine yB (λm tm h nx=>∃ z2 z3 z4,tm=(F36.fr a b z2 z3 z4)/\Inv m z2 z3 h nx) ?_ hm ⟨_,_,_,rfl,hi⟩;rintro m tm h nx R ⟨z2,z3,z4,rfl,hi⟩ hR;exact step m z2 z3 z4 h nx R hi λm' w2 w3 w4 h' nx' hlt hi'=>hR m' _ h' nx' hlt ⟨_,_,_,rfl,hi'⟩
theorem F36.sD:IR.run F36.t14 C N O K (F36.fr a b c f i) h nx =
 K (F36.fr a c c f i) h nx:=by kernel_rfl
theorem F36.go:zR tbl N C (.of 36) [a0] h nx K0=IR.run F36.t18 C N (fnO F36.res K0) (zi F36.res K0) (F36.fr a0 .u .u .u .u) h nx:=yC (F:=F36) (by kernel_rfl) (λ_=>by kernel_rfl) (by kernel_rfl)
theorem F36.ret:zi F36.res K0 (F36.fr a b c f i) h nx=K0 b h nx:=by kernel_rfl
theorem F44.zy:IR.run F44.t0 C N O K (F44.fr a b c f i o p) h nx =
 xw a h nx λv1 h2 n3=>K (F44.fr a b v1 (.str []) i o p) h2 n3:=by kernel_rfl
theorem F44.zx:IR.run F44.t1 C N O K (F44.fr a b c f i o p) h nx =
 K (F44.fr a b c f (.str [48]) o p) h nx:=by kernel_rfl
theorem F44.je:IR.run F44.t2 C N O K (F44.fr a b c f i o p) h nx =
 K (F44.fr a b c f i (I 0) p) h nx:=by kernel_rfl
theorem F44.pq:IR.run F44.t3 C N O K (F44.fr a b c f i o p) h nx =
 zM 1 c λv1=>zE v1 h λv2=>zH 1 v2 (I 0) λv3=>zE v3 h λv4=>sLen v4 λv5=>za .lss .int o v5 λv6=>K (F44.fr a b c f i o v6) h nx:=by kernel_rfl
theorem F44.v6:Arg.ev (.t (.of 6)) ⟨(F44.fr a b c f i o p),[]⟩=p:=by kernel_rfl
theorem F44.qi:IR.run F44.t6 C N O K tm h nx=zP F44.aZ C ⟨tm,[]⟩ h nx (λtm h nx=>K tm.v h nx):=yT ..
theorem F44.eu:zP (F44.aJ r) C ⟨(F44.fr a b c f i o p),[]⟩ h nx Kt =
 zM 1 c λv1=>zE v1 h λv2=>zH 1 v2 (I 0) λv3=>zE v3 h λv4=>zH 1 v4 o λv5=>zP r C ⟨(F44.fr a b c f i o p),v5::o::v4::v3::v2::v1::b::i::[]⟩ h nx Kt:=by kernel_rfl
theorem F44.aj:zP (F44.aK r) C ⟨(F44.fr a b c f i o p),s0::s1::s2::s3::s4::s5::s6::s7::[]⟩ h nx Kt =
 zE s0 h λv1=>zH 1 s6 v1 λv2=>zE v2 h λv3=>C.fn 40 (.of 40) [s7,v3] h nx λv4 h5 n6=>zP r C ⟨(F44.fr a b c f i o p),v4::v3::v2::v1::s0::s1::s2::s3::s4::s5::s6::s7::[]⟩ h5 n6 Kt:=by kernel_rfl
theorem F44.oN:zP (F44.zae []) C ⟨(F44.fr a b c f i o p),s0::sT⟩ h nx Kt =
 Kt ⟨(F44.fr a b c f s0 o p),s0::sT⟩ h nx:=by kernel_rfl
theorem F44.fH:IR.run F44.t8 C N O K (F44.fr a b c f i o p) h nx =
 za .add .int o (I 1) λv1=>K (F44.fr a b c f i v1 p) h nx:=by kernel_rfl
theorem F44.zfx (Inv:Nat->AV->AV->T Blk->Pa->Prop) {m:Nat} (hm:m<N) (hi:Inv m i o h nx)
  (step:∀ (m:Nat) (z4 z5 z6:AV) (h:T Blk) (nx:Pa) (R:Ks Prop),Inv m z4 z5 h nx->(∀ (m':Nat) (w4 w5 w6:AV) (h':T Blk) (nx':Pa),m'<m->Inv m' w4 w5 h' nx'->R (F44.fr a b c f w4 w5 w6) h' nx'=.ok True)->IR.run F44.t10 C N O R (F44.fr a b c f z4 z5 z6) h nx=.ok True) :
  IR.run F44.t11 C N O K (F44.fr a b c f i o p) h nx=.ok True:=by
 rw [F44.t11];refine yB (λm tm h nx=>∃ z4 z5 z6,tm=(F44.fr a b c f z4 z5 z6)/\Inv m z4 z5 h nx) ?_ hm ⟨_,_,_,rfl,hi⟩;rintro m tm h nx R ⟨z4,z5,z6,rfl,hi⟩ hR;exact step m z4 z5 z6 h nx R hi λm' w4 w5 w6 h' nx' hlt hi'=>hR m' _ h' nx' hlt ⟨_,_,_,rfl,hi'⟩
theorem F44.sD:IR.run F44.t14 C N O K (F44.fr a b c f i o p) h nx =
 K (F44.fr a b c i i o p) h nx:=by kernel_rfl
theorem F44.go:zR tbl N C (.of 44) [a0,a1] h nx K0=IR.run F44.t18 C N (fnO F44.res K0) (zi F44.res K0) (F44.fr a0 a1 .u .u .u .u .u) h nx:=yC (F:=F44) (by kernel_rfl) (λ_=>by kernel_rfl) (by kernel_rfl)
theorem F44.ret:zi F44.res K0 (F44.fr a b c f i o p) h nx=K0 f h nx:=by kernel_rfl
theorem F38.zy:IR.run F38.t0 C N O K (F38.fr a b c f i o p q u x9 d g j l e) h nx =
 xw a h nx λv1 h2 n3=>K (F38.fr a b v1 (.bool false) i o p q u x9 d g j l e) h2 n3:=by kernel_rfl
theorem F38.zx:IR.run F38.t1 C N O K (F38.fr a b c f i o p q u x9 d g j l e) h nx =
 zM 1 c λv1=>zE v1 h λv2=>sLen v2 λv3=>K (F38.fr a b c f i o p v3 (I 0) x9 d g j l e) h nx:=by kernel_rfl
theorem F38.je:IR.run F38.t2 C N O K (F38.fr a b c f i o p q u x9 d g j l e) h nx =
 za .lss .int u q λv1=>K (F38.fr a b c f i o p q u v1 d g j l e) h nx:=by kernel_rfl
theorem F38.v9:Arg.ev (.t (.of 9)) ⟨(F38.fr a b c f i o p q u x9 d g j l e),[]⟩=x9:=by kernel_rfl
theorem F38.fJ:IR.run F38.t4 C N O K (F38.fr a b c f i o p q u x9 d g j l e) h nx =
 K (F38.fr a b c f u o p q u x9 d g j l e) h nx:=by kernel_rfl
theorem F38.fG:IR.run F38.t5 C N O K (F38.fr a b c f i o p q u x9 d g j l e) h nx =
 K (F38.fr a b c f i (.str [48]) p q u x9 d g j l e) h nx:=by kernel_rfl
theorem F38.qi:IR.run F38.t6 C N O K (F38.fr a b c f i o p q u x9 d g j l e) h nx =
 zM 1 c λv1=>zE v1 h λv2=>zH 1 v2 i λv3=>zE v3 h λv4=>sLen v4 λv5=>K (F38.fr a b c f i o p q u x9 v4 v5 (I 0) l e) h nx:=by kernel_rfl
theorem F38.fC:IR.run F38.t7 C N O K (F38.fr a b c f i o p q u x9 d g j l e) h nx =
 za .lss .int j g λv1=>K (F38.fr a b c f i o p q u x9 d g j v1 e) h nx:=by kernel_rfl
theorem F38.v13:Arg.ev (.t (.of 13)) ⟨(F38.fr a b c f i o p q u x9 d g j l e),[]⟩=l:=by kernel_rfl
theorem F38.fK:IR.run F38.t9 C N O K (F38.fr a b c f i o p q u x9 d g j l e) h nx =
 zH 1 d j λv1=>zE v1 h λv2=>K (F38.fr a b c f i o v2 q u x9 d g j l e) h nx:=by kernel_rfl
theorem F38.fT:IR.run F38.t10 C N O K (F38.fr a b c f i o p q u x9 d g j l e) h nx =
 zH 1 b p λv1=>zE v1 h λv2=>C.fn 40 (.of 40) [o,v2] h nx λv3 h4 n5=>K (F38.fr a b c f i v3 p q u x9 d g j l e) h4 n5:=by kernel_rfl
theorem F38.fU:IR.run F38.t13 C N O K (F38.fr a b c f i o p q u x9 d g j l e) h nx =
 za .add .int j (I 1) λv1=>K (F38.fr a b c f i o p q u x9 d g v1 l e) h nx:=by kernel_rfl
theorem F38.qax (Inv:Nat->AV->AV->T Blk->Pa->Prop) {m:Nat} (hm:m<N) (hi:Inv m o j h nx)
  (step:∀ (m:Nat) (z5 z6 zC zD:AV) (h:T Blk) (nx:Pa) (R:Ks Prop),Inv m z5 zC h nx->(∀ (m':Nat) (w5 w6 wC wD:AV) (h':T Blk) (nx':Pa),m'<m->Inv m' w5 wC h' nx'->R (F38.fr a b c f i w5 w6 q u x9 d g wC wD e) h' nx'=.ok True)->IR.run F38.t16 C N O R (F38.fr a b c f i z5 z6 q u x9 d g zC zD e) h nx=.ok True) :
  IR.run F38.t17 C N O K (F38.fr a b c f i o p q u x9 d g j l e) h nx=.ok True:=by
 rw [F38.t17];refine yB (λm tm h nx=>∃ z5 z6 zC zD,tm=(F38.fr a b c f i z5 z6 q u x9 d g zC zD e)/\Inv m z5 zC h nx) ?_ hm ⟨_,_,_,_,rfl,hi⟩;rintro m tm h nx R ⟨z5,z6,zC,zD,rfl,hi⟩ hR;exact step m z5 z6 zC zD h nx R hi λm' w5 w6 wC wD h' nx' hlt hi'=>hR m' _ h' nx' hlt ⟨_,_,_,_,rfl,hi'⟩
theorem F38.ah:IR.run F38.t20 C N O K (F38.fr a b c f i o p q u x9 d g j l e) h nx =
 zJ 2 c h λv1=>C.fn 44 (.of 44) [v1,b] h nx λv2 h3 n4=>za .neq .str o v2 λv5=>K (F38.fr a b c f i o p q u x9 d g j l v5) h3 n4:=by kernel_rfl
theorem F38.zm3:IR.run F38.t21 C N O K (F38.fr a b c f i o p q u x9 d g j l e) h nx =
 K (F38.fr a b c (.bool false) i o p q u x9 d g j l e) h nx:=by kernel_rfl
theorem F38.v14:Arg.ev (.t (.of 14)) ⟨(F38.fr a b c f i o p q u x9 d g j l e),[]⟩=e:=by kernel_rfl
theorem F38.zn1:IR.run F38.t29 C N O K (F38.fr a b c f i o p q u x9 d g j l e) h nx =
 za .add .int u (I 1) λv1=>K (F38.fr a b c f i o p q v1 x9 d g j l e) h nx:=by kernel_rfl
theorem F38.qay (Inv:Nat->AV->T Blk->Pa->Prop) {m:Nat} (hm:m<N) (hi:Inv m u h nx)
  (step:∀ (m:Nat) (z3 z4 z5 z6 z8 z9 zA zB zC zD z14:AV) (h:T Blk) (nx:Pa) (R:Ks Prop),Inv m z8 h nx->(∀ (m':Nat) (w3 w4 w5 w6 w8 w9 wA wB wC wD wT:AV) (h':T Blk) (nx':Pa),m'<m->Inv m' w8 h' nx'->R (F38.fr a b c w3 w4 w5 w6 q w8 w9 wA wB wC wD wT) h' nx'=.ok True)->IR.run F38.t32 C N O R (F38.fr a b c z3 z4 z5 z6 q z8 z9 zA zB zC zD z14) h nx=.ok True) :
  IR.run F38.t33 C N O K (F38.fr a b c f i o p q u x9 d g j l e) h nx=.ok True:=by
 rw [F38.t33];refine yB (λm tm h nx=>∃ z3 z4 z5 z6 z8 z9 zA zB zC zD z14,tm=(F38.fr a b c z3 z4 z5 z6 q z8 z9 zA zB zC zD z14)/\Inv m z8 h nx) ?_ hm ⟨_,_,_,_,_,_,_,_,_,_,_,rfl,hi⟩;rintro m tm h nx R ⟨z3,z4,z5,z6,z8,z9,zA,zB,zC,zD,z14,rfl,hi⟩ hR;exact step m z3 z4 z5 z6 z8 z9 zA zB zC zD z14 h nx R hi λm' w3 w4 w5 w6 w8 w9 wA wB wC wD wT h' nx' hlt hi'=>hR m' _ h' nx' hlt ⟨_,_,_,_,_,_,_,_,_,_,_,rfl,hi'⟩
theorem F38.zfu:IR.run F38.t36 C N O K (F38.fr a b c f i o p q u x9 d g j l e) h nx =
 K (F38.fr a b c (.bool true) i o p q u x9 d g j l e) h nx:=by kernel_rfl
theorem F38.go:zR tbl N C (.of 38) [a0,a1] h nx K0=IR.run F38.t39 C N (fnO F38.res K0) (zi F38.res K0) (F38.fr a0 a1 .u .u .u .u .u .u .u .u .u .u .u .u .u) h nx:=yC (F:=F38) (by kernel_rfl) (λ_=>by kernel_rfl) (by kernel_rfl)
theorem F38.ret:zi F38.res K0 (F38.fr a b c f i o p q u x9 d g j l e) h nx=K0 f h nx:=by kernel_rfl
theorem uj.zy:IR.run uj.t0 C N O K (uj.fr a b c f i) h nx =
 xw a h nx λv1 h2 n3=>K (uj.fr a v1 (I 0) f i) h2 n3:=by kernel_rfl
theorem uj.zx:IR.run uj.t1 C N O K (uj.fr a b c f i) h nx =
 zJ 2 b h λv1=>C.fn 249 (.of 249) [v1] h nx λv2 h3 n4=>cu 0 v2 λv5=>cu 1 v2 λv6=>K (uj.fr a b c v6 i) h3 n4:=by kernel_rfl
theorem uj.je:IR.run uj.t2 C N O K (uj.fr a b c f i) h nx =
 sLen f λv1=>za .eql .int v1 (I 0) λv2=>K (uj.fr a b c f v2) h nx:=by kernel_rfl
theorem uj.pq:IR.run uj.t3 C N O K (uj.fr a b c f i) h nx =
 K (uj.fr a b (I 0) f i) h nx:=by kernel_rfl
theorem uj.v4:Arg.ev (.t (.of 4)) ⟨(uj.fr a b c f i),[]⟩=i:=by kernel_rfl
theorem uj.fC:IR.run uj.t7 C N O K tm h nx=zP uj.aZ C ⟨tm,[]⟩ h nx (λtm h nx=>K tm.v h nx):=yT ..
theorem uj.eu:zP (uj.aJ r) C ⟨(uj.fr a b c f i),[]⟩ h nx Kt =
 sLen f λv1=>za .sub .int v1 (I 1) λv2=>za .mul .int (I 64) v2 λv3=>sLen f λv4=>za .sub .int v4 (I 1) λv5=>zP r C ⟨(uj.fr a b c f i),v5::v4::f::f::v3::v2::v1::f::[]⟩ h nx Kt:=by kernel_rfl
theorem uj.aj:zP (uj.aK r) C ⟨(uj.fr a b c f i),s0::s1::s2::s3::sT⟩ h nx Kt =
 zH 1 s3 s0 λv1=>zE v1 h λv2=>C.fn 312 (.of 312) [v2] h nx λv3 h4 n5=>zP r C ⟨(uj.fr a b c f i),v3::v2::v1::s0::s1::s2::s3::sT⟩ h4 n5 Kt:=by kernel_rfl
theorem uj.oN:zP (uj.zae []) C ⟨(uj.fr a b c f i),s0::s1::s2::s3::s4::s5::s6::s7::sT⟩ h nx Kt =
 za .add .int s7 s0 λv1=>Kt ⟨(uj.fr a b v1 f i),v1::s0::s1::s2::s3::s4::s5::s6::s7::sT⟩ h nx:=by kernel_rfl
theorem uj.go:zR tbl N C (.of 285) [a0] h nx K0=IR.run uj.t11 C N (fnO uj.res K0) (zi uj.res K0) (uj.fr a0 .u .u .u .u) h nx:=yC (F:=uj) (by kernel_rfl) (λ_=>by kernel_rfl) (by kernel_rfl)
theorem uj.ret:zi uj.res K0 (uj.fr a b c f i) h nx=K0 c h nx:=by kernel_rfl
theorem qc.zy:IR.run qc.t0 C N O K (qc.fr a b c) h nx =
 xw a h nx λv1 h2 n3=>K (qc.fr a v1 (.bool false)) h2 n3:=by kernel_rfl
theorem qc.zx:IR.run qc.t1 C N O K tm h nx=zP qc.si C ⟨tm,[]⟩ h nx (λtm h nx=>K tm.v h nx):=yT ..
theorem qc.sj:zP (qc.rQ r) C ⟨(qc.fr a b c),[]⟩ h nx Kt =
 zJ 2 b h λv1=>C.fn 285 (.of 285) [v1] h nx λv2 h3 n4=>zP r C ⟨(qc.fr a b c),v2::v1::[]⟩ h3 n4 Kt:=by kernel_rfl
theorem qc.fZ:zP (qc.rR r) C ⟨(qc.fr a b c),s0::sT⟩ h nx Kt =
 za .gtr .int s0 (I 1800) λv1=>sG v1 true (λk=>zJ 2 b h k) λv2=>sGW v1 true (λk=>C.fn 188 (.of 188) [v2] h nx k) h nx λv3 h4 n5=>zP r C ⟨(qc.fr a b c),v3::v2::v1::v1::s0::sT⟩ h4 n5 Kt:=by kernel_rfl
theorem qc.eH:zP (qc.zaf r) C ⟨(qc.fr a b c),s0::s1::s2::sT⟩ h nx Kt =
 sGW s2 true (λk=>C.fn 286 (.of 286) [s0,(.str [45])] h nx k) h nx λv1 h2 n3=>zP r C ⟨(qc.fr a b c),v1::s0::s1::s2::sT⟩ h2 n3 Kt:=by kernel_rfl
theorem qc.zam:zP (qc.zf1 []) C ⟨(qc.fr a b c),s0::s1::s2::s3::sT⟩ h nx Kt =
 sG s3 true (λk=>uH s0 k) λv1=>sG s3 true (λk=>za .gtr .int v1 (I 600) k) λv2=>yF s3 v2 (.bool false) λv3=>Kt ⟨(qc.fr a b v3),v3::v2::v1::s0::s1::s2::s3::sT⟩ h nx:=by kernel_rfl
theorem qc.go:zR tbl N C (.of 246) [a0] h nx K0=IR.run qc.t3 C N (fnO qc.res K0) (zi qc.res K0) (qc.fr a0 .u .u) h nx:=yC (F:=qc) (by kernel_rfl) (λ_=>by kernel_rfl) (by kernel_rfl)
theorem qc.ret:zi qc.res K0 (qc.fr a b c) h nx=K0 c h nx:=by kernel_rfl
theorem rH.zy:IR.run rH.t0 C N O K (rH.fr a b c) h nx =
 xw a h nx λv1 h2 n3=>K (rH.fr a v1 (.bool false)) h2 n3:=by kernel_rfl
theorem rH.zx:IR.run rH.t1 C N O K (rH.fr a b c) h nx =
 zM 0 b λv1=>zJ 2 v1 h λv2=>C.fn 246 (.of 246) [v2] h nx λv3 h4 n5=>sG v3 false (λk=>zM 2 b k) λv6=>sG v3 false (λk=>zJ 2 v6 h4 k) λv7=>sGW v3 false (λk=>C.fn 246 (.of 246) [v7] h4 n5 k) h4 n5 λv8 h9 nA=>yF v3 (.bool true) v8 λvC=>K (rH.fr a b vC) h9 nA:=by kernel_rfl
theorem rH.go:zR tbl N C (.of 180) [a0] h nx K0=IR.run rH.t3 C N (fnO rH.res K0) (zi rH.res K0) (rH.fr a0 .u .u) h nx:=yC (F:=rH) (by kernel_rfl) (λ_=>by kernel_rfl) (by kernel_rfl)
theorem rH.ret:zi rH.res K0 (rH.fr a b c) h nx=K0 c h nx:=by kernel_rfl
theorem uh.zy:IR.run uh.t0 C N O K (uh.fr a b c f i o p q) h nx =
 K (uh.fr a b (I 0) f i o p q) h nx:=by kernel_rfl
theorem uh.zx:IR.run uh.t1 C N O K (uh.fr a b c f i o p q) h nx =
 sLen a λv1=>K (uh.fr a b c f v1 (I 0) p q) h nx:=by kernel_rfl
theorem uh.je:IR.run uh.t2 C N O K (uh.fr a b c f i o p q) h nx =
 za .lss .int o i λv1=>K (uh.fr a b c f i o v1 q) h nx:=by kernel_rfl
theorem uh.v6:Arg.ev (.t (.of 6)) ⟨(uh.fr a b c f i o p q),[]⟩=p:=by kernel_rfl
theorem uh.fJ:IR.run uh.t4 C N O K (uh.fr a b c f i o p q) h nx =
 K (uh.fr a b c o i o p q) h nx:=by kernel_rfl
theorem uh.fG:IR.run uh.t5 C N O K (uh.fr a b c f i o p q) h nx =
 zH 4 a f λv1=>zJ 4 v1 h λv2=>zal C b [v2] h nx λv3 h4 n5=>K (uh.fr a b c f i o p v3) h4 n5:=by kernel_rfl
theorem uh.v7:Arg.ev (.t (.of 7)) ⟨(uh.fr a b c f i o p q),[]⟩=q:=by kernel_rfl
theorem uh.rP:IR.run uh.t12 C N O K (uh.fr a b c f i o p q) h nx =
 za .add .int o (I 1) λv1=>K (uh.fr a b c f i v1 p q) h nx:=by kernel_rfl
theorem uh.aL (Inv:Nat->AV->T Blk->Pa->Prop) {m:Nat} (hm:m<N) (hi:Inv m o h nx)
  (step:∀ (m:Nat) (z2 z3 z5 z6 z7:AV) (h:T Blk) (nx:Pa) (R:Ks Prop),Inv m z5 h nx->(∀ (m':Nat) (w2 w3 w5 w6 w7:AV) (h':T Blk) (nx':Pa),m'<m->Inv m' w5 h' nx'->R (uh.fr a b w2 w3 i w5 w6 w7) h' nx'=.ok True)->IR.run uh.t15 C N O R (uh.fr a b z2 z3 i z5 z6 z7) h nx=.ok True) :
  IR.run uh.t16 C N O K (uh.fr a b c f i o p q) h nx=.ok True:=by
 rw [uh.t16];refine yB (λm tm h nx=>∃ z2 z3 z5 z6 z7,tm=(uh.fr a b z2 z3 i z5 z6 z7)/\Inv m z5 h nx) ?_ hm ⟨_,_,_,_,_,rfl,hi⟩;rintro m tm h nx R ⟨z2,z3,z5,z6,z7,rfl,hi⟩ hR;exact step m z2 z3 z5 z6 z7 h nx R hi λm' w2 w3 w5 w6 w7 h' nx' hlt hi'=>hR m' _ h' nx' hlt ⟨_,_,_,_,_,rfl,hi'⟩
theorem uh.sV:IR.run uh.t19 C N O K (uh.fr a b c f i o p q) h nx =
 K (uh.fr a b (I (-1)) f i o p q) h nx:=by kernel_rfl
theorem uh.go:zR tbl N C (.of 108) [a0,a1] h nx K0=IR.run uh.t22 C N (fnO uh.res K0) (zi uh.res K0) (uh.fr a0 a1 .u .u .u .u .u .u) h nx:=yC (F:=uh) (by kernel_rfl) (λ_=>by kernel_rfl) (by kernel_rfl)
theorem uh.ret:zi uh.res K0 (uh.fr a b c f i o p q) h nx=K0 c h nx:=by kernel_rfl
theorem rJ.zy:IR.run rJ.t0 C N O K (rJ.fr a b c) h nx =
 K (rJ.fr a b (.bool false)) h nx:=by kernel_rfl
theorem rJ.zx:IR.run rJ.t1 C N O K (rJ.fr a b c) h nx =
 C.fn 108 (.of 108) [a,b] h nx λv1 h2 n3=>za .geq .int v1 (I 0) λv4=>K (rJ.fr a b v4) h2 n3:=by kernel_rfl
theorem rJ.go:zR tbl N C (.of 179) [a0,a1] h nx K0=IR.run rJ.t3 C N (fnO rJ.res K0) (zi rJ.res K0) (rJ.fr a0 a1 .u) h nx:=yC (F:=rJ) (by kernel_rfl) (λ_=>by kernel_rfl) (by kernel_rfl)
theorem rJ.ret:zi rJ.res K0 (rJ.fr a b c) h nx=K0 c h nx:=by kernel_rfl
theorem F92.zy:IR.run F92.t0 C N O K (F92.fr a b c f i o p q u x9) h nx =
 K (F92.fr a .ze (I 0) f i o p q u x9) h nx:=by kernel_rfl
theorem F92.zx:IR.run F92.t1 C N O K (F92.fr a b c f i o p q u x9) h nx =
 K (F92.fr a b c .ze i o p q u x9) h nx:=by kernel_rfl
theorem F92.je:IR.run F92.t2 C N O K (F92.fr a b c f i o p q u x9) h nx =
 sLen a λv1=>K (F92.fr a b c f i a v1 (I 0) u x9) h nx:=by kernel_rfl
theorem F92.pq:IR.run F92.t3 C N O K (F92.fr a b c f i o p q u x9) h nx =
 za .lss .int q p λv1=>K (F92.fr a b c f i o p q v1 x9) h nx:=by kernel_rfl
theorem F92.v8:Arg.ev (.t (.of 8)) ⟨(F92.fr a b c f i o p q u x9),[]⟩=u:=by kernel_rfl
theorem F92.fG:IR.run F92.t5 C N O K (F92.fr a b c f i o p q u x9) h nx =
 zH 1 o q λv1=>zE v1 h λv2=>K (F92.fr a b c f v2 o p q u x9) h nx:=by kernel_rfl
theorem F92.qi:IR.run F92.t6 C N O K (F92.fr a b c f i o p q u x9) h nx =
 C.fn 179 (.of 179) [i,(.fn 180 (.of 180) [])] h nx λv1 h2 n3=>K (F92.fr a b c f i o p q u v1) h2 n3:=by kernel_rfl
theorem F92.v9:Arg.ev (.t (.of 9)) ⟨(F92.fr a b c f i o p q u x9),[]⟩=x9:=by kernel_rfl
theorem F92.di:IR.run F92.t11 C N O K (F92.fr a b c f i o p q u x9) h nx =
 C.fn 181 (.of 181) [i] h nx λv1 h2 n3=>yZ 1 1 [.ze] [(0,1,v1)] h2 n3 λv4 h5 n6=>sO 1 24 f v4 h5 n6 λv7 h8 n9=>K (F92.fr a b c v7 i o p q u x9) h8 n9:=by kernel_rfl
theorem F92.oC:IR.run F92.t15 C N O K (F92.fr a b c f i o p q u x9) h nx =
 za .add .int q (I 1) λv1=>K (F92.fr a b c f i o p v1 u x9) h nx:=by kernel_rfl
theorem F92.qaz (Inv:Nat->AV->AV->T Blk->Pa->Prop) {m:Nat} (hm:m<N) (hi:Inv m f q h nx)
  (step:∀ (m:Nat) (z1 z2 z3 z4 z7 z8 z9:AV) (h:T Blk) (nx:Pa) (R:Ks Prop),Inv m z3 z7 h nx->(∀ (m':Nat) (w1 w2 w3 w4 w7 w8 w9:AV) (h':T Blk) (nx':Pa),m'<m->Inv m' w3 w7 h' nx'->R (F92.fr a w1 w2 w3 w4 o p w7 w8 w9) h' nx'=.ok True)->IR.run F92.t18 C N O R (F92.fr a z1 z2 z3 z4 o p z7 z8 z9) h nx=.ok True) :
  IR.run F92.t19 C N O K (F92.fr a b c f i o p q u x9) h nx=.ok True:=by
 rw [F92.t19];refine yB (λm tm h nx=>∃ z1 z2 z3 z4 z7 z8 z9,tm=(F92.fr a z1 z2 z3 z4 o p z7 z8 z9)/\Inv m z3 z7 h nx) ?_ hm ⟨_,_,_,_,_,_,_,rfl,hi⟩;rintro m tm h nx R ⟨z1,z2,z3,z4,z7,z8,z9,rfl,hi⟩ hR;exact step m z1 z2 z3 z4 z7 z8 z9 h nx R hi λm' w1 w2 w3 w4 w7 w8 w9 h' nx' hlt hi'=>hR m' _ h' nx' hlt ⟨_,_,_,_,_,_,_,rfl,hi'⟩
theorem F92.aX:IR.run F92.t22 C N O K (F92.fr a b c f i o p q u x9) h nx =
 K (F92.fr a f (I 0) f i o p q u x9) h nx:=by kernel_rfl
theorem F92.go:zR tbl N C (.of 92) [a0] h nx K0=IR.run F92.t26 C N (fnO F92.res K0) (zi F92.res K0) (F92.fr a0 .u .u .u .u .u .u .u .u .u) h nx:=yC (F:=F92) (by kernel_rfl) (λ_=>by kernel_rfl) (by kernel_rfl)
theorem F92.ret:zi F92.res K0 (F92.fr a b c f i o p q u x9) h nx=K0 (.tup [b,c]) h nx:=by kernel_rfl
theorem F23.zy:IR.run F23.t0 C N O K (F23.fr a b c f i o) h nx =
 xw a h nx λv1 h2 n3=>K (F23.fr a v1 .ze (I 0) i o) h2 n3:=by kernel_rfl
theorem F23.zx:IR.run F23.t1 C N O K (F23.fr a b c f i o) h nx =
 zJ 2 b h λv1=>C.fn 18 (.of 18) [v1] h nx λv2 h3 n4=>K (F23.fr a b c f v2 o) h3 n4:=by kernel_rfl
theorem F23.je:IR.run F23.t2 C N O K (F23.fr a b c f i o) h nx =
 za .neq .int i (I 0) λv1=>K (F23.fr a b c f i v1) h nx:=by kernel_rfl
theorem F23.v5:Arg.ev (.t (.of 5)) ⟨(F23.fr a b c f i o),[]⟩=o:=by kernel_rfl
theorem F23.fH:IR.run F23.t8 C N O K (F23.fr a b c f i o) h nx =
 zJ 2 b h λv1=>C.fn 93 (.of 93) [v1] h nx λv2 h3 n4=>zf2 1 none v2 λv5=>C.fn 92 (.of 92) [v5] h3 n4 λv6 h7 n8=>cu 0 v6 λv9=>cu 1 v6 λvE=>K (F23.fr a b v9 vE i o) h7 n8:=by kernel_rfl
theorem F23.go:zR tbl N C (.of 23) [a0] h nx K0=IR.run F23.t11 C N (fnO F23.res K0) (zi F23.res K0) (F23.fr a0 .u .u .u .u .u) h nx:=yC (F:=F23) (by kernel_rfl) (λ_=>by kernel_rfl) (by kernel_rfl)
theorem F23.ret:zi F23.res K0 (F23.fr a b c f i o) h nx=K0 (.tup [c,f]) h nx:=by kernel_rfl
theorem eO.tab:T.get none (.of 183) tbl=some eO:=by kernel_rfl
theorem eO.go:zR tbl N C (.of 183) [a0] h nx K0 =
 C.fn 87 (.of 87) [(I (-999999999)),(I 999999999),a0] h nx λv1 h2 n3=>K0 v1 h2 n3:=by
 rw [yS eO.tab];kernel_rfl
theorem F43.tab:T.get none (.of 43) tbl=some F43:=by kernel_rfl
theorem F43.go:zR tbl N C (.of 43) [a0,a1] h nx K0 =
 xw a0 h nx λv1 h2 n3=>zJ 2 v1 h2 λv4=>C.fn 94 (.of 94) [v4,a1] h2 n3 λv5 h6 n7=>za .neq .int v5 (I 0) λv8=>yM v8 (K0 (.tup [(.bool false),v5]) h6 n7) (zJ 2 v1 h6 λv9=>C.fn 95 (.of 95) [v9,a1] h6 n7 λvE hD nE=>za .lss .int vE (I 0) λvF=>K0 (.tup [vF,(I 0)]) hD nE):=by
 rw [yS F43.tab];kernel_rfl
theorem vw.aM (X2:IR) (C:Calls Prop) (N:Nat) (O:fP Prop) (K:Ks Prop) (a b c f i o p q u x9:AV) (h:T Blk) (nx:Pa):IR.run (vw.g1 X2) C N O K (vw.fr a b c f i o p q u x9) h nx =
 IR.run X2 C N (O.blk 0 K) K (vw.fr a b c f i o p q u x9) h nx:=by kernel_rfl
theorem vw.tab:T.get none (.of 139) tbl=some vw:=by kernel_rfl
theorem vw.go:zR tbl N C (.of 139) [a0,a1] h nx K0 =
 xw a0 h nx λv1 h2 n3=>zM 1 v1 λv4=>zE v4 h2 λv5=>sLen v5 λv6=>IR.run vw.b1 C N (fnO vw.res K0) (IR.run vw.b8 C N (fnO vw.res K0) (zi vw.res K0)) (vw.fr a0 a1 v1 .ze .ze .u v5 v6 (I 0) .u) h2 n3:=by
 rw [yS vw.tab];kernel_rfl
theorem vw.e1:IR.run vw.b3 C N ((fnO vw.res K0).blk 0 K) R (vw.fr a b c f i o p q u x9) h nx =
 za .lss .int u q λv1=>yM v1 (zH 1 p u λv2=>zE v2 h λv3=>C.fn 219 (.of 219) [v3,b] h nx λv4 h5 n6=>yZ 1 1 [(I 0)] [(0,1,v4)] h5 n6 λv7 h8 n9=>sO 1 8 i v7 h8 n9 λvE hD nE=>za .add .int u (I 1) λvF=>R (vw.fr a b c f vE v3 p q vF v1) hD nE) (K (vw.fr a b c f i o p q u v1) h nx):=by kernel_rfl
theorem vw.L1 (Inv:Nat->AV->AV->T Blk->Pa->Prop) {m:Nat} (hm:m<N) (hi:Inv m i u h nx)
  (step:∀ (m:Nat) (z4 z5 z8 z9:AV) (h:T Blk) (nx:Pa) (R:Ks Prop),Inv m z4 z8 h nx->(∀ (m':Nat) (w4 w5 w8 w9:AV) (h':T Blk) (nx':Pa),m'<m->Inv m' w4 w8 h' nx'->R (vw.fr a b c f w4 w5 p q w8 w9) h' nx'=.ok True) ->
   (za .lss .int z8 q λv1=>yM v1 (zH 1 p z8 λv2=>zE v2 h λv3=>C.fn 219 (.of 219) [v3,b] h nx λv4 h5 n6=>yZ 1 1 [(I 0)] [(0,1,v4)] h5 n6 λv7 h8 n9=>sO 1 8 z4 v7 h8 n9 λvE hD nE=>za .add .int z8 (I 1) λvF=>R (vw.fr a b c f vE v3 p q vF v1) hD nE) (K (vw.fr a b c f z4 z5 p q z8 v1) h nx))=.ok True) :
  IR.run vw.b1 C N (fnO vw.res K0) K (vw.fr a b c f i o p q u x9) h nx=.ok True:=by
 rw [vw.b1,vw.aM,vw.b2];refine yB (λm tm h nx=>∃ z4 z5 z8 z9,tm=(vw.fr a b c f z4 z5 p q z8 z9)/\Inv m z4 z8 h nx) ?_ hm ⟨_,_,_,_,rfl,hi⟩;rintro m tm h nx R ⟨z4,z5,z8,z9,rfl,hi⟩ hR;rw [vw.e1];exact step m z4 z5 z8 z9 h nx R hi λm' w4 w5 w8 w9 h' nx' hlt hi'=>hR m' _ h' nx' hlt ⟨_,_,_,_,rfl,hi'⟩
theorem vw.k8:IR.run vw.b8 C N (fnO vw.res K0) K (vw.fr a b c f i o p q u x9) h nx =
 K0 i h nx:=by kernel_rfl
theorem F95.tab:T.get none (.of 95) tbl=some F95:=by kernel_rfl
theorem F95.go:zR tbl N C (.of 95) [a0,a1] h nx K0 =
 xw a0 h nx λv1 h2 n3=>zJ 2 v1 h2 λv4=>C.fn 139 (.of 139) [v4,a1] h2 n3 λv5 h6 n7=>yK [.ze] h6 n7 λv8 h9 nA=>zV 1 v8 v5 h9 nA λvC hI nJ=>zE v8 hI λvG=>C.fn 184 (.of 184) [vG,(.fn 185 (.of 185) [v8])] hI nJ λvB hC nD=>K0 vB hC nD:=by
 rw [yS F95.tab];kernel_rfl
theorem eT.tab:T.get none (.of 185) tbl=some eT:=by kernel_rfl
theorem eT.go:zR tbl N C (.of 185) [a0,a1] h nx K0 =
 zE a1 h λv1=>zH 1 v1 (I 0) λv2=>zE v2 h λv3=>za .neq .int a0 v3 λv4=>K0 v4 h nx:=by
 rw [yS eT.tab];kernel_rfl
theorem F94.tab:T.get none (.of 94) tbl=some F94:=by kernel_rfl
theorem F94.go:zR tbl N C (.of 94) [a0,a1] h nx K0 =
 xw a0 h nx λv1 h2 n3=>zJ 2 v1 h2 λv4=>sLen a1 λv5=>zM 0 v1 λv6=>zE v6 h2 λv7=>za .neq .int v5 v7 λv8=>C.fn 18 (.of 18) [v4] h2 n3 λv9 hB nC=>zL a1 a1 ((za .neq .int v5 v7 λvU=>zL vU v8 ((zE v6 hB λvT=>zL vT v7 ((zM 0 v1 λvS=>zL vS v6 ((sLen a1 λv24=>zL v24 v5 (zL a1 a1 (C.fn 88 (.of 88) [v8,(I 2)] hB nC λvD hA nB=>zL a1 a1 (C.fn 183 (.of 183) [a1] hA nB λvB hC nD=>yZ 1 3 [(I 0)] [(0,1,v9),(1,1,vD),(2,1,vB)] hC nD λvX hL nM=>C.fn 86 (.of 86) [vX] hL nM λvZ hM nN=>K0 vZ hM nN))))))))))):=by
 rw [yS F94.tab];kernel_rfl
theorem vz.aM (X2:IR) (C:Calls Prop) (N:Nat) (O:fP Prop) (K:Ks Prop) (a b c f i o p q u:AV) (h:T Blk) (nx:Pa):IR.run (vz.g1 X2) C N O K (vz.fr a b c f i o p q u) h nx =
 IR.run X2 C N (O.blk 0 K) K (vz.fr a b c f i o p q u) h nx:=by kernel_rfl
theorem vz.tab:T.get none (.of 219) tbl=some vz:=by kernel_rfl
theorem vz.go:zR tbl N C (.of 219) [a0,a1] h nx K0 =
 sLen a0 λv1=>IR.run vz.b1 C N (fnO vz.res K0) (IR.run vz.b8 C N (fnO vz.res K0) (zi vz.res K0)) (vz.fr a0 a1 (I 0) (I 0) .u a0 v1 (I 0) .u) h nx:=by
 rw [yS vz.tab];kernel_rfl
theorem vz.e1:IR.run vz.b3 C N ((fnO vz.res K0).blk 0 K) R (vz.fr a b c f i o p q u) h nx =
 za .lss .int q p λv1=>yM v1 (zH 1 o q λv2=>zE v2 h λv3=>zH 1 b v3 λv4=>zE v4 h λv5=>za .add .int f v5 λv6=>za .add .int q (I 1) λv7=>R (vz.fr a b c v6 v3 o p v7 v1) h nx) (K (vz.fr a b c f i o p q v1) h nx):=by kernel_rfl
theorem vz.L1 (Inv:Nat->AV->AV->T Blk->Pa->Prop) {m:Nat} (hm:m<N) (hi:Inv m f q h nx)
  (step:∀ (m:Nat) (z3 z4 z7 z8:AV) (h:T Blk) (nx:Pa) (R:Ks Prop),Inv m z3 z7 h nx->(∀ (m':Nat) (w3 w4 w7 w8:AV) (h':T Blk) (nx':Pa),m'<m->Inv m' w3 w7 h' nx'->R (vz.fr a b c w3 w4 o p w7 w8) h' nx'=.ok True) ->
   (za .lss .int z7 p λv1=>yM v1 (zH 1 o z7 λv2=>zE v2 h λv3=>zH 1 b v3 λv4=>zE v4 h λv5=>za .add .int z3 v5 λv6=>za .add .int z7 (I 1) λv7=>R (vz.fr a b c v6 v3 o p v7 v1) h nx) (K (vz.fr a b c z3 z4 o p z7 v1) h nx))=.ok True) :
  IR.run vz.b1 C N (fnO vz.res K0) K (vz.fr a b c f i o p q u) h nx=.ok True:=by
 rw [vz.b1,vz.aM,vz.b2];refine yB (λm tm h nx=>∃ z3 z4 z7 z8,tm=(vz.fr a b c z3 z4 o p z7 z8)/\Inv m z3 z7 h nx) ?_ hm ⟨_,_,_,_,rfl,hi⟩;rintro m tm h nx R ⟨z3,z4,z7,z8,rfl,hi⟩ hR;rw [vz.e1];exact step m z3 z4 z7 z8 h nx R hi λm' w3 w4 w7 w8 h' nx' hlt hi'=>hR m' _ h' nx' hlt ⟨_,_,_,_,rfl,hi'⟩
theorem vz.k8:IR.run vz.b8 C N (fnO vz.res K0) K (vz.fr a b c f i o p q u) h nx =
 K0 f h nx:=by kernel_rfl
theorem F42.zy:IR.run F42.t0 C N O K (F42.fr a b) h nx =
 K (F42.fr a (.str [])) h nx:=by kernel_rfl
theorem F42.zx:IR.run F42.t1 C N O K (F42.fr a b) h nx =
 C.fn 134 (.of 134) [a] h nx λv1 h2 n3=>C.fn 133 (.of 133) [v1] h2 n3 λv4 h5 n6=>K (F42.fr a v4) h5 n6:=by kernel_rfl
theorem F42.go:zR tbl N C (.of 42) [a0] h nx K0=IR.run F42.t3 C N (fnO F42.res K0) (zi F42.res K0) (F42.fr a0 .u) h nx:=yC (F:=F42) (by kernel_rfl) (λ_=>by kernel_rfl) (by kernel_rfl)
theorem F42.ret:zi F42.res K0 (F42.fr a b) h nx=K0 b h nx:=by kernel_rfl
theorem F35.zy:IR.run F35.t0 C N O K (F35.fr a b c f i) h nx =
 xw a h nx λv1 h2 n3=>K (F35.fr a b c v1 (.bool false)) h2 n3:=by kernel_rfl
theorem F35.zx:IR.run F35.t1 C N O K tm h nx=zP F35.si C ⟨tm,[]⟩ h nx (λtm h nx=>K tm.v h nx):=yT ..
theorem F35.sj:zP (F35.rQ r) C ⟨(F35.fr a b c f i),[]⟩ h nx Kt =
 zJ 2 f h λv1=>C.fn 16 (.of 16) [v1,b,c] h nx λv2 h3 n4=>zP r C ⟨(F35.fr a b c f i),v2::c::b::v1::[]⟩ h3 n4 Kt:=by kernel_rfl
theorem F35.fZ:zP (F35.rR r) C ⟨(F35.fr a b c f i),s0::sT⟩ h nx Kt =
 sG s0 true (λk=>zJ 2 f h k) λv1=>sGW s0 true (λk=>C.fn 19 (.of 19) [v1] h nx k) h nx λv2 h3 n4=>zP r C ⟨(F35.fr a b c f i),v2::v1::s0::s0::sT⟩ h3 n4 Kt:=by kernel_rfl
theorem F35.eH:zP (F35.zaf r) C ⟨(F35.fr a b c f i),s0::s1::s2::sT⟩ h nx Kt =
 sG s2 true (λk=>za .eql .int s0 (I 0) k) λv1=>yF s2 v1 (.bool false) λv2=>sG v2 true (λk=>zM 0 f k) λv3=>sG v2 true (λk=>zE v3 h k) λv4=>sG v2 true (λk=>k b) λv5=>sG v2 true (λk=>za .leq .int v4 v5 k) λv6=>yF v2 v6 (.bool false) λv7=>zP r C ⟨(F35.fr a b c f i),v7::v6::v5::v4::v3::v2::v2::v1::s0::s1::s2::sT⟩ h nx Kt:=by kernel_rfl
theorem F35.zam:zP (F35.zf1 []) C ⟨(F35.fr a b c f i),s0::sT⟩ h nx Kt =
 Kt ⟨(F35.fr a b c f s0),s0::sT⟩ h nx:=by kernel_rfl
theorem F35.go:zR tbl N C (.of 35) [a0,a1,a2] h nx K0=IR.run F35.t3 C N (fnO F35.res K0) (zi F35.res K0) (F35.fr a0 a1 a2 .u .u) h nx:=yC (F:=F35) (by kernel_rfl) (λ_=>by kernel_rfl) (by kernel_rfl)
theorem F35.ret:zi F35.res K0 (F35.fr a b c f i) h nx=K0 i h nx:=by kernel_rfl
theorem F7.zy:IR.run F7.t0 C N O K (F7.fr a b c f i o p q u x9 d g j l e s H v w y z U W L A B E M D G Z P Q V x34 x35 x36 x37 x38 x39) h nx =
 xw a h nx λv1 h2 n3=>K (F7.fr a b c v1 (.bool false) o p q u x9 d g j l e s H v w y z U W L A B E M D G Z P Q V x34 x35 x36 x37 x38 x39) h2 n3:=by kernel_rfl
theorem F7.zx:IR.run F7.t1 C N O K tm h nx=zP F7.si C ⟨tm,[]⟩ h nx (λtm h nx=>K tm.v h nx):=yT ..
theorem F7.sj:zP (F7.rQ r) C ⟨(F7.fr a b c f i o p q u x9 d g j l e s H v w y z U W L A B E M D G Z P Q V x34 x35 x36 x37 x38 x39),[]⟩ h nx Kt =
 zJ 2 f h λv1=>C.fn 35 (.of 35) [v1,(I 16),(I 12)] h nx λv2 h3 n4=>zP r C ⟨(F7.fr a b c f i o p q u x9 d g j l e s H v w y z U W L A B E M D G Z P Q V x34 x35 x36 x37 x38 x39),v2::v1::[]⟩ h3 n4 Kt:=by kernel_rfl
theorem F7.fZ:zP (F7.rR r) C ⟨(F7.fr a b c f i o p q u x9 d g j l e s H v w y z U W L A B E M D G Z P Q V x34 x35 x36 x37 x38 x39),s0::sT⟩ h nx Kt =
 sNot s0 λv1=>sG v1 false (λk=>k b) λv2=>sG v1 false (λk=>sLen v2 k) λv3=>sG v1 false (λk=>zM 0 f k) λv4=>sG v1 false (λk=>zE v4 h k) λv5=>sG v1 false (λk=>za .neq .int v3 v5 k) λv6=>yF v1 (.bool true) v6 λv7=>zP r C ⟨(F7.fr a b c f i o p q u x9 d g j l e s H v w y z U W L A B E M D G Z P Q V x34 x35 x36 x37 x38 x39),v7::v6::v5::v4::v3::v2::v1::v1::s0::sT⟩ h nx Kt:=by kernel_rfl
theorem F7.eH:zP (F7.zaf []) C ⟨(F7.fr a b c f i o p q u x9 d g j l e s H v w y z U W L A B E M D G Z P Q V x34 x35 x36 x37 x38 x39),s0::sT⟩ h nx Kt =
 sG s0 false (λk=>k c) λv1=>sG s0 false (λk=>sLen v1 k) λv2=>sG s0 false (λk=>za .gtr .int v2 (I 20) k) λv3=>yF s0 (.bool true) v3 λv4=>Kt ⟨(F7.fr a b c f i o p q u x9 d g j l e s H v v4 y z U W L A B E M D G Z P Q V x34 x35 x36 x37 x38 x39),v3::v2::v1::s0::s0::sT⟩ h nx:=by kernel_rfl
theorem F7.je:IR.run F7.t2 C N O K (F7.fr a b c f i o p q u x9 d g j l e s H v w y z U W L A B E M D G Z P Q V x34 x35 x36 x37 x38 x39) h nx =
 C.fn 17 (.of 17) [] h nx λv1 h2 n3=>K (F7.fr a b c f v1 o p q u x9 d g j l e s H v w y z U W L A B E M D G Z P Q V x34 x35 x36 x37 x38 x39) h2 n3:=by kernel_rfl
theorem F7.v18:Arg.ev (.t (.of 18)) ⟨(F7.fr a b c f i o p q u x9 d g j l e s H v w y z U W L A B E M D G Z P Q V x34 x35 x36 x37 x38 x39),[]⟩=w:=by kernel_rfl
theorem F7.qi:IR.run F7.t6 C N O K (F7.fr a b c f i o p q u x9 d g j l e s H v w y z U W L A B E M D G Z P Q V x34 x35 x36 x37 x38 x39) h nx =
 yZ 1 0 [(I 0)] [] h nx λv1 h2 n3=>sO 1 8 v1 b h2 n3 λv4 h5 n6=>sO 1 8 v4 c h5 n6 λv7 h8 n9=>sLen v7 λvE=>K (F7.fr a b c f i o p q u x9 d g j l e s H v w v7 vE (I 0) W L A B E M D G Z P Q V x34 x35 x36 x37 x38 x39) h8 n9:=by kernel_rfl
theorem F7.fC:IR.run F7.t7 C N O K (F7.fr a b c f i o p q u x9 d g j l e s H v w y z U W L A B E M D G Z P Q V x34 x35 x36 x37 x38 x39) h nx =
 za .lss .int U z λv1=>K (F7.fr a b c f i o p q u x9 d g j l e s H v w y z U v1 L A B E M D G Z P Q V x34 x35 x36 x37 x38 x39) h nx:=by kernel_rfl
theorem F7.v22:Arg.ev (.t (.of 22)) ⟨(F7.fr a b c f i o p q u x9 d g j l e s H v w y z U W L A B E M D G Z P Q V x34 x35 x36 x37 x38 x39),[]⟩=W:=by kernel_rfl
theorem F7.fK:IR.run F7.t9 C N O K (F7.fr a b c f i o p q u x9 d g j l e s H v w y z U W L A B E M D G Z P Q V x34 x35 x36 x37 x38 x39) h nx =
 zH 1 y U λv1=>zE v1 h λv2=>K (F7.fr a b c f i v2 p q u x9 d g j l e s H v w y z U W L A B E M D G Z P Q V x34 x35 x36 x37 x38 x39) h nx:=by kernel_rfl
theorem F7.fT:IR.run F7.t10 C N O K (F7.fr a b c f i o p q u x9 d g j l e s H v w y z U W L A B E M D G Z P Q V x34 x35 x36 x37 x38 x39) h nx =
 za .lss .int o (I (-9999)) λv1=>sG v1 false (λk=>k o) λv2=>sG v1 false (λk=>za .gtr .int v2 (I 9999) k) λv3=>yF v1 (.bool true) v3 λv4=>K (F7.fr a b c f i o p q u x9 d g j l e s H v w y z U W v4 A B E M D G Z P Q V x34 x35 x36 x37 x38 x39) h nx:=by kernel_rfl
theorem F7.di:IR.run F7.t11 C N O K (F7.fr a b c f i o p q u x9 d g j l e s H v w y z U W L A B E M D G Z P Q V x34 x35 x36 x37 x38 x39) h nx =
 C.fn 17 (.of 17) [] h nx λv1 h2 n3=>K (F7.fr a b c f v1 o p q u x9 d g j l e s H v w y z U W L A B E M D G Z P Q V x34 x35 x36 x37 x38 x39) h2 n3:=by kernel_rfl
theorem F7.v23:Arg.ev (.t (.of 23)) ⟨(F7.fr a b c f i o p q u x9 d g j l e s H v w y z U W L A B E M D G Z P Q V x34 x35 x36 x37 x38 x39),[]⟩=L:=by kernel_rfl
theorem F7.rX:IR.run F7.t17 C N O K (F7.fr a b c f i o p q u x9 d g j l e s H v w y z U W L A B E M D G Z P Q V x34 x35 x36 x37 x38 x39) h nx =
 za .add .int U (I 1) λv1=>K (F7.fr a b c f i o p q u x9 d g j l e s H v w y z v1 W L A B E M D G Z P Q V x34 x35 x36 x37 x38 x39) h nx:=by kernel_rfl
theorem F7.zn7 (Inv:Nat->AV->T Blk->Pa->Prop) {m:Nat} (hm:m<N) (hi:Inv m U h nx)
  (step:∀ (m:Nat) (z4 z5 zG zI zT:AV) (h:T Blk) (nx:Pa) (R:Ks Prop),Inv m zG h nx->(∀ (m':Nat) (w4 w5 wF wG wM:AV) (h':T Blk) (nx':Pa),m'<m->Inv m' wF h' nx'->R (F7.fr a b c f w4 w5 p q u x9 d g j l e s H v w y z wF wG wM A B E M D G Z P Q V x34 x35 x36 x37 x38 x39) h' nx'=.ok True)->IR.run F7.t20 C N O R (F7.fr a b c f z4 z5 p q u x9 d g j l e s H v w y z zG zI zT A B E M D G Z P Q V x34 x35 x36 x37 x38 x39) h nx=.ok True) :
  IR.run F7.t21 C N O K (F7.fr a b c f i o p q u x9 d g j l e s H v w y z U W L A B E M D G Z P Q V x34 x35 x36 x37 x38 x39) h nx=.ok True:=by
 rw [F7.t21];refine yB (λm tm h nx=>∃ z4 z5 zG zI zT,tm=(F7.fr a b c f z4 z5 p q u x9 d g j l e s H v w y z zG zI zT A B E M D G Z P Q V x34 x35 x36 x37 x38 x39)/\Inv m zG h nx) ?_ hm ⟨_,_,_,_,_,rfl,hi⟩;rintro m tm h nx R ⟨z4,z5,zG,zI,zT,rfl,hi⟩ hR;exact step m z4 z5 zG zI zT h nx R hi λm' w4 w5 wF wG wM h' nx' hlt hi'=>hR m' _ h' nx' hlt ⟨_,_,_,_,_,rfl,hi'⟩
theorem F7.oD:IR.run F7.t24 C N O K (F7.fr a b c f i o p q u x9 d g j l e s H v w y z U W L A B E M D G Z P Q V x34 x35 x36 x37 x38 x39) h nx =
 zJ 2 f h λv1=>C.fn 23 (.of 23) [v1] h nx λv2 h3 n4=>cu 0 v2 λv5=>cu 1 v2 λv6=>K (F7.fr a b c f i o v5 v6 u x9 d g j l e s H v w y z U W L A B E M D G Z P Q V x34 x35 x36 x37 x38 x39) h3 n4:=by kernel_rfl
theorem F7.zaj:IR.run F7.t25 C N O K tm h nx=zP F7.zoc C ⟨tm,[]⟩ h nx (λtm h nx=>K tm.v h nx):=yT ..
theorem F7.ztb:zP (F7.zod r) C ⟨(F7.fr a b c f i o p q u x9 d g j l e s H v w y z U W L A B E M D G Z P Q V x34 x35 x36 x37 x38 x39),[]⟩ h nx Kt =
 za .neq .int q (I 0) λv1=>sG v1 false (λk=>k p) λv2=>sG v1 false (λk=>sLen v2 k) λv3=>sG v1 false (λk=>zM 0 f k) λv4=>sG v1 false (λk=>zE v4 h k) λv5=>sG v1 false (λk=>za .gtr .int v3 v5 k) λv6=>zP r C ⟨(F7.fr a b c f i o p q u x9 d g j l e s H v w y z U W L A B E M D G Z P Q V x34 x35 x36 x37 x38 x39),v6::v5::v4::v3::v2::v1::v1::q::[]⟩ h nx Kt:=by kernel_rfl
theorem F7.ztc:zP (F7.zoe []) C ⟨(F7.fr a b c f i o p q u x9 d g j l e s H v w y z U W L A B E M D G Z P Q V x34 x35 x36 x37 x38 x39),s0::s1::s2::s3::s4::s5::sT⟩ h nx Kt =
 yF s5 (.bool true) s0 λv1=>Kt ⟨(F7.fr a b c f i o p q u x9 d g j l e s H v w y z U W L v1 B E M D G Z P Q V x34 x35 x36 x37 x38 x39),s0::s1::s2::s3::s4::s5::sT⟩ h nx:=by kernel_rfl
theorem F7.v24:Arg.ev (.t (.of 24)) ⟨(F7.fr a b c f i o p q u x9 d g j l e s H v w y z U W L A B E M D G Z P Q V x34 x35 x36 x37 x38 x39),[]⟩=A:=by kernel_rfl
theorem F7.zfr:IR.run F7.t30 C N O K (F7.fr a b c f i o p q u x9 d g j l e s H v w y z U W L A B E M D G Z P Q V x34 x35 x36 x37 x38 x39) h nx =
 zM 0 f λv1=>zE v1 h λv2=>zM 0 f λv3=>zE v3 h λv4=>C.fn 36 (.of 36) [v2] h nx λv5 h6 n7=>(zE v3 h6 λvD=>zL vD v4 ((zM 0 f λvC=>zL vC v3 (C.fn 36 (.of 36) [v4] h6 n7 λv8 h9 nA=>K (F7.fr a b c f i o p q v5 v8 d g j l e s H v w y z U W L A B E M D G Z P Q V x34 x35 x36 x37 x38 x39) h9 nA)))):=by kernel_rfl
theorem F7.zfs:IR.run F7.t31 C N O K (F7.fr a b c f i o p q u x9 d g j l e s H v w y z U W L A B E M D G Z P Q V x34 x35 x36 x37 x38 x39) h nx =
 sLen p λv1=>K (F7.fr a b c f i o p q u x9 d g j l e s H v w y z U W L A p v1 (I 0) D G Z P Q V x34 x35 x36 x37 x38 x39) h nx:=by kernel_rfl
theorem F7.zft:IR.run F7.t32 C N O K (F7.fr a b c f i o p q u x9 d g j l e s H v w y z U W L A B E M D G Z P Q V x34 x35 x36 x37 x38 x39) h nx =
 za .lss .int M E λv1=>K (F7.fr a b c f i o p q u x9 d g j l e s H v w y z U W L A B E M v1 G Z P Q V x34 x35 x36 x37 x38 x39) h nx:=by kernel_rfl
theorem F7.v28:Arg.ev (.t (.of 28)) ⟨(F7.fr a b c f i o p q u x9 d g j l e s H v w y z U W L A B E M D G Z P Q V x34 x35 x36 x37 x38 x39),[]⟩=D:=by kernel_rfl
theorem F7.zab:IR.run F7.t34 C N O K (F7.fr a b c f i o p q u x9 d g j l e s H v w y z U W L A B E M D G Z P Q V x34 x35 x36 x37 x38 x39) h nx =
 zH 1 B M λv1=>zE v1 h λv2=>K (F7.fr a b c f i o p q u x9 M v2 j l e s H v w y z U W L A B E M D G Z P Q V x34 x35 x36 x37 x38 x39) h nx:=by kernel_rfl
theorem F7.qa0:IR.run F7.t35 C N O K tm h nx=zP F7.zof C ⟨tm,[]⟩ h nx (λtm h nx=>K tm.v h nx):=yT ..
theorem F7.ztd:zP (F7.zog r) C ⟨(F7.fr a b c f i o p q u x9 d g j l e s H v w y z U W L A B E M D G Z P Q V x34 x35 x36 x37 x38 x39),[]⟩ h nx Kt =
 sLen g λv1=>zM 0 f λv2=>zE v2 h λv3=>za .neq .int v1 v3 λv4=>sG v4 false (λk=>k g) λv5=>sGW v4 false (λk=>C.fn 37 (.of 37) [v5] h nx k) h nx λv6 h7 n8=>zP r C ⟨(F7.fr a b c f i o p q u x9 d g j l e s H v w y z U W L A B E M D G Z P Q V x34 x35 x36 x37 x38 x39),v6::v5::v4::v4::v3::v2::v1::g::[]⟩ h7 n8 Kt:=by kernel_rfl
theorem F7.zte:zP (F7.zoh r) C ⟨(F7.fr a b c f i o p q u x9 d g j l e s H v w y z U W L A B E M D G Z P Q V x34 x35 x36 x37 x38 x39),s0::s1::s2::sT⟩ h nx Kt =
 sG s2 false (λk=>za .neq .int s0 (I 0) k) λv1=>yF s2 (.bool true) v1 λv2=>sG v2 false (λk=>zJ 2 f h k) λv3=>sG v2 false (λk=>k g) λv4=>sGW v2 false (λk=>C.fn 38 (.of 38) [v3,v4] h nx k) h nx λv5 h6 n7=>zP r C ⟨(F7.fr a b c f i o p q u x9 d g j l e s H v w y z U W L A B E M D G Z P Q V x34 x35 x36 x37 x38 x39),v5::v4::v3::v2::v2::v1::s0::s1::s2::sT⟩ h6 n7 Kt:=by kernel_rfl
theorem F7.ztf:zP (F7.zoi []) C ⟨(F7.fr a b c f i o p q u x9 d g j l e s H v w y z U W L A B E M D G Z P Q V x34 x35 x36 x37 x38 x39),s0::s1::s2::s3::sT⟩ h nx Kt =
 sG s3 false (λk=>sNot s0 k) λv1=>yF s3 (.bool true) v1 λv2=>Kt ⟨(F7.fr a b c f i o p q u x9 d g j l e s H v w y z U W L A B E M D v2 Z P Q V x34 x35 x36 x37 x38 x39),v1::s0::s1::s2::s3::sT⟩ h nx:=by kernel_rfl
theorem F7.v29:Arg.ev (.t (.of 29)) ⟨(F7.fr a b c f i o p q u x9 d g j l e s H v w y z U W L A B E M D G Z P Q V x34 x35 x36 x37 x38 x39),[]⟩=G:=by kernel_rfl
theorem F7.zfv:IR.run F7.t40 C N O K (F7.fr a b c f i o p q u x9 d g j l e s H v w y z U W L A B E M D G Z P Q V x34 x35 x36 x37 x38 x39) h nx =
 K (F7.fr a b c f i o p q u x9 d g (I 0) l e s H v w y z U W L A B E M D G Z P Q V x34 x35 x36 x37 x38 x39) h nx:=by kernel_rfl
theorem F7.zfw:IR.run F7.t41 C N O K tm h nx=zP F7.zoj C ⟨tm,[]⟩ h nx (λtm h nx=>K tm.v h nx):=yT ..
theorem F7.ztg:zP (F7.zok r) C ⟨(F7.fr a b c f i o p q u x9 d g j l e s H v w y z U W L A B E M D G Z P Q V x34 x35 x36 x37 x38 x39),[]⟩ h nx Kt =
 sLen g λv1=>za .lss .int j v1 λv2=>sG v2 true (λk=>k g) λv3=>sG v2 true (λk=>k j) λv4=>sG v2 true (λk=>zH 1 v3 v4 k) λv5=>zP r C ⟨(F7.fr a b c f i o p q u x9 d g j l e s H v w y z U W L A B E M D G Z P Q V x34 x35 x36 x37 x38 x39),v5::v4::v3::v2::v2::v1::g::j::[]⟩ h nx Kt:=by kernel_rfl
theorem F7.zth:zP (F7.zol r) C ⟨(F7.fr a b c f i o p q u x9 d g j l e s H v w y z U W L A B E M D G Z P Q V x34 x35 x36 x37 x38 x39),s0::s1::s2::s3::sT⟩ h nx Kt =
 sG s3 true (λk=>zE s0 h k) λv1=>sGW s3 true (λk=>C.fn 39 (.of 39) [v1] h nx k) h nx λv2 h3 n4=>zP r C ⟨(F7.fr a b c f i o p q u x9 d g j l e s H v w y z U W L A B E M D G Z P Q V x34 x35 x36 x37 x38 x39),v2::v1::s0::s1::s2::s3::sT⟩ h3 n4 Kt:=by kernel_rfl
theorem F7.zti:zP (F7.zom []) C ⟨(F7.fr a b c f i o p q u x9 d g j l e s H v w y z U W L A B E M D G Z P Q V x34 x35 x36 x37 x38 x39),s0::s1::s2::s3::s4::s5::sT⟩ h nx Kt =
 yF s5 s0 (.bool false) λv1=>Kt ⟨(F7.fr a b c f i o p q u x9 d g j l e s H v w y z U W L A B E M D G v1 P Q V x34 x35 x36 x37 x38 x39),s0::s1::s2::s3::s4::s5::sT⟩ h nx:=by kernel_rfl
theorem F7.v30:Arg.ev (.t (.of 30)) ⟨(F7.fr a b c f i o p q u x9 d g j l e s H v w y z U W L A B E M D G Z P Q V x34 x35 x36 x37 x38 x39),[]⟩=Z:=by kernel_rfl
theorem F7.zfz:IR.run F7.t44 C N O K (F7.fr a b c f i o p q u x9 d g j l e s H v w y z U W L A B E M D G Z P Q V x34 x35 x36 x37 x38 x39) h nx =
 za .add .int j (I 1) λv1=>K (F7.fr a b c f i o p q u x9 d g v1 l e s H v w y z U W L A B E M D G Z P Q V x34 x35 x36 x37 x38 x39) h nx:=by kernel_rfl
theorem F7.qa1 (Inv:Nat->AV->T Blk->Pa->Prop) {m:Nat} (hm:m<N) (hi:Inv m j h nx)
  (step:∀ (m:Nat) (zC z30:AV) (h:T Blk) (nx:Pa) (R:Ks Prop),Inv m zC h nx->(∀ (m':Nat) (wC wV:AV) (h':T Blk) (nx':Pa),m'<m->Inv m' wC h' nx'->R (F7.fr a b c f i o p q u x9 d g wC l e s H v w y z U W L A B E M D G wV P Q V x34 x35 x36 x37 x38 x39) h' nx'=.ok True)->IR.run F7.t46 C N O R (F7.fr a b c f i o p q u x9 d g zC l e s H v w y z U W L A B E M D G z30 P Q V x34 x35 x36 x37 x38 x39) h nx=.ok True) :
  IR.run F7.t47 C N O K (F7.fr a b c f i o p q u x9 d g j l e s H v w y z U W L A B E M D G Z P Q V x34 x35 x36 x37 x38 x39) h nx=.ok True:=by
 rw [F7.t47];refine yB (λm tm h nx=>∃ zC z30,tm=(F7.fr a b c f i o p q u x9 d g zC l e s H v w y z U W L A B E M D G z30 P Q V x34 x35 x36 x37 x38 x39)/\Inv m zC h nx) ?_ hm ⟨_,_,rfl,hi⟩;rintro m tm h nx R ⟨zC,z30,rfl,hi⟩ hR;exact step m zC z30 h nx R hi λm' wC wV h' nx' hlt hi'=>hR m' _ h' nx' hlt ⟨_,_,rfl,hi'⟩
theorem F7.qa2:IR.run F7.t49 C N O K tm h nx=zP F7.zon C ⟨tm,[]⟩ h nx (λtm h nx=>K tm.v h nx):=yT ..
theorem F7.ztj:zP (F7.zoo r) C ⟨(F7.fr a b c f i o p q u x9 d g j l e s H v w y z U W L A B E M D G Z P Q V x34 x35 x36 x37 x38 x39),[]⟩ h nx Kt =
 sLen g λv1=>za .eql .int j v1 λv2=>sG v2 false (λk=>k g) λv3=>sG v2 false (λk=>k j) λv4=>sG v2 false (λk=>zH 1 v3 v4 k) λv5=>zP r C ⟨(F7.fr a b c f i o p q u x9 d g j l e s H v w y z U W L A B E M D G Z P Q V x34 x35 x36 x37 x38 x39),v5::v4::v3::v2::v2::v1::g::j::[]⟩ h nx Kt:=by kernel_rfl
theorem F7.ztk:zP (F7.zop []) C ⟨(F7.fr a b c f i o p q u x9 d g j l e s H v w y z U W L A B E M D G Z P Q V x34 x35 x36 x37 x38 x39),s0::s1::s2::s3::sT⟩ h nx Kt =
 sG s3 false (λk=>zE s0 h k) λv1=>sG s3 false (λk=>za .neq .str v1 (.str [49]) k) λv2=>yF s3 (.bool true) v2 λv3=>Kt ⟨(F7.fr a b c f i o p q u x9 d g j l e s H v w y z U W L A B E M D G Z v3 Q V x34 x35 x36 x37 x38 x39),v2::v1::s0::s1::s2::s3::sT⟩ h nx:=by kernel_rfl
theorem F7.v31:Arg.ev (.t (.of 31)) ⟨(F7.fr a b c f i o p q u x9 d g j l e s H v w y z U W L A B E M D G Z P Q V x34 x35 x36 x37 x38 x39),[]⟩=P:=by kernel_rfl
theorem F7.qa3:IR.run F7.t54 C N O K (F7.fr a b c f i o p q u x9 d g j l e s H v w y z U W L A B E M D G Z P Q V x34 x35 x36 x37 x38 x39) h nx =
 sLen g λv1=>K (F7.fr a b c f i o p q u x9 d g j l e s H v w y z U W L A B E M D G Z P v1 (I 0) x34 x35 x36 x37 x38 x39) h nx:=by kernel_rfl
theorem F7.qa4:IR.run F7.t55 C N O K (F7.fr a b c f i o p q u x9 d g j l e s H v w y z U W L A B E M D G Z P Q V x34 x35 x36 x37 x38 x39) h nx =
 za .lss .int V Q λv1=>K (F7.fr a b c f i o p q u x9 d g j l e s H v w y z U W L A B E M D G Z P Q V v1 x35 x36 x37 x38 x39) h nx:=by kernel_rfl
theorem F7.v34:Arg.ev (.t (.of 34)) ⟨(F7.fr a b c f i o p q u x9 d g j l e s H v w y z U W L A B E M D G Z P Q V x34 x35 x36 x37 x38 x39),[]⟩=x34:=by kernel_rfl
theorem F7.znf:IR.run F7.t57 C N O K (F7.fr a b c f i o p q u x9 d g j l e s H v w y z U W L A B E M D G Z P Q V x34 x35 x36 x37 x38 x39) h nx =
 K (F7.fr a b c f i o p q u x9 d g j V e s H v w y z U W L A B E M D G Z P Q V x34 x35 x36 x37 x38 x39) h nx:=by kernel_rfl
theorem F7.znj:IR.run F7.t58 C N O K (F7.fr a b c f i o p q u x9 d g j l e s H v w y z U W L A B E M D G Z P Q V x34 x35 x36 x37 x38 x39) h nx =
 zH 1 x9 l λv1=>zE v1 h λv2=>zH 1 b j λv3=>zE v3 h λv4=>zH 1 g l λv5=>zE v5 h λv6=>C.fn 42 (.of 42) [v4] h nx λv7 h8 n9=>(zE v5 h8 λvS=>zL vS v6 ((zH 1 g l λv24=>zL v24 v5 (zL l l (zL g g ((zE v1 h8 λv23=>zL v23 v2 ((zH 1 x9 l λvR=>zL vR v1 (zL l l (zL x9 x9 (zL l l (zL x9 x9 (C.fn 41 (.of 41) [v7,v6] h8 n9 λvE hD nE=>(zE v1 hD λvZ=>zL vZ v2 ((zH 1 x9 l λvY=>zL vY v1 (zL l l (zL x9 x9 (zL l l (zL x9 x9 (C.fn 40 (.of 40) [v2,vE] hD nE λvF hE nF=>zL l l (zL x9 x9 (zH 1 x9 l λvA=>zV 1 vA vF hE nF λvW hN nO=>K (F7.fr a b c f i o p q u x9 d g j l e s H v w y z U W L A B E M D G Z P Q V x34 x35 x36 x37 x38 x39) hN nO)))))))))))))))))))))))):=by kernel_rfl
theorem F7.znk:IR.run F7.t59 C N O K (F7.fr a b c f i o p q u x9 d g j l e s H v w y z U W L A B E M D G Z P Q V x34 x35 x36 x37 x38 x39) h nx =
 sLen c λv1=>za .lss .int d v1 λv2=>K (F7.fr a b c f i o p q u x9 d g j l e s H v w y z U W L A B E M D G Z P Q V x34 v2 x36 x37 x38 x39) h nx:=by kernel_rfl
theorem F7.znl:IR.run F7.t60 C N O K (F7.fr a b c f i o p q u x9 d g j l e s H v w y z U W L A B E M D G Z P Q V x34 x35 x36 x37 x38 x39) h nx =
 zH 1 u l λv1=>zE v1 h λv2=>zH 1 c d λv3=>zE v3 h λv4=>zH 1 g l λv5=>zE v5 h λv6=>C.fn 42 (.of 42) [v4] h nx λv7 h8 n9=>(zE v5 h8 λvS=>zL vS v6 ((zH 1 g l λv24=>zL v24 v5 (zL l l (zL g g ((zE v1 h8 λv23=>zL v23 v2 ((zH 1 u l λvR=>zL vR v1 (zL l l (zL u u (zL l l (zL u u (C.fn 41 (.of 41) [v7,v6] h8 n9 λvE hD nE=>(zE v1 hD λvZ=>zL vZ v2 ((zH 1 u l λvY=>zL vY v1 (zL l l (zL u u (zL l l (zL u u (C.fn 40 (.of 40) [v2,vE] hD nE λvF hE nF=>zL l l (zL u u (zH 1 u l λvA=>zV 1 vA vF hE nF λvW hN nO=>K (F7.fr a b c f i o p q u x9 d g j l e s H v w y z U W L A B E M D G Z P Q V x34 x35 x36 x37 x38 x39) hN nO)))))))))))))))))))))))):=by kernel_rfl
theorem F7.v35:Arg.ev (.t (.of 35)) ⟨(F7.fr a b c f i o p q u x9 d g j l e s H v w y z U W L A B E M D G Z P Q V x34 x35 x36 x37 x38 x39),[]⟩=x35:=by kernel_rfl
theorem F7.zj1:IR.run F7.t66 C N O K (F7.fr a b c f i o p q u x9 d g j l e s H v w y z U W L A B E M D G Z P Q V x34 x35 x36 x37 x38 x39) h nx =
 za .add .int V (I 1) λv1=>K (F7.fr a b c f i o p q u x9 d g j l e s H v w y z U W L A B E M D G Z P Q v1 x34 x35 x36 x37 x38 x39) h nx:=by kernel_rfl
theorem F7.qa5 (Inv:Nat->AV->T Blk->Pa->Prop) {m:Nat} (hm:m<N) (hi:Inv m V h nx)
  (step:∀ (m:Nat) (zD z33 zZ z35:AV) (h:T Blk) (nx:Pa) (R:Ks Prop),Inv m z33 h nx->(∀ (m':Nat) (wD wY wR wS:AV) (h':T Blk) (nx':Pa),m'<m->Inv m' wY h' nx'->R (F7.fr a b c f i o p q u x9 d g j wD e s H v w y z U W L A B E M D G Z P Q wY wR wS x36 x37 x38 x39) h' nx'=.ok True)->IR.run F7.t69 C N O R (F7.fr a b c f i o p q u x9 d g j zD e s H v w y z U W L A B E M D G Z P Q z33 zZ z35 x36 x37 x38 x39) h nx=.ok True) :
  IR.run F7.t70 C N O K (F7.fr a b c f i o p q u x9 d g j l e s H v w y z U W L A B E M D G Z P Q V x34 x35 x36 x37 x38 x39) h nx=.ok True:=by
 rw [F7.t70];refine yB (λm tm h nx=>∃ zD z33 zZ z35,tm=(F7.fr a b c f i o p q u x9 d g j zD e s H v w y z U W L A B E M D G Z P Q z33 zZ z35 x36 x37 x38 x39)/\Inv m z33 h nx) ?_ hm ⟨_,_,_,_,rfl,hi⟩;rintro m tm h nx R ⟨zD,z33,zZ,z35,rfl,hi⟩ hR;exact step m zD z33 zZ z35 h nx R hi λm' wD wY wR wS h' nx' hlt hi'=>hR m' _ h' nx' hlt ⟨_,_,_,_,rfl,hi'⟩
theorem F7.qa6:IR.run F7.t79 C N O K (F7.fr a b c f i o p q u x9 d g j l e s H v w y z U W L A B E M D G Z P Q V x34 x35 x36 x37 x38 x39) h nx =
 za .add .int M (I 1) λv1=>K (F7.fr a b c f i o p q u x9 d g j l e s H v w y z U W L A B E v1 D G Z P Q V x34 x35 x36 x37 x38 x39) h nx:=by kernel_rfl
theorem F7.qa7 (Inv:Nat->AV->T Blk->Pa->Prop) {m:Nat} (hm:m<N) (hi:Inv m M h nx)
  (step:∀ (m:Nat) (z4 zA zB zC zD zN z28 z29 z30 z31 z32 z33 zZ z35:AV) (h:T Blk) (nx:Pa) (R:Ks Prop),Inv m zN h nx->(∀ (m':Nat) (w4 wA wB wC wD wI wZ wU wV wW wX wY wR wS:AV) (h':T Blk) (nx':Pa),m'<m->Inv m' wI h' nx'->R (F7.fr a b c f w4 o p q u x9 wA wB wC wD e s H v w y z U W L A B E wI wZ wU wV wW wX wY wR wS x36 x37 x38 x39) h' nx'=.ok True)->IR.run F7.t82 C N O R (F7.fr a b c f z4 o p q u x9 zA zB zC zD e s H v w y z U W L A B E zN z28 z29 z30 z31 z32 z33 zZ z35 x36 x37 x38 x39) h nx=.ok True) :
  IR.run F7.t83 C N O K (F7.fr a b c f i o p q u x9 d g j l e s H v w y z U W L A B E M D G Z P Q V x34 x35 x36 x37 x38 x39) h nx=.ok True:=by
 rw [F7.t83];refine yB (λm tm h nx=>∃ z4 zA zB zC zD zN z28 z29 z30 z31 z32 z33 zZ z35,tm=(F7.fr a b c f z4 o p q u x9 zA zB zC zD e s H v w y z U W L A B E zN z28 z29 z30 z31 z32 z33 zZ z35 x36 x37 x38 x39)/\Inv m zN h nx) ?_ hm ⟨_,_,_,_,_,_,_,_,_,_,_,_,_,_,rfl,hi⟩;rintro m tm h nx R ⟨z4,zA,zB,zC,zD,zN,z28,z29,z30,z31,z32,z33,zZ,z35,rfl,hi⟩ hR;exact step m z4 zA zB zC zD zN z28 z29 z30 z31 z32 z33 zZ z35 h nx R hi λm' w4 wA wB wC wD wI wZ wU wV wW wX wY wR wS h' nx' hlt hi'=>hR m' _ h' nx' hlt ⟨_,_,_,_,_,_,_,_,_,_,_,_,_,_,rfl,hi'⟩
theorem F7.qa8:IR.run F7.t86 C N O K (F7.fr a b c f i o p q u x9 d g j l e s H v w y z U W L A B E M D G Z P Q V x34 x35 x36 x37 x38 x39) h nx =
 zJ 2 f h λv1=>C.fn 38 (.of 38) [v1,u] h nx λv2 h3 n4=>sNot v2 λv5=>K (F7.fr a b c f i o p q u x9 d g j l e s H v w y z U W L A B E M D G Z P Q V x34 x35 v5 x37 x38 x39) h3 n4:=by kernel_rfl
theorem F7.v36:Arg.ev (.t (.of 36)) ⟨(F7.fr a b c f i o p q u x9 d g j l e s H v w y z U W L A B E M D G Z P Q V x34 x35 x36 x37 x38 x39),[]⟩=x36:=by kernel_rfl
theorem F7.zob:IR.run F7.t91 C N O K (F7.fr a b c f i o p q u x9 d g j l e s H v w y z U W L A B E M D G Z P Q V x34 x35 x36 x37 x38 x39) h nx =
 K (F7.fr a b c f i o p q u x9 d g j l (.bool true) s H v w y z U W L A B E M D G Z P Q V x34 x35 x36 x37 x38 x39) h nx:=by kernel_rfl
theorem F7.qa9:IR.run F7.t92 C N O K (F7.fr a b c f i o p q u x9 d g j l e s H v w y z U W L A B E M D G Z P Q V x34 x35 x36 x37 x38 x39) h nx =
 sLen b λv1=>K (F7.fr a b c f i o p q u x9 d g j l e s H v w y z U W L A B E M D G Z P Q V x34 x35 x36 v1 (I 0) x39) h nx:=by kernel_rfl
theorem F7.qba:IR.run F7.t93 C N O K (F7.fr a b c f i o p q u x9 d g j l e s H v w y z U W L A B E M D G Z P Q V x34 x35 x36 x37 x38 x39) h nx =
 za .lss .int x38 x37 λv1=>K (F7.fr a b c f i o p q u x9 d g j l e s H v w y z U W L A B E M D G Z P Q V x34 x35 x36 x37 x38 v1) h nx:=by kernel_rfl
theorem F7.v39:Arg.ev (.t (.of 39)) ⟨(F7.fr a b c f i o p q u x9 d g j l e s H v w y z U W L A B E M D G Z P Q V x34 x35 x36 x37 x38 x39),[]⟩=x39:=by kernel_rfl
theorem F7.qbc:IR.run F7.t95 C N O K (F7.fr a b c f i o p q u x9 d g j l e s H v w y z U W L A B E M D G Z P Q V x34 x35 x36 x37 x38 x39) h nx =
 K (F7.fr a b c f i o p q u x9 d g j l e x38 H v w y z U W L A B E M D G Z P Q V x34 x35 x36 x37 x38 x39) h nx:=by kernel_rfl
theorem F7.znv:IR.run F7.t96 C N O K (F7.fr a b c f i o p q u x9 d g j l e s H v w y z U W L A B E M D G Z P Q V x34 x35 x36 x37 x38 x39) h nx =
 bif gOk e true then (bif gOk e true then (bif gOk e true then (zH 1 x9 s λv3=>bif gOk e true then (zE v3 h λv4=>sG e true (λk=>k b) λv5=>sG e true (λk=>k s) λv6=>sG e true (λk=>zH 1 v5 v6 k) λv7=>sG e true (λk=>zE v7 h k) λv8=>sGW e true (λk=>C.fn 42 (.of 42) [v8] h nx λvD hA nB=>(zE v3 hA λvA=>zL vA v4 ((zH 1 x9 s λvB=>zL vB v3 (zL s s (zL x9 x9 (k vD hA nB))))))) h nx λv9 hB nC=>sG e true (λk=>za .eql .str v4 v9 k) λvW=>yF e vW (.bool false) λvX=>K (F7.fr a b c f i o p q u x9 d g j l vX s H v w y z U W L A B E M D G Z P Q V x34 x35 x36 x37 x38 x39) hB nC) else (sG e true (λk=>k b) λvQ=>sG e true (λk=>k s) λvY=>sG e true (λk=>zH 1 vQ vY k) λvZ=>sG e true (λk=>zE vZ h k) λvR=>sGW e true (λk=>C.fn 42 (.of 42) [vR] h nx λvT hO nP=>(zH 1 x9 s λvP=>zL vP v3 (zL s s (zL x9 x9 (k vT hO nP))))) h nx λv23 hP nQ=>sG e true (λk=>za .eql .str .u v23 k) λvO=>yF e vO (.bool false) λvN=>K (F7.fr a b c f i o p q u x9 d g j l vN s H v w y z U W L A B E M D G Z P Q V x34 x35 x36 x37 x38 x39) hP nQ)) else (bif gOk e true then (zE .u h λvM=>sG e true (λk=>k b) λvL=>sG e true (λk=>k s) λvK=>sG e true (λk=>zH 1 vL vK k) λvI=>sG e true (λk=>zE vI h k) λvH=>sGW e true (λk=>C.fn 42 (.of 42) [vH] h nx λv40 hQ nR=>(zE .u hQ λv43=>zL v43 vM (zL s s (zL x9 x9 (k v40 hQ nR))))) h nx λv37 hS nS=>sG e true (λk=>za .eql .str vM v37 k) λv44=>yF e v44 (.bool false) λv45=>K (F7.fr a b c f i o p q u x9 d g j l v45 s H v w y z U W L A B E M D G Z P Q V x34 x35 x36 x37 x38 x39) hS nS) else (sG e true (λk=>k b) λv46=>sG e true (λk=>k s) λv47=>sG e true (λk=>zH 1 v46 v47 k) λv48=>sG e true (λk=>zE v48 h k) λv49=>sGW e true (λk=>C.fn 42 (.of 42) [v49] h nx λv53 hT nT=>zL s s (zL x9 x9 (k v53 hT nT))) h nx λv50 hU nU=>sG e true (λk=>za .eql .str .u v50 k) λv56=>yF e v56 (.bool false) λv57=>K (F7.fr a b c f i o p q u x9 d g j l v57 s H v w y z U W L A B E M D G Z P Q V x34 x35 x36 x37 x38 x39) hU nU))) else (bif gOk e true then (zH 1 x9 .u λv58=>bif gOk e true then (zE v58 h λv59=>sG e true (λk=>k b) λv60=>sG e true (λk=>k s) λv61=>sG e true (λk=>zH 1 v60 v61 k) λv62=>sG e true (λk=>zE v62 h k) λv63=>sGW e true (λk=>C.fn 42 (.of 42) [v63] h nx λv67 hV nV=>(zE v58 hV λv71=>zL v71 v59 ((zH 1 x9 .u λv70=>zL v70 v58 (zL x9 x9 (k v67 hV nV)))))) h nx λv64 hW nW=>sG e true (λk=>za .eql .str v59 v64 k) λv72=>yF e v72 (.bool false) λv73=>K (F7.fr a b c f i o p q u x9 d g j l v73 s H v w y z U W L A B E M D G Z P Q V x34 x35 x36 x37 x38 x39) hW nW) else (sG e true (λk=>k b) λv74=>sG e true (λk=>k s) λv75=>sG e true (λk=>zH 1 v74 v75 k) λv76=>sG e true (λk=>zE v76 h k) λv77=>sGW e true (λk=>C.fn 42 (.of 42) [v77] h nx λv81 hX nX=>(zH 1 x9 .u λv84=>zL v84 v58 (zL x9 x9 (k v81 hX nX)))) h nx λv78 hY nY=>sG e true (λk=>za .eql .str .u v78 k) λv85=>yF e v85 (.bool false) λv86=>K (F7.fr a b c f i o p q u x9 d g j l v86 s H v w y z U W L A B E M D G Z P Q V x34 x35 x36 x37 x38 x39) hY nY)) else (bif gOk e true then (zE .u h λv87=>sG e true (λk=>k b) λv88=>sG e true (λk=>k s) λv89=>sG e true (λk=>zH 1 v88 v89 k) λv90=>sG e true (λk=>zE v90 h k) λv91=>sGW e true (λk=>C.fn 42 (.of 42) [v91] h nx λv95 hZ nZ=>(zE .u hZ λv98=>zL v98 v87 (zL x9 x9 (k v95 hZ nZ)))) h nx λv92 h93 n94=>sG e true (λk=>za .eql .str v87 v92 k) λv99=>yF e v99 (.bool false) λv100=>K (F7.fr a b c f i o p q u x9 d g j l v100 s H v w y z U W L A B E M D G Z P Q V x34 x35 x36 x37 x38 x39) h93 n94) else (sG e true (λk=>k b) λv101=>sG e true (λk=>k s) λv102=>sG e true (λk=>zH 1 v101 v102 k) λv103=>sG e true (λk=>zE v103 h k) λv104=>sGW e true (λk=>C.fn 42 (.of 42) [v104] h nx λv108 h109 n110=>zL x9 x9 (k v108 h109 n110)) h nx λv105 h106 n107=>sG e true (λk=>za .eql .str .u v105 k) λv111=>yF e v111 (.bool false) λv112=>K (F7.fr a b c f i o p q u x9 d g j l v112 s H v w y z U W L A B E M D G Z P Q V x34 x35 x36 x37 x38 x39) h106 n107)))) else (bif gOk e true then (bif gOk e true then (zH 1 .u s λv114=>bif gOk e true then (zE v114 h λv115=>sG e true (λk=>k b) λv116=>sG e true (λk=>k s) λv117=>sG e true (λk=>zH 1 v116 v117 k) λv118=>sG e true (λk=>zE v118 h k) λv119=>sGW e true (λk=>C.fn 42 (.of 42) [v119] h nx λv123 h124 n125=>(zE v114 h124 λv127=>zL v127 v115 ((zH 1 .u s λv126=>zL v126 v114 (zL s s (k v123 h124 n125)))))) h nx λv120 h121 n122=>sG e true (λk=>za .eql .str v115 v120 k) λv128=>yF e v128 (.bool false) λv129=>K (F7.fr a b c f i o p q u x9 d g j l v129 s H v w y z U W L A B E M D G Z P Q V x34 x35 x36 x37 x38 x39) h121 n122) else (sG e true (λk=>k b) λv130=>sG e true (λk=>k s) λv131=>sG e true (λk=>zH 1 v130 v131 k) λv132=>sG e true (λk=>zE v132 h k) λv133=>sGW e true (λk=>C.fn 42 (.of 42) [v133] h nx λv137 h138 n139=>(zH 1 .u s λv140=>zL v140 v114 (zL s s (k v137 h138 n139)))) h nx λv134 h135 n136=>sG e true (λk=>za .eql .str .u v134 k) λv141=>yF e v141 (.bool false) λv142=>K (F7.fr a b c f i o p q u x9 d g j l v142 s H v w y z U W L A B E M D G Z P Q V x34 x35 x36 x37 x38 x39) h135 n136)) else (bif gOk e true then (zE .u h λv143=>sG e true (λk=>k b) λv144=>sG e true (λk=>k s) λv145=>sG e true (λk=>zH 1 v144 v145 k) λv146=>sG e true (λk=>zE v146 h k) λv147=>sGW e true (λk=>C.fn 42 (.of 42) [v147] h nx λv151 h152 n153=>(zE .u h152 λv154=>zL v154 v143 (zL s s (k v151 h152 n153)))) h nx λv148 h149 n150=>sG e true (λk=>za .eql .str v143 v148 k) λv155=>yF e v155 (.bool false) λv156=>K (F7.fr a b c f i o p q u x9 d g j l v156 s H v w y z U W L A B E M D G Z P Q V x34 x35 x36 x37 x38 x39) h149 n150) else (sG e true (λk=>k b) λv157=>sG e true (λk=>k s) λv158=>sG e true (λk=>zH 1 v157 v158 k) λv159=>sG e true (λk=>zE v159 h k) λv160=>sGW e true (λk=>C.fn 42 (.of 42) [v160] h nx λv164 h165 n166=>zL s s (k v164 h165 n166)) h nx λv161 h162 n163=>sG e true (λk=>za .eql .str .u v161 k) λv167=>yF e v167 (.bool false) λv168=>K (F7.fr a b c f i o p q u x9 d g j l v168 s H v w y z U W L A B E M D G Z P Q V x34 x35 x36 x37 x38 x39) h162 n163))) else (bif gOk e true then (zH 1 .u .u λv169=>bif gOk e true then (zE v169 h λv170=>sG e true (λk=>k b) λv171=>sG e true (λk=>k s) λv172=>sG e true (λk=>zH 1 v171 v172 k) λv173=>sG e true (λk=>zE v173 h k) λv174=>sGW e true (λk=>C.fn 42 (.of 42) [v174] h nx λv178 h179 n180=>(zE v169 h179 λv182=>zL v182 v170 ((zH 1 .u .u λv181=>zL v181 v169 (k v178 h179 n180))))) h nx λv175 h176 n177=>sG e true (λk=>za .eql .str v170 v175 k) λv183=>yF e v183 (.bool false) λv184=>K (F7.fr a b c f i o p q u x9 d g j l v184 s H v w y z U W L A B E M D G Z P Q V x34 x35 x36 x37 x38 x39) h176 n177) else (sG e true (λk=>k b) λv185=>sG e true (λk=>k s) λv186=>sG e true (λk=>zH 1 v185 v186 k) λv187=>sG e true (λk=>zE v187 h k) λv188=>sGW e true (λk=>C.fn 42 (.of 42) [v188] h nx λv192 h193 n194=>(zH 1 .u .u λv195=>zL v195 v169 (k v192 h193 n194))) h nx λv189 h190 n191=>sG e true (λk=>za .eql .str .u v189 k) λv196=>yF e v196 (.bool false) λv197=>K (F7.fr a b c f i o p q u x9 d g j l v197 s H v w y z U W L A B E M D G Z P Q V x34 x35 x36 x37 x38 x39) h190 n191)) else (bif gOk e true then (zE .u h λv198=>sG e true (λk=>k b) λv199=>sG e true (λk=>k s) λv200=>sG e true (λk=>zH 1 v199 v200 k) λv201=>sG e true (λk=>zE v201 h k) λv202=>sGW e true (λk=>C.fn 42 (.of 42) [v202] h nx λv206 h207 n208=>(zE .u h207 λv209=>zL v209 v198 (k v206 h207 n208))) h nx λv203 h204 n205=>sG e true (λk=>za .eql .str v198 v203 k) λv210=>yF e v210 (.bool false) λv211=>K (F7.fr a b c f i o p q u x9 d g j l v211 s H v w y z U W L A B E M D G Z P Q V x34 x35 x36 x37 x38 x39) h204 n205) else (sG e true (λk=>k b) λv212=>sG e true (λk=>k s) λv213=>sG e true (λk=>zH 1 v212 v213 k) λv214=>sG e true (λk=>zE v214 h k) λv215=>sGW e true (λk=>C.fn 42 (.of 42) [v215] h nx k) h nx λv216 h217 n218=>sG e true (λk=>za .eql .str .u v216 k) λv219=>yF e v219 (.bool false) λv220=>K (F7.fr a b c f i o p q u x9 d g j l v220 s H v w y z U W L A B E M D G Z P Q V x34 x35 x36 x37 x38 x39) h217 n218)))):=by kernel_rfl
theorem F7.zv3:IR.run F7.t99 C N O K (F7.fr a b c f i o p q u x9 d g j l e s H v w y z U W L A B E M D G Z P Q V x34 x35 x36 x37 x38 x39) h nx =
 za .add .int x38 (I 1) λv1=>K (F7.fr a b c f i o p q u x9 d g j l e s H v w y z U W L A B E M D G Z P Q V x34 x35 x36 x37 v1 x39) h nx:=by kernel_rfl
theorem F7.zx3 (Inv:Nat->AV->AV->T Blk->Pa->Prop) {m:Nat} (hm:m<N) (hi:Inv m e x38 h nx)
  (step:∀ (m:Nat) (z14 zX z38 z39:AV) (h:T Blk) (nx:Pa) (R:Ks Prop),Inv m z14 z38 h nx->(∀ (m':Nat) (wT wP w38 w39:AV) (h':T Blk) (nx':Pa),m'<m->Inv m' wT w38 h' nx'->R (F7.fr a b c f i o p q u x9 d g j l wT wP H v w y z U W L A B E M D G Z P Q V x34 x35 x36 x37 w38 w39) h' nx'=.ok True)->IR.run F7.t102 C N O R (F7.fr a b c f i o p q u x9 d g j l z14 zX H v w y z U W L A B E M D G Z P Q V x34 x35 x36 x37 z38 z39) h nx=.ok True) :
  IR.run F7.t103 C N O K (F7.fr a b c f i o p q u x9 d g j l e s H v w y z U W L A B E M D G Z P Q V x34 x35 x36 x37 x38 x39) h nx=.ok True:=by
 rw [F7.t103];refine yB (λm tm h nx=>∃ z14 zX z38 z39,tm=(F7.fr a b c f i o p q u x9 d g j l z14 zX H v w y z U W L A B E M D G Z P Q V x34 x35 x36 x37 z38 z39)/\Inv m z14 z38 h nx) ?_ hm ⟨_,_,_,_,rfl,hi⟩;rintro m tm h nx R ⟨z14,zX,z38,z39,rfl,hi⟩ hR;exact step m z14 zX z38 z39 h nx R hi λm' wT wP w38 w39 h' nx' hlt hi'=>hR m' _ h' nx' hlt ⟨_,_,_,_,rfl,hi'⟩
theorem F7.zx4:IR.run F7.t106 C N O K (F7.fr a b c f i o p q u x9 d g j l e s H v w y z U W L A B E M D G Z P Q V x34 x35 x36 x37 x38 x39) h nx =
 zJ 2 f h λv1=>C.fn 43 (.of 43) [v1,b] h nx λv2 h3 n4=>cu 0 v2 λv5=>cu 1 v2 λv6=>K (F7.fr a b c f i o p q u x9 d g j l e s v5 v6 w y z U W L A B E M D G Z P Q V x34 x35 x36 x37 x38 x39) h3 n4:=by kernel_rfl
theorem F7.zx5:IR.run F7.t107 C N O K tm h nx=zP F7.zoq C ⟨tm,[]⟩ h nx (λtm h nx=>K tm.v h nx):=yT ..
theorem F7.ztl:zP (F7.zor r) C ⟨(F7.fr a b c f i o p q u x9 d g j l e s H v w y z U W L A B E M D G Z P Q V x34 x35 x36 x37 x38 x39),[]⟩ h nx Kt =
 za .eql .int v (I 0) λv1=>sG v1 true (λk=>k H) λv2=>sG v1 true (λk=>k e) λv3=>sG v1 true (λk=>za .eql .bool v2 v3 k) λv4=>yF v1 v4 (.bool false) λv5=>zP r C ⟨(F7.fr a b c f i o p q u x9 d g j l e s H v w y z U W L A B E M D G Z P Q V x34 x35 x36 x37 x38 x39),v5::v5::v4::v3::v2::v1::v1::v::[]⟩ h nx Kt:=by kernel_rfl
theorem F7.ztm:zP (F7.zos r) C ⟨(F7.fr a b c f i o p q u x9 d g j l e s H v w y z U W L A B E M D G Z P Q V x34 x35 x36 x37 x38 x39),s0::sT⟩ h nx Kt =
 sGW s0 true (λk=>C.fn 17 (.of 17) [] h nx k) h nx λv1 h2 n3=>zP r C ⟨(F7.fr a b c f i o p q u x9 d g j l e s H v w y z U W L A B E M D G Z P Q V x34 x35 x36 x37 x38 x39),v1::s0::sT⟩ h2 n3 Kt:=by kernel_rfl
theorem F7.ztn:zP (F7.zot []) C ⟨(F7.fr a b c f i o p q u x9 d g j l e s H v w y z U W L A B E M D G Z P Q V x34 x35 x36 x37 x38 x39),s0::s1::sT⟩ h nx Kt =
 yF s1 s0 (.bool false) λv1=>Kt ⟨(F7.fr a b c f v1 o p q u x9 d g j l e s H v w y z U W L A B E M D G Z P Q V x34 x35 x36 x37 x38 x39),v1::s0::s1::sT⟩ h nx:=by kernel_rfl
theorem F7.go:zR tbl N C (.of 7) [a0,a1,a2] h nx K0=IR.run F7.t119 C N (fnO F7.res K0) (zi F7.res K0) (F7.fr a0 a1 a2 .u .u .u .u .u .u .u .u .u .u .u .u .u .u .u .u .u .u .u .u .u .u .u .u .u .u .u .u .u .u .u .u .u .u .u .u .u) h nx:=yC (F:=F7) (by kernel_rfl) (λ_=>by kernel_rfl) (by kernel_rfl)
theorem F7.ret:zi F7.res K0 (F7.fr a b c f i o p q u x9 d g j l e s H v w y z U W L A B E M D G Z P Q V x34 x35 x36 x37 x38 x39) h nx=K0 i h nx:=by kernel_rfl
end
end Go.Ev
