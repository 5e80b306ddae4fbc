import Derived.Test.YtfgpjkchdelphaaGreatDoorIrT
import Derived.Test.YtfgpjkchdelphaaGreatDoorEvD
import Derived.KernelRfl
set_option linter.unusedSimpArgs false
set_option linter.unusedVariables false
namespace Go.Ev
open Go Go.Proofs
set_option maxRecDepth 100000
section
variable {N:Nat} {C:Calls Prop} {K0:Kw Prop} {K R:Ks Prop} {h:T Blk} {nx:Pa} {a b c d e f g i o u l p a0 a1 s0 s1 s2 s3 s4 s5 s6 s7 s8 s9 s10 s11 s12 s13 s14 s15 s16 s17 s18 s19 s20 s21 s22 s23 s24 s25 s26 s27 s28 s29 s30 s31 s32 s33 s34 s35 s36 s37 s38 s39 s40 s41 s42 s43 s44 s45 s46 s47 s48 s49 s50 s51 s52 s53 s54 s55 s56 s57 s58 s59 q s v w y z A B D E G a2 H L M P Q U a3:AV} {O:xw Prop} {tm:T AV} {Kt:KTm} {r:List RO}
theorem uo.gq:IR.run uo.t0 C N O K (uo.fr a b c d e f g i o u l p) h nx =
 K (uo.fr a b (.int .u64 0) (.int .u64 0) e f g i o u l p) h nx:=by kernel_rfl
theorem uo.jv:IR.run uo.t1 C N O K (uo.fr a b c d e f g i o u l p) h nx =
 zh .and .int a (.int .u64 4294967295) fun v1=>K (uo.fr a b c d v1 f g i o u l p) h nx:=by kernel_rfl
theorem uo.uq:IR.run uo.t2 C N O K (uo.fr a b c d e f g i o u l p) h nx =
 zh .shr .int a (.int .u64 32) fun v1=>K (uo.fr a b c d e v1 g i o u l p) h nx:=by kernel_rfl
theorem uo.vk:IR.run uo.t3 C N O K (uo.fr a b c d e f g i o u l p) h nx =
 zh .and .int b (.int .u64 4294967295) fun v1=>K (uo.fr a b c d e f v1 i o u l p) h nx:=by kernel_rfl
theorem uo.cu:IR.run uo.t4 C N O K (uo.fr a b c d e f g i o u l p) h nx =
 zh .shr .int b (.int .u64 32) fun v1=>K (uo.fr a b c d e f g v1 o u l p) h nx:=by kernel_rfl
theorem uo.fZ:IR.run uo.t5 C N O K (uo.fr a b c d e f g i o u l p) h nx =
 zh .mul .int e g fun v1=>K (uo.fr a b c d e f g i v1 u l p) h nx:=by kernel_rfl
theorem uo.pq:IR.run uo.t6 C N O K (uo.fr a b c d e f g i o u l p) h nx =
 zh .mul .int f g fun v1=>zh .shr .int o (.int .u64 32) fun v2=>zh .add .int v1 v2 fun v3=>K (uo.fr a b c d e f g i o v3 l p) h nx:=by kernel_rfl
theorem uo.vz:IR.run uo.t7 C N O K (uo.fr a b c d e f g i o u l p) h nx =
 zh .and .int u (.int .u64 4294967295) fun v1=>K (uo.fr a b c d e f g i o u v1 p) h nx:=by kernel_rfl
theorem uo.dw:IR.run uo.t8 C N O K (uo.fr a b c d e f g i o u l p) h nx =
 zh .shr .int u (.int .u64 32) fun v1=>K (uo.fr a b c d e f g i o u l v1) h nx:=by kernel_rfl
theorem uo.fC:IR.run uo.t9 C N O K (uo.fr a b c d e f g i o u l p) h nx =
 zh .mul .int e i fun v1=>zh .add .int l v1 fun v2=>K (uo.fr a b c d e f g i o u v2 p) h nx:=by kernel_rfl
theorem uo.dh:IR.run uo.t10 C N O K (uo.fr a b c d e f g i o u l p) h nx =
 zh .mul .int f i fun v1=>zh .add .int v1 p fun v2=>zh .shr .int l (.int .u64 32) fun v3=>zh .add .int v2 v3 fun v4=>K (uo.fr a b v4 d e f g i o u l p) h nx:=by kernel_rfl
theorem uo.xu:IR.run uo.t11 C N O K (uo.fr a b c d e f g i o u l p) h nx =
 zh .mul .int a b fun v1=>K (uo.fr a b c v1 e f g i o u l p) h nx:=by kernel_rfl
theorem uo.go:zQ tbl N C (.of 263) [a0,a1] h nx K0=IR.run uo.t23 C N (fnO uo.res K0) (yw uo.res K0) (uo.fr a0 a1 .u .u .u .u .u .u .u .u .u .u) h nx:=yJ (F:=uo) (by kernel_rfl) (fun _=>by kernel_rfl) (by kernel_rfl)
theorem uo.ret:yw uo.res K0 (uo.fr a b c d e f g i o u l p) h nx=K0 (.tup [c,d]) h nx:=by kernel_rfl
theorem bC.gq:IR.run bC.t0 C N O K (bC.fr a b c) h nx =
 K (bC.fr a (.int .u64 0) c) h nx:=by kernel_rfl
theorem bC.jv:IR.run bC.t1 C N O K (bC.fr a b c) h nx =
 zh .lss .int a (I 0) fun v1=>K (bC.fr a b v1) h nx:=by kernel_rfl
theorem bC.uq:IR.run bC.t2 C N O K (bC.fr a b c) h nx =
 sNeg a fun v1=>xS .u64 v1 fun v2=>K (bC.fr a v2 c) h nx:=by kernel_rfl
theorem bC.v2:Arg.ev (.t (.of 2)) ⟨(bC.fr a b c),[]⟩=c:=by kernel_rfl
theorem bC.pq:IR.run bC.t6 C N O K (bC.fr a b c) h nx =
 xS .u64 a fun v1=>K (bC.fr a v1 c) h nx:=by kernel_rfl
theorem bC.go:zQ tbl N C (.of 264) [a0] h nx K0=IR.run bC.t9 C N (fnO bC.res K0) (yw bC.res K0) (bC.fr a0 .u .u) h nx:=yJ (F:=bC) (by kernel_rfl) (fun _=>by kernel_rfl) (by kernel_rfl)
theorem bC.ret:yw bC.res K0 (bC.fr a b c) h nx=K0 b h nx:=by kernel_rfl
theorem ku.gq:IR.run ku.t0 C N O K (ku.fr a b c d) h nx =
 K (ku.fr a .zf c d) h nx:=by kernel_rfl
theorem ku.jv:IR.run ku.t1 C N O K (ku.fr a b c d) h nx =
 sLen a fun v1=>K (ku.fr a b v1 d) h nx:=by kernel_rfl
theorem ku.uq:IR.run ku.t2 C N O K tm h nx=zR ku.oL C ⟨tm,[]⟩ h nx (fun tm h nx=>K tm.v h nx):=yZ ..
theorem ku.oM:zR (ku.aS r) C ⟨(ku.fr a b c d),[]⟩ h nx Kt =
 zh .gtr .int c (I 0) fun v1=>sG v1 true (fun k=>k a) fun v2=>sG v1 true (fun k=>k c) fun v3=>sG v1 true (fun k=>zh .sub .int v3 (I 1) k) fun v4=>sG v1 true (fun k=>zT 1 v2 v4 k) fun v5=>sG v1 true (fun k=>zC v5 h k) fun v6=>zR r C ⟨(ku.fr a b c d),v6::v5::v4::v3::v2::v1::v1::c::[]⟩ h nx Kt:=by kernel_rfl
theorem ku.zal:zR (ku.zar []) C ⟨(ku.fr a b c d),s0::s1::s2::s3::s4::s5::s6::s7::[]⟩ h nx Kt =
 sG s5 true (fun k=>zh .eql .int s0 (.int .u64 0) k) fun v1=>yE s5 v1 (.bool false) fun v2=>Kt ⟨(ku.fr a b c v2),v1::s0::s1::s2::s3::s4::s5::s6::s7::[]⟩ h nx:=by kernel_rfl
theorem ku.v3:Arg.ev (.t (.of 3)) ⟨(ku.fr a b c d),[]⟩=d:=by kernel_rfl
theorem ku.fZ:IR.run ku.t5 C N O K (ku.fr a b c d) h nx =
 zh .sub .int c (I 1) fun v1=>K (ku.fr a b v1 d) h nx:=by kernel_rfl
theorem ku.t8_L (Inv:Nat->AV->T Blk->Pa->Prop) {m:Nat} (hm:m<N) (hi:Inv m c h nx)
  (step:∀ (m:Nat) (z2 z3:AV) (h:T Blk) (nx:Pa) (R:Ks Prop),Inv m z2 h nx->(∀ (m':Nat) (w2 w3:AV) (h':T Blk) (nx':Pa),m'<m->Inv m' w2 h' nx'->R (ku.fr a b w2 w3) h' nx'=.ok True)->IR.run ku.t7 C N O R (ku.fr a b z2 z3) h nx=.ok True) :
  IR.run ku.t8 C N O K (ku.fr a b c d) h nx=.ok True:=by
 rw [ku.t8];refine yC (fun m tm h nx=>∃ z2 z3,tm=(ku.fr a b z2 z3)/\Inv m z2 h nx) ?_ hm ⟨_,_,rfl,hi⟩;rintro m tm h nx R ⟨z2,z3,rfl,hi⟩ hR;exact step m z2 z3 h nx R hi fun m' w2 w3 h' nx' hlt hi'=>hR m' _ h' nx' hlt ⟨_,_,rfl,hi'⟩
theorem ku.dh:IR.run ku.t10 C N O K (ku.fr a b c d) h nx =
 dH 1 a none (some c) none fun v1=>K (ku.fr a v1 c d) h nx:=by kernel_rfl
theorem ku.go:zQ tbl N C (.of 289) [a0] h nx K0=IR.run ku.t14 C N (fnO ku.res K0) (yw ku.res K0) (ku.fr a0 .u .u .u) h nx:=yJ (F:=ku) (by kernel_rfl) (fun _=>by kernel_rfl) (by kernel_rfl)
theorem ku.ret:yw ku.res K0 (ku.fr a b c d) h nx=K0 b h nx:=by kernel_rfl
theorem jk.gq:IR.run jk.t0 C N O K (jk.fr a b c d e f g i o) h nx =
 K (jk.fr a b (I 0) d e f g i o) h nx:=by kernel_rfl
theorem jk.jv:IR.run jk.t1 C N O K (jk.fr a b c d e f g i o) h nx =
 sLen a fun v1=>sLen b fun v2=>zh .neq .int v1 v2 fun v3=>K (jk.fr a b c d v3 f g i o) h nx:=by kernel_rfl
theorem jk.uq:IR.run jk.t2 C N O K (jk.fr a b c d e f g i o) h nx =
 sLen a fun v1=>sLen b fun v2=>zh .lss .int v1 v2 fun v3=>K (jk.fr a b c d e v3 g i o) h nx:=by kernel_rfl
theorem jk.vk:IR.run jk.t3 C N O K (jk.fr a b c d e f g i o) h nx =
 K (jk.fr a b (I (-1)) d e f g i o) h nx:=by kernel_rfl
theorem jk.v5:Arg.ev (.t (.of 5)) ⟨(jk.fr a b c d e f g i o),[]⟩=f:=by kernel_rfl
theorem jk.vz:IR.run jk.t7 C N O K (jk.fr a b c d e f g i o) h nx =
 K (jk.fr a b (I 1) d e f g i o) h nx:=by kernel_rfl
theorem jk.v4:Arg.ev (.t (.of 4)) ⟨(jk.fr a b c d e f g i o),[]⟩=e:=by kernel_rfl
theorem jk.bT:IR.run jk.t12 C N O K (jk.fr a b c d e f g i o) h nx =
 sLen a fun v1=>zh .sub .int v1 (I 1) fun v2=>K (jk.fr a b c v2 e f g i o) h nx:=by kernel_rfl
theorem jk.fD:IR.run jk.t13 C N O K (jk.fr a b c d e f g i o) h nx =
 zh .geq .int d (I 0) fun v1=>K (jk.fr a b c d e f v1 i o) h nx:=by kernel_rfl
theorem jk.v6:Arg.ev (.t (.of 6)) ⟨(jk.fr a b c d e f g i o),[]⟩=g:=by kernel_rfl
theorem jk.sZ:IR.run jk.t16 C N O K (jk.fr a b c d e f g i o) h nx =
 zT 1 a d fun v1=>zC v1 h fun v2=>zT 1 b d fun v3=>zC v3 h fun v4=>zh .neq .int v2 v4 fun v5=>K (jk.fr a b c d e f g v5 o) h nx:=by kernel_rfl
theorem jk.rF:IR.run jk.t17 C N O K (jk.fr a b c d e f g i o) h nx =
 zT 1 a d fun v1=>zC v1 h fun v2=>zT 1 b d fun v3=>zC v3 h fun v4=>zh .lss .int v2 v4 fun v5=>K (jk.fr a b c d e f g i v5) h nx:=by kernel_rfl
theorem jk.aT:IR.run jk.t18 C N O K (jk.fr a b c d e f g i o) h nx =
 K (jk.fr a b (I (-1)) d e f g i o) h nx:=by kernel_rfl
theorem jk.v8:Arg.ev (.t (.of 8)) ⟨(jk.fr a b c d e f g i o),[]⟩=o:=by kernel_rfl
theorem jk.tu:IR.run jk.t22 C N O K (jk.fr a b c d e f g i o) h nx =
 K (jk.fr a b (I 1) d e f g i o) h nx:=by kernel_rfl
theorem jk.v7:Arg.ev (.t (.of 7)) ⟨(jk.fr a b c d e f g i o),[]⟩=i:=by kernel_rfl
theorem jk.zae:IR.run jk.t28 C N O K (jk.fr a b c d e f g i o) h nx =
 zh .sub .int d (I 1) fun v1=>K (jk.fr a b c v1 e f g i o) h nx:=by kernel_rfl
theorem jk.zew (Inv:Nat->AV->T Blk->Pa->Prop) {m:Nat} (hm:m<N) (hi:Inv m d h nx)
  (step:∀ (m:Nat) (z2 z3 z6 z7 z8:AV) (h:T Blk) (nx:Pa) (R:Ks Prop),Inv m z3 h nx->(∀ (m':Nat) (w2 w3 w6 w7 w8:AV) (h':T Blk) (nx':Pa),m'<m->Inv m' w3 h' nx'->R (jk.fr a b w2 w3 e f w6 w7 w8) h' nx'=.ok True)->IR.run jk.t30 C N O R (jk.fr a b z2 z3 e f z6 z7 z8) h nx=.ok True) :
  IR.run jk.t31 C N O K (jk.fr a b c d e f g i o) h nx=.ok True:=by
 rw [jk.t31];refine yC (fun m tm h nx=>∃ z2 z3 z6 z7 z8,tm=(jk.fr a b z2 z3 e f z6 z7 z8)/\Inv m z3 h nx) ?_ hm ⟨_,_,_,_,_,rfl,hi⟩;rintro m tm h nx R ⟨z2,z3,z6,z7,z8,rfl,hi⟩ hR;exact step m z2 z3 z6 z7 z8 h nx R hi fun m' w2 w3 w6 w7 w8 h' nx' hlt hi'=>hR m' _ h' nx' hlt ⟨_,_,_,_,_,rfl,hi'⟩
theorem jk.zex:IR.run jk.t34 C N O K (jk.fr a b c d e f g i o) h nx =
 K (jk.fr a b (I 0) d e f g i o) h nx:=by kernel_rfl
theorem jk.go:zQ tbl N C (.of 261) [a0,a1] h nx K0=IR.run jk.t38 C N (fnO jk.res K0) (yw jk.res K0) (jk.fr a0 a1 .u .u .u .u .u .u .u) h nx:=yJ (F:=jk) (by kernel_rfl) (fun _=>by kernel_rfl) (by kernel_rfl)
theorem jk.ret:yw jk.res K0 (jk.fr a b c d e f g i o) h nx=K0 c h nx:=by kernel_rfl
theorem zy.gq:IR.run zy.t0 C N O K (zy.fr a b c d e f g i o u l p) h nx =
 K (zy.fr a b .zf d e f g i o u l p) h nx:=by kernel_rfl
theorem zy.jv:IR.run zy.t1 C N O K (zy.fr a b c d e f g i o u l p) h nx =
 sLen a fun v1=>sLen b fun v2=>zh .lss .int v1 v2 fun v3=>K (zy.fr a b c d e f g v3 o u l p) h nx:=by kernel_rfl
theorem zy.uq:IR.run zy.t2 C N O K (zy.fr a b c d e f g i o u l p) h nx =
 K (zy.fr b a c d e f g i o u l p) h nx:=by kernel_rfl
theorem zy.v7:Arg.ev (.t (.of 7)) ⟨(zy.fr a b c d e f g i o u l p),[]⟩=i:=by kernel_rfl
theorem zy.fZ:IR.run zy.t5 C N O K (zy.fr a b c d e f g i o u l p) h nx =
 sLen a fun v1=>zh .add .int v1 (I 1) fun v2=>uG 1 8 [(.int .u64 0)] v2 v2 h nx fun v3 h4 n5=>K (zy.fr a b c v3 e f g i o u l p) h4 n5:=by kernel_rfl
theorem zy.pq:IR.run zy.t6 C N O K (zy.fr a b c d e f g i o u l p) h nx =
 K (zy.fr a b c d (.int .u64 0) f g i o u l p) h nx:=by kernel_rfl
theorem zy.vz:IR.run zy.t7 C N O K (zy.fr a b c d e f g i o u l p) h nx =
 sLen a fun v1=>K (zy.fr a b c d e f g i v1 (I 0) l p) h nx:=by kernel_rfl
theorem zy.dw:IR.run zy.t8 C N O K (zy.fr a b c d e f g i o u l p) h nx =
 zh .lss .int u o fun v1=>K (zy.fr a b c d e f g i o u v1 p) h nx:=by kernel_rfl
theorem zy.v10:Arg.ev (.t (.of 10)) ⟨(zy.fr a b c d e f g i o u l p),[]⟩=l:=by kernel_rfl
theorem zy.dh:IR.run zy.t10 C N O K (zy.fr a b c d e f g i o u l p) h nx =
 K (zy.fr a b c d e u g i o u l p) h nx:=by kernel_rfl
theorem zy.xu:IR.run zy.t11 C N O K (zy.fr a b c d e f g i o u l p) h nx =
 K (zy.fr a b c d e f (.int .u64 0) i o u l p) h nx:=by kernel_rfl
theorem zy.bT:IR.run zy.t12 C N O K (zy.fr a b c d e f g i o u l p) h nx =
 sLen b fun v1=>zh .lss .int f v1 fun v2=>K (zy.fr a b c d e f g i o u l v2) h nx:=by kernel_rfl
theorem zy.fD:IR.run zy.t13 C N O K (zy.fr a b c d e f g i o u l p) h nx =
 zT 1 b f fun v1=>zC v1 h fun v2=>K (zy.fr a b c d e f v2 i o u l p) h nx:=by kernel_rfl
theorem zy.v11:Arg.ev (.t (.of 11)) ⟨(zy.fr a b c d e f g i o u l p),[]⟩=p:=by kernel_rfl
theorem zy.sZ:IR.run zy.t16 C N O K tm h nx=zR zy.aJ C ⟨tm,[]⟩ h nx (fun tm h nx=>K tm.v h nx):=yZ ..
theorem zy.eU:zR (zy.aU r) C ⟨(zy.fr a b c d e f g i o u l p),[]⟩ h nx Kt =
 zT 1 a f fun v1=>zC v1 h fun v2=>zR r C ⟨(zy.fr a b c d e f g i o u l p),e::g::v2::v1::f::a::f::d::[]⟩ h nx Kt:=by kernel_rfl
theorem zy.eX:zR (zy.aV r) C ⟨(zy.fr a b c d e f g i o u l p),s0::s1::s2::s3::s4::s5::s6::s7::[]⟩ h nx Kt =
 C.fn 300 (.of 300) [s2,s1,s0] h nx fun v1 h2 n3=>zR r C ⟨(zy.fr a b c d e f g i o u l p),v1::s0::s1::s2::s3::s4::s5::s6::s7::[]⟩ h2 n3 Kt:=by kernel_rfl
theorem zy.zik:zR (zy.zlc r) C ⟨(zy.fr a b c d e f g i o u l p),s0::s1::s2::s3::s4::s5::s6::s7::s8::[]⟩ h nx Kt =
 dm 0 s0 fun v1=>dm 1 s0 fun v2=>zT 1 s8 s7 fun v3=>zX 1 v3 v1 h nx fun v4 h5 n6=>zR r C ⟨(zy.fr a b c d e f g i o u l p),v3::v2::v1::s0::s0::s1::s2::s3::s4::s5::s6::s7::s8::[]⟩ h5 n6 Kt:=by kernel_rfl
theorem zy.zil:zR (zy.zld []) C ⟨(zy.fr a b c d e f g i o u l p),s0::s1::s2::s3::s4::s5::s6::s7::s8::s9::s10::s11::s12::[]⟩ h nx Kt =
 Kt ⟨(zy.fr a b c d s1 f g i o u l p),s0::s1::s2::s3::s4::s5::s6::s7::s8::s9::s10::s11::s12::[]⟩ h nx:=by kernel_rfl
theorem zy.oK:IR.run zy.t21 C N O K (zy.fr a b c d e f g i o u l p) h nx =
 zh .add .int u (I 1) fun v1=>K (zy.fr a b c d e f g i o v1 l p) h nx:=by kernel_rfl
theorem zy.zwx (Inv:Nat->AV->AV->T Blk->Pa->Prop) {m:Nat} (hm:m<N) (hi:Inv m e u h nx)
  (step:∀ (m:Nat) (z4 z5 z6 z9 zA zB:AV) (h:T Blk) (nx:Pa) (R:Ks Prop),Inv m z4 z9 h nx->(∀ (m':Nat) (w4 w5 w6 w9 wA wB:AV) (h':T Blk) (nx':Pa),m'<m->Inv m' w4 w9 h' nx'->R (zy.fr a b c d w4 w5 w6 i o w9 wA wB) h' nx'=.ok True)->IR.run zy.t24 C N O R (zy.fr a b c d z4 z5 z6 i o z9 zA zB) h nx=.ok True) :
  IR.run zy.t25 C N O K (zy.fr a b c d e f g i o u l p) h nx=.ok True:=by
 rw [zy.t25];refine yC (fun m tm h nx=>∃ z4 z5 z6 z9 zA zB,tm=(zy.fr a b c d z4 z5 z6 i o z9 zA zB)/\Inv m z4 z9 h nx) ?_ hm ⟨_,_,_,_,_,_,rfl,hi⟩;rintro m tm h nx R ⟨z4,z5,z6,z9,zA,zB,rfl,hi⟩ hR;exact step m z4 z5 z6 z9 zA zB h nx R hi fun m' w4 w5 w6 w9 wA wB h' nx' hlt hi'=>hR m' _ h' nx' hlt ⟨_,_,_,_,_,_,rfl,hi'⟩
theorem zy.zae:IR.run zy.t28 C N O K (zy.fr a b c d e f g i o u l p) h nx =
 sLen a fun v1=>zT 1 d v1 fun v2=>zX 1 v2 e h nx fun v3 h4 n5=>K (zy.fr a b c d e f g i o u l p) h4 n5:=by kernel_rfl
theorem zy.zle:IR.run zy.t29 C N O K (zy.fr a b c d e f g i o u l p) h nx =
 C.fn 289 (.of 289) [d] h nx fun v1 h2 n3=>K (zy.fr a b v1 d e f g i o u l p) h2 n3:=by kernel_rfl
theorem zy.go:zQ tbl N C (.of 260) [a0,a1] h nx K0=IR.run zy.t36 C N (fnO zy.res K0) (yw zy.res K0) (zy.fr a0 a1 .u .u .u .u .u .u .u .u .u .u) h nx:=yJ (F:=zy) (by kernel_rfl) (fun _=>by kernel_rfl) (by kernel_rfl)
theorem zy.ret:yw zy.res K0 (zy.fr a b c d e f g i o u l p) h nx=K0 c h nx:=by kernel_rfl
theorem yu.gq:IR.run yu.t0 C N O K (yu.fr a b c d e f g i o u l) h nx =
 K (yu.fr a b .zf d e f g i o u l) h nx:=by kernel_rfl
theorem yu.jv:IR.run yu.t1 C N O K (yu.fr a b c d e f g i o u l) h nx =
 sLen a fun v1=>uG 1 8 [(.int .u64 0)] v1 v1 h nx fun v2 h3 n4=>K (yu.fr a b c v2 e f g i o u l) h3 n4:=by kernel_rfl
theorem yu.uq:IR.run yu.t2 C N O K (yu.fr a b c d e f g i o u l) h nx =
 K (yu.fr a b c d (.int .u64 0) f g i o u l) h nx:=by kernel_rfl
theorem yu.vk:IR.run yu.t3 C N O K (yu.fr a b c d e f g i o u l) h nx =
 sLen a fun v1=>K (yu.fr a b c d e f g v1 (I 0) u l) h nx:=by kernel_rfl
theorem yu.cu:IR.run yu.t4 C N O K (yu.fr a b c d e f g i o u l) h nx =
 zh .lss .int o i fun v1=>K (yu.fr a b c d e f g i o v1 l) h nx:=by kernel_rfl
theorem yu.v9:Arg.ev (.t (.of 9)) ⟨(yu.fr a b c d e f g i o u l),[]⟩=u:=by kernel_rfl
theorem yu.pq:IR.run yu.t6 C N O K (yu.fr a b c d e f g i o u l) h nx =
 K (yu.fr a b c d e o g i o u l) h nx:=by kernel_rfl
theorem yu.vz:IR.run yu.t7 C N O K (yu.fr a b c d e f g i o u l) h nx =
 K (yu.fr a b c d e f (.int .u64 0) i o u l) h nx:=by kernel_rfl
theorem yu.dw:IR.run yu.t8 C N O K (yu.fr a b c d e f g i o u l) h nx =
 sLen b fun v1=>zh .lss .int f v1 fun v2=>K (yu.fr a b c d e f g i o u v2) h nx:=by kernel_rfl
theorem yu.fC:IR.run yu.t9 C N O K (yu.fr a b c d e f g i o u l) h nx =
 zT 1 b f fun v1=>zC v1 h fun v2=>K (yu.fr a b c d e f v2 i o u l) h nx:=by kernel_rfl
theorem yu.v10:Arg.ev (.t (.of 10)) ⟨(yu.fr a b c d e f g i o u l),[]⟩=l:=by kernel_rfl
theorem yu.bT:IR.run yu.t12 C N O K tm h nx=zR yu.r9_0 C ⟨tm,[]⟩ h nx (fun tm h nx=>K tm.v h nx):=yZ ..
theorem yu.zlf:zR (yu.zsb r) C ⟨(yu.fr a b c d e f g i o u l),[]⟩ h nx Kt =
 zT 1 a f fun v1=>zC v1 h fun v2=>zR r C ⟨(yu.fr a b c d e f g i o u l),e::g::v2::v1::f::a::f::d::[]⟩ h nx Kt:=by kernel_rfl
theorem yu.zlg:zR (yu.zsc r) C ⟨(yu.fr a b c d e f g i o u l),s0::s1::s2::s3::s4::s5::s6::s7::[]⟩ h nx Kt =
 C.fn 301 (.of 301) [s2,s1,s0] h nx fun v1 h2 n3=>zR r C ⟨(yu.fr a b c d e f g i o u l),v1::s0::s1::s2::s3::s4::s5::s6::s7::[]⟩ h2 n3 Kt:=by kernel_rfl
theorem yu.zlh:zR (yu.zsd r) C ⟨(yu.fr a b c d e f g i o u l),s0::s1::s2::s3::s4::s5::s6::s7::s8::[]⟩ h nx Kt =
 dm 0 s0 fun v1=>dm 1 s0 fun v2=>zT 1 s8 s7 fun v3=>zX 1 v3 v1 h nx fun v4 h5 n6=>zR r C ⟨(yu.fr a b c d e f g i o u l),v3::v2::v1::s0::s0::s1::s2::s3::s4::s5::s6::s7::s8::[]⟩ h5 n6 Kt:=by kernel_rfl
theorem yu.zli:zR (yu.zse []) C ⟨(yu.fr a b c d e f g i o u l),s0::s1::s2::s3::s4::s5::s6::s7::s8::s9::s10::s11::s12::[]⟩ h nx Kt =
 Kt ⟨(yu.fr a b c d s1 f g i o u l),s0::s1::s2::s3::s4::s5::s6::s7::s8::s9::s10::s11::s12::[]⟩ h nx:=by kernel_rfl
theorem yu.rF:IR.run yu.t17 C N O K (yu.fr a b c d e f g i o u l) h nx =
 zh .add .int o (I 1) fun v1=>K (yu.fr a b c d e f g i v1 u l) h nx:=by kernel_rfl
theorem yu.zlj (Inv:Nat->AV->AV->T Blk->Pa->Prop) {m:Nat} (hm:m<N) (hi:Inv m e o h nx)
  (step:∀ (m:Nat) (z4 z5 z6 z8 z9 zA:AV) (h:T Blk) (nx:Pa) (R:Ks Prop),Inv m z4 z8 h nx->(∀ (m':Nat) (w4 w5 w6 w8 w9 wA:AV) (h':T Blk) (nx':Pa),m'<m->Inv m' w4 w8 h' nx'->R (yu.fr a b c d w4 w5 w6 i w8 w9 wA) h' nx'=.ok True)->IR.run yu.t20 C N O R (yu.fr a b c d z4 z5 z6 i z8 z9 zA) h nx=.ok True) :
  IR.run yu.t21 C N O K (yu.fr a b c d e f g i o u l) h nx=.ok True:=by
 rw [yu.t21];refine yC (fun m tm h nx=>∃ z4 z5 z6 z8 z9 zA,tm=(yu.fr a b c d z4 z5 z6 i z8 z9 zA)/\Inv m z4 z8 h nx) ?_ hm ⟨_,_,_,_,_,_,rfl,hi⟩;rintro m tm h nx R ⟨z4,z5,z6,z8,z9,zA,rfl,hi⟩ hR;exact step m z4 z5 z6 z8 z9 zA h nx R hi fun m' w4 w5 w6 w8 w9 wA h' nx' hlt hi'=>hR m' _ h' nx' hlt ⟨_,_,_,_,_,_,rfl,hi'⟩
theorem yu.aj:IR.run yu.t24 C N O K (yu.fr a b c d e f g i o u l) h nx =
 C.fn 289 (.of 289) [d] h nx fun v1 h2 n3=>K (yu.fr a b v1 d e f g i o u l) h2 n3:=by kernel_rfl
theorem yu.go:zQ tbl N C (.of 262) [a0,a1] h nx K0=IR.run yu.t29 C N (fnO yu.res K0) (yw yu.res K0) (yu.fr a0 a1 .u .u .u .u .u .u .u .u .u) h nx:=yJ (F:=yu) (by kernel_rfl) (fun _=>by kernel_rfl) (by kernel_rfl)
theorem yu.ret:yw yu.res K0 (yu.fr a b c d e f g i o u l) h nx=K0 c h nx:=by kernel_rfl
theorem zx.gq:IR.run zx.t0 C N O K (zx.fr a b c d e f g i o u l p q s v w y z A B) h nx =
 K (zx.fr a b .zf d e f g i o u l p q s v w y z A B) h nx:=by kernel_rfl
theorem zx.jv:IR.run zx.t1 C N O K (zx.fr a b c d e f g i o u l p q s v w y z A B) h nx =
 sLen a fun v1=>sLen b fun v2=>zh .add .int v1 v2 fun v3=>uG 1 8 [(.int .u64 0)] v3 v3 h nx fun v4 h5 n6=>K (zx.fr a b c v4 e f g i o u l p q s v w y z A B) h5 n6:=by kernel_rfl
theorem zx.uq:IR.run zx.t2 C N O K (zx.fr a b c d e f g i o u l p q s v w y z A B) h nx =
 sLen a fun v1=>K (zx.fr a b c d e f g i o u l p a v1 (I 0) w y z A B) h nx:=by kernel_rfl
theorem zx.vk:IR.run zx.t3 C N O K (zx.fr a b c d e f g i o u l p q s v w y z A B) h nx =
 zh .lss .int v s fun v1=>K (zx.fr a b c d e f g i o u l p q s v v1 y z A B) h nx:=by kernel_rfl
theorem zx.v15:Arg.ev (.t (.of 15)) ⟨(zx.fr a b c d e f g i o u l p q s v w y z A B),[]⟩=w:=by kernel_rfl
theorem zx.fZ:IR.run zx.t5 C N O K (zx.fr a b c d e f g i o u l p q s v w y z A B) h nx =
 zT 1 q v fun v1=>zC v1 h fun v2=>K (zx.fr a b c d v v2 g i o u l p q s v w y z A B) h nx:=by kernel_rfl
theorem zx.pq:IR.run zx.t6 C N O K (zx.fr a b c d e f g i o u l p q s v w y z A B) h nx =
 K (zx.fr a b c d e f (.int .u64 0) i o u l p q s v w y z A B) h nx:=by kernel_rfl
theorem zx.vz:IR.run zx.t7 C N O K (zx.fr a b c d e f g i o u l p q s v w y z A B) h nx =
 sLen b fun v1=>K (zx.fr a b c d e f g i o u l p q s v w b v1 (I 0) B) h nx:=by kernel_rfl
theorem zx.dw:IR.run zx.t8 C N O K (zx.fr a b c d e f g i o u l p q s v w y z A B) h nx =
 zh .lss .int A z fun v1=>K (zx.fr a b c d e f g i o u l p q s v w y z A v1) h nx:=by kernel_rfl
theorem zx.v19:Arg.ev (.t (.of 19)) ⟨(zx.fr a b c d e f g i o u l p q s v w y z A B),[]⟩=B:=by kernel_rfl
theorem zx.dh:IR.run zx.t10 C N O K (zx.fr a b c d e f g i o u l p q s v w y z A B) h nx =
 zT 1 y A fun v1=>zC v1 h fun v2=>K (zx.fr a b c d e f g A v2 u l p q s v w y z A B) h nx:=by kernel_rfl
theorem zx.xu:IR.run zx.t11 C N O K (zx.fr a b c d e f g i o u l p q s v w y z A B) h nx =
 C.fn 263 (.of 263) [f,o] h nx fun v1 h2 n3=>dm 0 v1 fun v4=>dm 1 v1 fun v5=>K (zx.fr a b c d e f g i o v4 v5 p q s v w y z A B) h2 n3:=by kernel_rfl
theorem zx.bT:IR.run zx.t12 C N O K (zx.fr a b c d e f g i o u l p q s v w y z A B) h nx =
 K (zx.fr a b c d e f g i o u l (.int .u64 0) q s v w y z A B) h nx:=by kernel_rfl
theorem zx.fD:IR.run zx.t13 C N O K tm h nx=zR zx.aJ C ⟨tm,[]⟩ h nx (fun tm h nx=>K tm.v h nx):=yZ ..
theorem zx.eU:zR (zx.aU r) C ⟨(zx.fr a b c d e f g i o u l p q s v w y z A B),[]⟩ h nx Kt =
 zh .add .int e i fun v1=>zT 1 d v1 fun v2=>zC v2 h fun v3=>C.fn 300 (.of 300) [l,v3,(.int .u64 0)] h nx fun v4 h5 n6=>zR r C ⟨(zx.fr a b c d e f g i o u l p q s v w y z A B),v4::v3::v2::v1::i::e::d::l::[]⟩ h5 n6 Kt:=by kernel_rfl
theorem zx.eX:zR (zx.aV []) C ⟨(zx.fr a b c d e f g i o u l p q s v w y z A B),s0::s1::s2::s3::s4::s5::s6::s7::[]⟩ h nx Kt =
 dm 0 s0 fun v1=>dm 1 s0 fun v2=>Kt ⟨(zx.fr a b c d e f g i o u v1 v2 q s v w y z A B),v2::v1::s0::s0::s1::s2::s3::s4::s5::s6::s7::[]⟩ h nx:=by kernel_rfl
theorem zx.fG:IR.run zx.t14 C N O K (zx.fr a b c d e f g i o u l p q s v w y z A B) h nx =
 zh .add .int u p fun v1=>K (zx.fr a b c d e f g i o v1 l p q s v w y z A B) h nx:=by kernel_rfl
theorem zx.rJ:IR.run zx.t15 C N O K (zx.fr a b c d e f g i o u l p q s v w y z A B) h nx =
 C.fn 300 (.of 300) [l,g,(.int .u64 0)] h nx fun v1 h2 n3=>dm 0 v1 fun v4=>dm 1 v1 fun v5=>K (zx.fr a b c d e f g i o u v4 v5 q s v w y z A B) h2 n3:=by kernel_rfl
theorem zx.sZ:IR.run zx.t16 C N O K (zx.fr a b c d e f g i o u l p q s v w y z A B) h nx =
 zh .add .int e i fun v1=>zh .add .int u p fun v2=>zT 1 d v1 fun v3=>zX 1 v3 l h nx fun v4 h5 n6=>K (zx.fr a b c d e f v2 i o u l p q s v w y z A B) h5 n6:=by kernel_rfl
theorem zx.aj:IR.run zx.t24 C N O K (zx.fr a b c d e f g i o u l p q s v w y z A B) h nx =
 zh .add .int A (I 1) fun v1=>K (zx.fr a b c d e f g i o u l p q s v w y z v1 B) h nx:=by kernel_rfl
theorem zx.zwy (Inv:Nat->AV->AV->T Blk->Pa->Prop) {m:Nat} (hm:m<N) (hi:Inv m g A h nx)
  (step:∀ (m:Nat) (z6 z7 z8 z9 zA zB zD zE:AV) (h:T Blk) (nx:Pa) (R:Ks Prop),Inv m z6 zD h nx->(∀ (m':Nat) (w6 w7 w8 w9 wA wB wC wD:AV) (h':T Blk) (nx':Pa),m'<m->Inv m' w6 wC h' nx'->R (zx.fr a b c d e f w6 w7 w8 w9 wA wB q s v w y z wC wD) h' nx'=.ok True)->IR.run zx.t27 C N O R (zx.fr a b c d e f z6 z7 z8 z9 zA zB q s v w y z zD zE) h nx=.ok True) :
  IR.run zx.t28 C N O K (zx.fr a b c d e f g i o u l p q s v w y z A B) h nx=.ok True:=by
 rw [zx.t28];refine yC (fun m tm h nx=>∃ z6 z7 z8 z9 zA zB zD zE,tm=(zx.fr a b c d e f z6 z7 z8 z9 zA zB q s v w y z zD zE)/\Inv m z6 zD h nx) ?_ hm ⟨_,_,_,_,_,_,_,_,rfl,hi⟩;rintro m tm h nx R ⟨z6,z7,z8,z9,zA,zB,zD,zE,rfl,hi⟩ hR;exact step m z6 z7 z8 z9 zA zB zD zE h nx R hi fun m' w6 w7 w8 w9 wA wB wC wD h' nx' hlt hi'=>hR m' _ h' nx' hlt ⟨_,_,_,_,_,_,_,_,rfl,hi'⟩
theorem zx.zlk:IR.run zx.t31 C N O K (zx.fr a b c d e f g i o u l p q s v w y z A B) h nx =
 sLen b fun v1=>zh .add .int e v1 fun v2=>zT 1 d v2 fun v3=>zX 1 v3 g h nx fun v4 h5 n6=>K (zx.fr a b c d e f g i o u l p q s v w y z A B) h5 n6:=by kernel_rfl
theorem zx.zwz:IR.run zx.t36 C N O K (zx.fr a b c d e f g i o u l p q s v w y z A B) h nx =
 zh .add .int v (I 1) fun v1=>K (zx.fr a b c d e f g i o u l p q s v1 w y z A B) h nx:=by kernel_rfl
theorem zx.zw0 (Inv:Nat->AV->T Blk->Pa->Prop) {m:Nat} (hm:m<N) (hi:Inv m v h nx)
  (step:∀ (m:Nat) (z4 z5 z6 z7 z8 z9 zA zB zF zG zI zJ zD zE:AV) (h:T Blk) (nx:Pa) (R:Ks Prop),Inv m zF h nx->(∀ (m':Nat) (w4 w5 w6 w7 w8 w9 wA wB wE wF wG wH wC wD:AV) (h':T Blk) (nx':Pa),m'<m->Inv m' wE h' nx'->R (zx.fr a b c d w4 w5 w6 w7 w8 w9 wA wB q s wE wF wG wH wC wD) h' nx'=.ok True)->IR.run zx.t39 C N O R (zx.fr a b c d z4 z5 z6 z7 z8 z9 zA zB q s zF zG zI zJ zD zE) h nx=.ok True) :
  IR.run zx.t40 C N O K (zx.fr a b c d e f g i o u l p q s v w y z A B) h nx=.ok True:=by
 rw [zx.t40];refine yC (fun m tm h nx=>∃ z4 z5 z6 z7 z8 z9 zA zB zF zG zI zJ zD zE,tm=(zx.fr a b c d z4 z5 z6 z7 z8 z9 zA zB q s zF zG zI zJ zD zE)/\Inv m zF h nx) ?_ hm ⟨_,_,_,_,_,_,_,_,_,_,_,_,_,_,rfl,hi⟩;rintro m tm h nx R ⟨z4,z5,z6,z7,z8,z9,zA,zB,zF,zG,zI,zJ,zD,zE,rfl,hi⟩ hR;exact step m z4 z5 z6 z7 z8 z9 zA zB zF zG zI zJ zD zE h nx R hi fun m' w4 w5 w6 w7 w8 w9 wA wB wE wF wG wH wC wD h' nx' hlt hi'=>hR m' _ h' nx' hlt ⟨_,_,_,_,_,_,_,_,_,_,_,_,_,_,rfl,hi'⟩
theorem zx.zw1:IR.run zx.t43 C N O K (zx.fr a b c d e f g i o u l p q s v w y z A B) h nx =
 C.fn 289 (.of 289) [d] h nx fun v1 h2 n3=>K (zx.fr a b v1 d e f g i o u l p q s v w y z A B) h2 n3:=by kernel_rfl
theorem zx.go:zQ tbl N C (.of 265) [a0,a1] h nx K0=IR.run zx.t47 C N (fnO zx.res K0) (yw zx.res K0) (zx.fr a0 a1 .u .u .u .u .u .u .u .u .u .u .u .u .u .u .u .u .u .u) h nx:=yJ (F:=zx) (by kernel_rfl) (fun _=>by kernel_rfl) (by kernel_rfl)
theorem zx.ret:yw zx.res K0 (zx.fr a b c d e f g i o u l p q s v w y z A B) h nx=K0 c h nx:=by kernel_rfl
theorem qx.gq:IR.run qx.t0 C N O K (qx.fr a b c d e f) h nx =
 bH a h nx fun v1 h2 n3=>K (qx.fr a v1 (.bool false) .zf e f) h2 n3:=by kernel_rfl
theorem qx.jv:IR.run qx.t1 C N O K (qx.fr a b c d e f) h nx =
 zH 1 b fun v1=>zC v1 h fun v2=>zh .neq (.nil .sl) v2 .zf fun v3=>K (qx.fr a b c d v3 f) h nx:=by kernel_rfl
theorem qx.uq:IR.run qx.t2 C N O K (qx.fr a b c d e f) h nx =
 zH 0 b fun v1=>zC v1 h fun v2=>zh .lss .int v2 (I 0) fun v3=>zH 1 b fun v4=>zC v4 h fun v5=>K (qx.fr a b v3 v5 e f) h nx:=by kernel_rfl
theorem qx.cu:IR.run qx.t4 C N O K (qx.fr a b c d e f) h nx =
 zH 0 b fun v1=>zC v1 h fun v2=>zh .eql .int v2 (I 0) fun v3=>K (qx.fr a b c d e v3) h nx:=by kernel_rfl
theorem qx.fZ:IR.run qx.t5 C N O K (qx.fr a b c d e f) h nx =
 K (qx.fr a b (.bool false) .zf e f) h nx:=by kernel_rfl
theorem qx.v5:Arg.ev (.t (.of 5)) ⟨(qx.fr a b c d e f),[]⟩=f:=by kernel_rfl
theorem qx.v4:Arg.ev (.t (.of 4)) ⟨(qx.fr a b c d e f),[]⟩=e:=by kernel_rfl
theorem qx.bT:IR.run qx.t12 C N O K (qx.fr a b c d e f) h nx =
 zH 0 b fun v1=>zC v1 h fun v2=>zh .lss .int v2 (I 0) fun v3=>zH 0 b fun v4=>zC v4 h fun v5=>C.fn 264 (.of 264) [v5] h nx fun v6 h7 n8=>(zh .lss .int v2 (I 0) fun vA=>zW vA v3 ((zC v1 h7 fun vB=>zW vB v2 ((zH 0 b fun vC=>zW vC v1 (yU 1 1 [(.int .u64 0)] [(0,1,v6)] h7 n8 fun v9 hA nA=>zW v3 v3 ((zh .lss .int v2 (I 0) fun vD=>zW vD v3 ((zC v1 hA fun vE=>zW vE v2 ((zH 0 b fun vF=>zW vF v1 (K (qx.fr a b v3 v9 e f) hA nA))))))))))))):=by kernel_rfl
theorem qx.go:zQ tbl N C (.of 249) [a0] h nx K0=IR.run qx.t15 C N (fnO qx.res K0) (yw qx.res K0) (qx.fr a0 .u .u .u .u .u) h nx:=yJ (F:=qx) (by kernel_rfl) (fun _=>by kernel_rfl) (by kernel_rfl)
theorem qx.ret:yw qx.res K0 (qx.fr a b c d e f) h nx=K0 (.tup [c,d]) h nx:=by kernel_rfl
theorem je.gq:IR.run je.t0 C N O K (je.fr a b c d e f g) h nx =
 yS [(I 0),.zf] h nx fun v1 h2 n3=>K (je.fr a b v1 d e f g) h2 n3:=by kernel_rfl
theorem je.jv:IR.run je.t1 C N O K (je.fr a b c d e f g) h nx =
 sLen b fun v1=>zh .eql .int v1 (I 0) fun v2=>K (je.fr a b c v2 e f g) h nx:=by kernel_rfl
theorem je.uq:IR.run je.t2 C N O K (je.fr a b c d e f g) h nx =
 yV [(I 0),.zf] [] fun v1=>zX 2 c v1 h nx fun v2 h3 n4=>K (je.fr a b c d e f g) h3 n4:=by kernel_rfl
theorem je.cu:IR.run je.t4 C N O K tm h nx=zR je.r3_0 C ⟨tm,[]⟩ h nx (fun tm h nx=>K tm.v h nx):=yZ ..
theorem je.zgz:zR (je.zey r) C ⟨(je.fr a b c d e f g),[]⟩ h nx Kt =
 sLen b fun v1=>zh .eql .int v1 (I 1) fun v2=>sG v2 true (fun k=>k b) fun v3=>sG v2 true (fun k=>zT 1 v3 (I 0) k) fun v4=>sG v2 true (fun k=>zC v4 h k) fun v5=>sG v2 true (fun k=>zh .leq .int v5 (.int .u64 9223372036854775807) k) fun v6=>zR r C ⟨(je.fr a b c d e f g),v6::v5::v4::v3::v2::v2::v1::b::[]⟩ h nx Kt:=by kernel_rfl
theorem je.zdl:zR (je.zez []) C ⟨(je.fr a b c d e f g),s0::s1::s2::s3::s4::s5::s6::s7::[]⟩ h nx Kt =
 yE s4 s0 (.bool false) fun v1=>sG v1 true (fun k=>k a) fun v2=>yE v1 v2 (.bool false) fun v3=>Kt ⟨(je.fr a b c d v3 f g),v3::v2::v1::v1::s0::s1::s2::s3::s4::s5::s6::s7::[]⟩ h nx:=by kernel_rfl
theorem je.fZ:IR.run je.t5 C N O K (je.fr a b c d e f g) h nx =
 zT 1 b (I 0) fun v1=>zC v1 h fun v2=>xS .i64 v2 fun v3=>sNeg v3 fun v4=>yV [(I 0),.zf] [(0,1,v4)] fun v5=>zX 2 c v5 h nx fun v6 h7 n8=>K (je.fr a b c d e f g) h7 n8:=by kernel_rfl
theorem je.vz:IR.run je.t7 C N O K tm h nx=zR je.r5_0 C ⟨tm,[]⟩ h nx (fun tm h nx=>K tm.v h nx):=yZ ..
theorem je.zg0:zR (je.zsf r) C ⟨(je.fr a b c d e f g),[]⟩ h nx Kt =
 sLen b fun v1=>zh .eql .int v1 (I 1) fun v2=>sG v2 true (fun k=>k b) fun v3=>sG v2 true (fun k=>zT 1 v3 (I 0) k) fun v4=>sG v2 true (fun k=>zC v4 h k) fun v5=>sG v2 true (fun k=>zh .leq .int v5 (.int .u64 9223372036854775807) k) fun v6=>zR r C ⟨(je.fr a b c d e f g),v6::v5::v4::v3::v2::v2::v1::b::[]⟩ h nx Kt:=by kernel_rfl
theorem je.zg1:zR (je.zsg []) C ⟨(je.fr a b c d e f g),s0::s1::s2::s3::s4::s5::s6::s7::[]⟩ h nx Kt =
 yE s4 s0 (.bool false) fun v1=>Kt ⟨(je.fr a b c d e v1 g),v1::s0::s1::s2::s3::s4::s5::s6::s7::[]⟩ h nx:=by kernel_rfl
theorem je.dw:IR.run je.t8 C N O K (je.fr a b c d e f g) h nx =
 zT 1 b (I 0) fun v1=>zC v1 h fun v2=>xS .i64 v2 fun v3=>yV [(I 0),.zf] [(0,1,v3)] fun v4=>zX 2 c v4 h nx fun v5 h6 n7=>K (je.fr a b c d e f g) h6 n7:=by kernel_rfl
theorem je.dh:IR.run je.t10 C N O K (je.fr a b c d e f g) h nx =
 K (je.fr a b c d e f a) h nx:=by kernel_rfl
theorem je.xu:IR.run je.t11 C N O K (je.fr a b c d e f g) h nx =
 yV [(I 0),.zf] [(0,1,(I (-1))),(1,1,b)] fun v1=>zX 2 c v1 h nx fun v2 h3 n4=>K (je.fr a b c d e f g) h3 n4:=by kernel_rfl
theorem je.v6:Arg.ev (.t (.of 6)) ⟨(je.fr a b c d e f g),[]⟩=g:=by kernel_rfl
theorem je.v5:Arg.ev (.t (.of 5)) ⟨(je.fr a b c d e f g),[]⟩=f:=by kernel_rfl
theorem je.v4:Arg.ev (.t (.of 4)) ⟨(je.fr a b c d e f g),[]⟩=e:=by kernel_rfl
theorem je.v3:Arg.ev (.t (.of 3)) ⟨(je.fr a b c d e f g),[]⟩=d:=by kernel_rfl
theorem je.tu:IR.run je.t22 C N O K (je.fr a b c d e f g) h nx =
 yV [(I 0),.zf] [(0,1,(I 1)),(1,1,b)] fun v1=>zX 2 c v1 h nx fun v2 h3 n4=>K (je.fr a b c d e f g) h3 n4:=by kernel_rfl
theorem je.go:zQ tbl N C (.of 257) [a0,a1] h nx K0=IR.run je.t25 C N (fnO je.res K0) (yw je.res K0) (je.fr a0 a1 .u .u .u .u .u) h nx:=yJ (F:=je) (by kernel_rfl) (fun _=>by kernel_rfl) (by kernel_rfl)
theorem je.ret:yw je.res K0 (je.fr a b c d e f g) h nx=zO 2 c h fun v1=>K0 v1 h nx:=by kernel_rfl
theorem fJ.gq:IR.run fJ.t0 C N O K (fJ.fr a b) h nx =
 yS [(I 0),.zf] h nx fun v1 h2 n3=>K (fJ.fr a v1) h2 n3:=by kernel_rfl
theorem fJ.jv:IR.run fJ.t1 C N O K (fJ.fr a b) h nx =
 yV [(I 0),.zf] [(0,1,a)] fun v1=>zX 2 b v1 h nx fun v2 h3 n4=>K (fJ.fr a b) h3 n4:=by kernel_rfl
theorem fJ.go:zQ tbl N C (.of 187) [a0] h nx K0=IR.run fJ.t3 C N (fnO fJ.res K0) (yw fJ.res K0) (fJ.fr a0 .u) h nx:=yJ (F:=fJ) (by kernel_rfl) (fun _=>by kernel_rfl) (by kernel_rfl)
theorem fJ.ret:yw fJ.res K0 (fJ.fr a b) h nx=zO 2 b h fun v1=>K0 v1 h nx:=by kernel_rfl
theorem fK.gq:IR.run fK.t0 C N O K (fK.fr a b c) h nx =
 bH a h nx fun v1 h2 n3=>K (fK.fr a v1 (I 0)) h2 n3:=by kernel_rfl
theorem fK.jv:IR.run fK.t1 C N O K (fK.fr a b c) h nx =
 zH 0 b fun v1=>zC v1 h fun v2=>sMin false (I 1) [v2] fun v3=>sMin true (I (-1)) [v3] fun v4=>K (fK.fr a b v4) h nx:=by kernel_rfl
theorem fK.go:zQ tbl N C (.of 194) [a0] h nx K0=IR.run fK.t3 C N (fnO fK.res K0) (yw fK.res K0) (fK.fr a0 .u .u) h nx:=yJ (F:=fK) (by kernel_rfl) (fun _=>by kernel_rfl) (by kernel_rfl)
theorem fK.ret:yw fK.res K0 (fK.fr a b c) h nx=K0 c h nx:=by kernel_rfl
theorem xh.gq:IR.run xh.t0 C N O K (xh.fr a b c d e f) h nx =
 bH a h nx fun v1 h2 n3=>yS [(I 0),.zf] h2 n3 fun v4 h5 n6=>K (xh.fr a v1 v4 d e f) h5 n6:=by kernel_rfl
theorem xh.jv:IR.run xh.t1 C N O K (xh.fr a b c d e f) h nx =
 zH 1 b fun v1=>zC v1 h fun v2=>zh .eql (.nil .sl) v2 .zf fun v3=>sG v3 true (fun k=>zH 0 b k) fun v4=>sG v3 true (fun k=>zC v4 h k) fun v5=>sG v3 true (fun k=>zh .neq .int v5 (I (-9223372036854775808)) k) fun v6=>yE v3 v6 (.bool false) fun v7=>K (xh.fr a b c d e v7) h nx:=by kernel_rfl
theorem xh.uq:IR.run xh.t2 C N O K (xh.fr a b c d e f) h nx =
 zH 0 b fun v1=>zC v1 h fun v2=>sNeg v2 fun v3=>yV [(I 0),.zf] [(0,1,v3)] fun v4=>zX 2 c v4 h nx fun v5 h6 n7=>K (xh.fr a b c d e f) h6 n7:=by kernel_rfl
theorem xh.v5:Arg.ev (.t (.of 5)) ⟨(xh.fr a b c d e f),[]⟩=f:=by kernel_rfl
theorem xh.pq:IR.run xh.t6 C N O K (xh.fr a b c d e f) h nx =
 zO 2 b h fun v1=>C.fn 249 (.of 249) [v1] h nx fun v2 h3 n4=>dm 0 v2 fun v5=>dm 1 v2 fun v6=>K (xh.fr a b c v5 v6 f) h3 n4:=by kernel_rfl
theorem xh.vz:IR.run xh.t7 C N O K (xh.fr a b c d e f) h nx =
 sNot d fun v1=>C.fn 257 (.of 257) [v1,e] h nx fun v2 h3 n4=>zX 2 c v2 h3 n4 fun v5 h6 n7=>K (xh.fr a b c d e f) h6 n7:=by kernel_rfl
theorem xh.go:zQ tbl N C (.of 193) [a0] h nx K0=IR.run xh.t11 C N (fnO xh.res K0) (yw xh.res K0) (xh.fr a0 .u .u .u .u .u) h nx:=yJ (F:=xh) (by kernel_rfl) (fun _=>by kernel_rfl) (by kernel_rfl)
theorem xh.ret:yw xh.res K0 (xh.fr a b c d e f) h nx=zO 2 c h fun v1=>K0 v1 h nx:=by kernel_rfl
theorem qg.gq:IR.run qg.t0 C N O K (qg.fr a b c) h nx =
 K (qg.fr a .zf c) h nx:=by kernel_rfl
theorem qg.jv:IR.run qg.t1 C N O K tm h nx=zR qg.aA C ⟨tm,[]⟩ h nx (fun tm h nx=>K tm.v h nx):=yZ ..
theorem qg.aB:zR (qg.tN r) C ⟨(qg.fr a b c),[]⟩ h nx Kt =
 sLen a fun v1=>zh .gtr .int v1 (I 0) fun v2=>sG v2 true (fun k=>k a) fun v3=>sG v2 true (fun k=>k a) fun v4=>sG v2 true (fun k=>sLen v4 k) fun v5=>sG v2 true (fun k=>zh .sub .int v5 (I 1) k) fun v6=>zR r C ⟨(qg.fr a b c),v6::v5::v4::v3::v2::v2::v1::a::[]⟩ h nx Kt:=by kernel_rfl
theorem qg.bY:zR (qg.tV []) C ⟨(qg.fr a b c),s0::s1::s2::s3::s4::s5::s6::s7::[]⟩ h nx Kt =
 sG s4 true (fun k=>zT 1 s3 s0 k) fun v1=>sG s4 true (fun k=>zC v1 h k) fun v2=>sG s4 true (fun k=>zh .eql .int v2 (I 0) k) fun v3=>yE s4 v3 (.bool false) fun v4=>Kt ⟨(qg.fr a b v4),v3::v2::v1::s0::s1::s2::s3::s4::s5::s6::s7::[]⟩ h nx:=by kernel_rfl
theorem qg.v2:Arg.ev (.t (.of 2)) ⟨(qg.fr a b c),[]⟩=c:=by kernel_rfl
theorem qg.cu:IR.run qg.t4 C N O K (qg.fr a b c) h nx =
 sLen a fun v1=>zh .sub .int v1 (I 1) fun v2=>dH 1 a none (some v2) none fun v3=>K (qg.fr v3 b c) h nx:=by kernel_rfl
theorem qg.t7_L (Inv:Nat->AV->T Blk->Pa->Prop) {m:Nat} (hm:m<N) (hi:Inv m a h nx)
  (step:∀ (m:Nat) (z0 z2:AV) (h:T Blk) (nx:Pa) (R:Ks Prop),Inv m z0 h nx->(∀ (m':Nat) (w0 w2:AV) (h':T Blk) (nx':Pa),m'<m->Inv m' w0 h' nx'->R (qg.fr w0 b w2) h' nx'=.ok True)->IR.run qg.t6 C N O R (qg.fr z0 b z2) h nx=.ok True) :
  IR.run qg.t7 C N O K (qg.fr a b c) h nx=.ok True:=by
 rw [qg.t7];refine yC (fun m tm h nx=>∃ z0 z2,tm=(qg.fr z0 b z2)/\Inv m z0 h nx) ?_ hm ⟨_,_,rfl,hi⟩;rintro m tm h nx R ⟨z0,z2,rfl,hi⟩ hR;exact step m z0 z2 h nx R hi fun m' w0 w2 h' nx' hlt hi'=>hR m' _ h' nx' hlt ⟨_,_,rfl,hi'⟩
theorem qg.fC:IR.run qg.t9 C N O K (qg.fr a b c) h nx =
 K (qg.fr a a c) h nx:=by kernel_rfl
theorem qg.go:zQ tbl N C (.of 269) [a0] h nx K0=IR.run qg.t12 C N (fnO qg.res K0) (yw qg.res K0) (qg.fr a0 .u .u) h nx:=yJ (F:=qg) (by kernel_rfl) (fun _=>by kernel_rfl) (by kernel_rfl)
theorem qg.ret:yw qg.res K0 (qg.fr a b c) h nx=K0 b h nx:=by kernel_rfl
theorem bD.gq:IR.run bD.t0 C N O K (bD.fr a b c d) h nx =
 K (bD.fr a b (I 0) d) h nx:=by kernel_rfl
theorem bD.jv:IR.run bD.t1 C N O K (bD.fr a b c d) h nx =
 sLen a fun v1=>zh .lss .int b v1 fun v2=>K (bD.fr a b c v2) h nx:=by kernel_rfl
theorem bD.uq:IR.run bD.t2 C N O K (bD.fr a b c d) h nx =
 zT 1 a b fun v1=>zC v1 h fun v2=>K (bD.fr a b v2 d) h nx:=by kernel_rfl
theorem bD.v3:Arg.ev (.t (.of 3)) ⟨(bD.fr a b c d),[]⟩=d:=by kernel_rfl
theorem bD.pq:IR.run bD.t6 C N O K (bD.fr a b c d) h nx =
 K (bD.fr a b (I 0) d) h nx:=by kernel_rfl
theorem bD.go:zQ tbl N C (.of 271) [a0,a1] h nx K0=IR.run bD.t9 C N (fnO bD.res K0) (yw bD.res K0) (bD.fr a0 a1 .u .u) h nx:=yJ (F:=bD) (by kernel_rfl) (fun _=>by kernel_rfl) (by kernel_rfl)
theorem bD.ret:yw bD.res K0 (bD.fr a b c d) h nx=K0 c h nx:=by kernel_rfl
theorem bV.gq:IR.run bV.t0 C N O K (bV.fr a b c) h nx =
 yS [(.bool false),.zf] h nx fun v1 h2 n3=>K (bV.fr a b v1) h2 n3:=by kernel_rfl
theorem bV.jv:IR.run bV.t1 C N O K (bV.fr a b c) h nx =
 C.fn 269 (.of 269) [b] h nx fun v1 h2 n3=>K (bV.fr a v1 c) h2 n3:=by kernel_rfl
theorem bV.uq:IR.run bV.t2 C N O K (bV.fr a b c) h nx =
 sG a true (fun k=>k b) fun v1=>sG a true (fun k=>sLen v1 k) fun v2=>sG a true (fun k=>zh .gtr .int v2 (I 0) k) fun v3=>yE a v3 (.bool false) fun v4=>yV [(.bool false),.zf] [(0,1,v4),(1,1,b)] fun v5=>zX 2 c v5 h nx fun v6 h7 n8=>K (bV.fr a b c) h7 n8:=by kernel_rfl
theorem bV.go:zQ tbl N C (.of 214) [a0,a1] h nx K0=IR.run bV.t5 C N (fnO bV.res K0) (yw bV.res K0) (bV.fr a0 a1 .u) h nx:=yJ (F:=bV) (by kernel_rfl) (fun _=>by kernel_rfl) (by kernel_rfl)
theorem bV.ret:yw bV.res K0 (bV.fr a b c) h nx=zO 2 c h fun v1=>K0 v1 h nx:=by kernel_rfl
theorem jl.gq:IR.run jl.t0 C N O K (jl.fr a b c d e f g i o) h nx =
 K (jl.fr a b (I 0) d e f g i o) h nx:=by kernel_rfl
theorem jl.jv:IR.run jl.t1 C N O K (jl.fr a b c d e f g i o) h nx =
 sLen a fun v1=>sLen b fun v2=>zh .neq .int v1 v2 fun v3=>K (jl.fr a b c d v3 f g i o) h nx:=by kernel_rfl
theorem jl.uq:IR.run jl.t2 C N O K (jl.fr a b c d e f g i o) h nx =
 sLen a fun v1=>sLen b fun v2=>zh .lss .int v1 v2 fun v3=>K (jl.fr a b c d e v3 g i o) h nx:=by kernel_rfl
theorem jl.vk:IR.run jl.t3 C N O K (jl.fr a b c d e f g i o) h nx =
 K (jl.fr a b (I (-1)) d e f g i o) h nx:=by kernel_rfl
theorem jl.v5:Arg.ev (.t (.of 5)) ⟨(jl.fr a b c d e f g i o),[]⟩=f:=by kernel_rfl
theorem jl.vz:IR.run jl.t7 C N O K (jl.fr a b c d e f g i o) h nx =
 K (jl.fr a b (I 1) d e f g i o) h nx:=by kernel_rfl
theorem jl.v4:Arg.ev (.t (.of 4)) ⟨(jl.fr a b c d e f g i o),[]⟩=e:=by kernel_rfl
theorem jl.bT:IR.run jl.t12 C N O K (jl.fr a b c d e f g i o) h nx =
 sLen a fun v1=>zh .sub .int v1 (I 1) fun v2=>K (jl.fr a b c v2 e f g i o) h nx:=by kernel_rfl
theorem jl.fD:IR.run jl.t13 C N O K (jl.fr a b c d e f g i o) h nx =
 zh .geq .int d (I 0) fun v1=>K (jl.fr a b c d e f v1 i o) h nx:=by kernel_rfl
theorem jl.v6:Arg.ev (.t (.of 6)) ⟨(jl.fr a b c d e f g i o),[]⟩=g:=by kernel_rfl
theorem jl.sZ:IR.run jl.t16 C N O K (jl.fr a b c d e f g i o) h nx =
 zT 1 a d fun v1=>zC v1 h fun v2=>zT 1 b d fun v3=>zC v3 h fun v4=>zh .lss .int v2 v4 fun v5=>K (jl.fr a b c d e f g v5 o) h nx:=by kernel_rfl
theorem jl.rF:IR.run jl.t17 C N O K (jl.fr a b c d e f g i o) h nx =
 K (jl.fr a b (I (-1)) d e f g i o) h nx:=by kernel_rfl
theorem jl.v7:Arg.ev (.t (.of 7)) ⟨(jl.fr a b c d e f g i o),[]⟩=i:=by kernel_rfl
theorem jl.oK:IR.run jl.t21 C N O K (jl.fr a b c d e f g i o) h nx =
 zT 1 a d fun v1=>zC v1 h fun v2=>zT 1 b d fun v3=>zC v3 h fun v4=>zh .gtr .int v2 v4 fun v5=>K (jl.fr a b c d e f g i v5) h nx:=by kernel_rfl
theorem jl.tu:IR.run jl.t22 C N O K (jl.fr a b c d e f g i o) h nx =
 K (jl.fr a b (I 1) d e f g i o) h nx:=by kernel_rfl
theorem jl.v8:Arg.ev (.t (.of 8)) ⟨(jl.fr a b c d e f g i o),[]⟩=o:=by kernel_rfl
theorem jl.zae:IR.run jl.t28 C N O K (jl.fr a b c d e f g i o) h nx =
 zh .sub .int d (I 1) fun v1=>K (jl.fr a b c v1 e f g i o) h nx:=by kernel_rfl
theorem jl.zew (Inv:Nat->AV->T Blk->Pa->Prop) {m:Nat} (hm:m<N) (hi:Inv m d h nx)
  (step:∀ (m:Nat) (z2 z3 z6 z7 z8:AV) (h:T Blk) (nx:Pa) (R:Ks Prop),Inv m z3 h nx->(∀ (m':Nat) (w2 w3 w6 w7 w8:AV) (h':T Blk) (nx':Pa),m'<m->Inv m' w3 h' nx'->R (jl.fr a b w2 w3 e f w6 w7 w8) h' nx'=.ok True)->IR.run jl.t30 C N O R (jl.fr a b z2 z3 e f z6 z7 z8) h nx=.ok True) :
  IR.run jl.t31 C N O K (jl.fr a b c d e f g i o) h nx=.ok True:=by
 rw [jl.t31];refine yC (fun m tm h nx=>∃ z2 z3 z6 z7 z8,tm=(jl.fr a b z2 z3 e f z6 z7 z8)/\Inv m z3 h nx) ?_ hm ⟨_,_,_,_,_,rfl,hi⟩;rintro m tm h nx R ⟨z2,z3,z6,z7,z8,rfl,hi⟩ hR;exact step m z2 z3 z6 z7 z8 h nx R hi fun m' w2 w3 w6 w7 w8 h' nx' hlt hi'=>hR m' _ h' nx' hlt ⟨_,_,_,_,_,rfl,hi'⟩
theorem jl.zex:IR.run jl.t34 C N O K (jl.fr a b c d e f g i o) h nx =
 K (jl.fr a b (I 0) d e f g i o) h nx:=by kernel_rfl
theorem jl.go:zQ tbl N C (.of 216) [a0,a1] h nx K0=IR.run jl.t38 C N (fnO jl.res K0) (yw jl.res K0) (jl.fr a0 a1 .u .u .u .u .u .u .u) h nx:=yJ (F:=jl) (by kernel_rfl) (fun _=>by kernel_rfl) (by kernel_rfl)
theorem jl.ret:yw jl.res K0 (jl.fr a b c d e f g i o) h nx=K0 c h nx:=by kernel_rfl
theorem jg.gq:IR.run jg.t0 C N O K (jg.fr a b c d e f g i) h nx =
 K (jg.fr a b .zf d e f g i) h nx:=by kernel_rfl
theorem jg.jv:IR.run jg.t1 C N O K (jg.fr a b c d e f g i) h nx =
 K (jg.fr a b c .zf e f g i) h nx:=by kernel_rfl
theorem jg.uq:IR.run jg.t2 C N O K (jg.fr a b c d e f g i) h nx =
 K (jg.fr a b c d (I 0) f g i) h nx:=by kernel_rfl
theorem jg.vk:IR.run jg.t3 C N O K (jg.fr a b c d e f g i) h nx =
 K (jg.fr a b c d e (I 0) g i) h nx:=by kernel_rfl
theorem jg.cu:IR.run jg.t4 C N O K tm h nx=zR jg.r4_0 C ⟨tm,[]⟩ h nx (fun tm h nx=>K tm.v h nx):=yZ ..
theorem jg.zua:zR (jg.zsh r) C ⟨(jg.fr a b c d e f g i),[]⟩ h nx Kt =
 sLen a fun v1=>zh .lss .int f v1 fun v2=>sG v2 false (fun k=>k f) fun v3=>sG v2 false (fun k=>k b) fun v4=>sG v2 false (fun k=>sLen v4 k) fun v5=>zR r C ⟨(jg.fr a b c d e f g i),v5::v4::v3::v2::v2::v1::a::f::[]⟩ h nx Kt:=by kernel_rfl
theorem jg.zll:zR (jg.zsi []) C ⟨(jg.fr a b c d e f g i),s0::s1::s2::s3::s4::s5::s6::s7::[]⟩ h nx Kt =
 sG s3 false (fun k=>zh .lss .int s2 s0 k) fun v1=>yE s3 (.bool true) v1 fun v2=>sG v2 false (fun k=>k e) fun v3=>sG v2 false (fun k=>zh .gtr .int v3 (I 0) k) fun v4=>yE v2 (.bool true) v4 fun v5=>Kt ⟨(jg.fr a b c d e f g v5),v4::v3::v2::v2::v1::s0::s1::s2::s3::s4::s5::s6::s7::[]⟩ h nx:=by kernel_rfl
theorem jg.v7:Arg.ev (.t (.of 7)) ⟨(jg.fr a b c d e f g i),[]⟩=i:=by kernel_rfl
theorem jg.vz:IR.run jg.t7 C N O K (jg.fr a b c d e f g i) h nx =
 C.fn 271 (.of 271) [a,f] h nx fun v1 h2 n3=>C.fn 271 (.of 271) [b,f] h2 n3 fun v4 h5 n6=>zh .add .int v1 v4 fun v7=>zh .add .int v7 e fun v8=>K (jg.fr a b c d e f v8 i) h5 n6:=by kernel_rfl
theorem jg.dw:IR.run jg.t8 C N O K (jg.fr a b c d e f g i) h nx =
 zh .rem .int g (I 1000000000) fun v1=>yU 1 1 [(I 0)] [(0,1,v1)] h nx fun v2 h3 n4=>rD 1 8 d v2 h3 n4 fun v5 h6 n7=>K (jg.fr a b c v5 e f g i) h6 n7:=by kernel_rfl
theorem jg.fC:IR.run jg.t9 C N O K (jg.fr a b c d e f g i) h nx =
 zh .quo .int g (I 1000000000) fun v1=>K (jg.fr a b c d v1 f g i) h nx:=by kernel_rfl
theorem jg.fD:IR.run jg.t13 C N O K (jg.fr a b c d e f g i) h nx =
 zh .add .int f (I 1) fun v1=>K (jg.fr a b c d e v1 g i) h nx:=by kernel_rfl
theorem jg.zaz (Inv:Nat->AV->AV->AV->T Blk->Pa->Prop) {m:Nat} (hm:m<N) (hi:Inv m d e f h nx)
  (step:∀ (m:Nat) (z3 z4 z5 z6 z7:AV) (h:T Blk) (nx:Pa) (R:Ks Prop),Inv m z3 z4 z5 h nx->(∀ (m':Nat) (w3 w4 w5 w6 w7:AV) (h':T Blk) (nx':Pa),m'<m->Inv m' w3 w4 w5 h' nx'->R (jg.fr a b c w3 w4 w5 w6 w7) h' nx'=.ok True)->IR.run jg.t15 C N O R (jg.fr a b c z3 z4 z5 z6 z7) h nx=.ok True) :
  IR.run jg.t16 C N O K (jg.fr a b c d e f g i) h nx=.ok True:=by
 rw [jg.t16];refine yC (fun m tm h nx=>∃ z3 z4 z5 z6 z7,tm=(jg.fr a b c z3 z4 z5 z6 z7)/\Inv m z3 z4 z5 h nx) ?_ hm ⟨_,_,_,_,_,rfl,hi⟩;rintro m tm h nx R ⟨z3,z4,z5,z6,z7,rfl,hi⟩ hR;exact step m z3 z4 z5 z6 z7 h nx R hi fun m' w3 w4 w5 w6 w7 h' nx' hlt hi'=>hR m' _ h' nx' hlt ⟨_,_,_,_,_,rfl,hi'⟩
theorem jg.sK:IR.run jg.t19 C N O K (jg.fr a b c d e f g i) h nx =
 K (jg.fr a b d d e f g i) h nx:=by kernel_rfl
theorem jg.go:zQ tbl N C (.of 215) [a0,a1] h nx K0=IR.run jg.t24 C N (fnO jg.res K0) (yw jg.res K0) (jg.fr a0 a1 .u .u .u .u .u .u) h nx:=yJ (F:=jg) (by kernel_rfl) (fun _=>by kernel_rfl) (by kernel_rfl)
theorem jg.ret:yw jg.res K0 (jg.fr a b c d e f g i) h nx=K0 c h nx:=by kernel_rfl
theorem ji.gq:IR.run ji.t0 C N O K (ji.fr a b c d e f g i o) h nx =
 K (ji.fr a b .zf d e f g i o) h nx:=by kernel_rfl
theorem ji.jv:IR.run ji.t1 C N O K (ji.fr a b c d e f g i o) h nx =
 K (ji.fr a b c .zf e f g i o) h nx:=by kernel_rfl
theorem ji.uq:IR.run ji.t2 C N O K (ji.fr a b c d e f g i o) h nx =
 K (ji.fr a b c d (I 0) f g i o) h nx:=by kernel_rfl
theorem ji.vk:IR.run ji.t3 C N O K (ji.fr a b c d e f g i o) h nx =
 K (ji.fr a b c d e (I 0) g i o) h nx:=by kernel_rfl
theorem ji.cu:IR.run ji.t4 C N O K (ji.fr a b c d e f g i o) h nx =
 sLen a fun v1=>zh .lss .int f v1 fun v2=>K (ji.fr a b c d e f g v2 o) h nx:=by kernel_rfl
theorem ji.v7:Arg.ev (.t (.of 7)) ⟨(ji.fr a b c d e f g i o),[]⟩=i:=by kernel_rfl
theorem ji.vz:IR.run ji.t7 C N O K (ji.fr a b c d e f g i o) h nx =
 zT 1 a f fun v1=>zC v1 h fun v2=>C.fn 271 (.of 271) [b,f] h nx fun v3 h4 n5=>zW e e ((zC v1 h4 fun v9=>zW v9 v2 ((zT 1 a f fun v8=>zW v8 v1 (zW f f (zW a a (zh .sub .int v2 v3 fun v6=>zh .sub .int v6 e fun v7=>K (ji.fr a b c d e f v7 i o) h4 n5))))))):=by kernel_rfl
theorem ji.dw:IR.run ji.t8 C N O K (ji.fr a b c d e f g i o) h nx =
 K (ji.fr a b c d (I 0) f g i o) h nx:=by kernel_rfl
theorem ji.fC:IR.run ji.t9 C N O K (ji.fr a b c d e f g i o) h nx =
 zh .lss .int g (I 0) fun v1=>K (ji.fr a b c d e f g i v1) h nx:=by kernel_rfl
theorem ji.dh:IR.run ji.t10 C N O K (ji.fr a b c d e f g i o) h nx =
 zh .add .int g (I 1000000000) fun v1=>K (ji.fr a b c d e f v1 i o) h nx:=by kernel_rfl
theorem ji.xu:IR.run ji.t11 C N O K (ji.fr a b c d e f g i o) h nx =
 K (ji.fr a b c d (I 1) f g i o) h nx:=by kernel_rfl
theorem ji.v8:Arg.ev (.t (.of 8)) ⟨(ji.fr a b c d e f g i o),[]⟩=o:=by kernel_rfl
theorem ji.rJ:IR.run ji.t15 C N O K (ji.fr a b c d e f g i o) h nx =
 yU 1 1 [(I 0)] [(0,1,g)] h nx fun v1 h2 n3=>rD 1 8 d v1 h2 n3 fun v4 h5 n6=>K (ji.fr a b c v4 e f g i o) h5 n6:=by kernel_rfl
theorem ji.rY:IR.run ji.t20 C N O K (ji.fr a b c d e f g i o) h nx =
 zh .add .int f (I 1) fun v1=>K (ji.fr a b c d e v1 g i o) h nx:=by kernel_rfl
theorem ji.zlm (Inv:Nat->AV->AV->AV->T Blk->Pa->Prop) {m:Nat} (hm:m<N) (hi:Inv m d e f h nx)
  (step:∀ (m:Nat) (z3 z4 z5 z6 z7 z8:AV) (h:T Blk) (nx:Pa) (R:Ks Prop),Inv m z3 z4 z5 h nx->(∀ (m':Nat) (w3 w4 w5 w6 w7 w8:AV) (h':T Blk) (nx':Pa),m'<m->Inv m' w3 w4 w5 h' nx'->R (ji.fr a b c w3 w4 w5 w6 w7 w8) h' nx'=.ok True)->IR.run ji.t22 C N O R (ji.fr a b c z3 z4 z5 z6 z7 z8) h nx=.ok True) :
  IR.run ji.t23 C N O K (ji.fr a b c d e f g i o) h nx=.ok True:=by
 rw [ji.t23];refine yC (fun m tm h nx=>∃ z3 z4 z5 z6 z7 z8,tm=(ji.fr a b c z3 z4 z5 z6 z7 z8)/\Inv m z3 z4 z5 h nx) ?_ hm ⟨_,_,_,_,_,_,rfl,hi⟩;rintro m tm h nx R ⟨z3,z4,z5,z6,z7,z8,rfl,hi⟩ hR;exact step m z3 z4 z5 z6 z7 z8 h nx R hi fun m' w3 w4 w5 w6 w7 w8 h' nx' hlt hi'=>hR m' _ h' nx' hlt ⟨_,_,_,_,_,_,rfl,hi'⟩
theorem ji.zcu:IR.run ji.t26 C N O K (ji.fr a b c d e f g i o) h nx =
 C.fn 269 (.of 269) [d] h nx fun v1 h2 n3=>K (ji.fr a b v1 d e f g i o) h2 n3:=by kernel_rfl
theorem ji.go:zQ tbl N C (.of 217) [a0,a1] h nx K0=IR.run ji.t31 C N (fnO ji.res K0) (yw ji.res K0) (ji.fr a0 a1 .u .u .u .u .u .u .u) h nx:=yJ (F:=ji) (by kernel_rfl) (fun _=>by kernel_rfl) (by kernel_rfl)
theorem ji.ret:yw ji.res K0 (ji.fr a b c d e f g i o) h nx=K0 c h nx:=by kernel_rfl
theorem uj.gq:IR.run uj.t0 C N O K (uj.fr a b c d e f g i o) h nx =
 K (uj.fr a b .zf (I 0) e f g i o) h nx:=by kernel_rfl
theorem uj.jv:IR.run uj.t1 C N O K (uj.fr a b c d e f g i o) h nx =
 sLen a fun v1=>uG 1 8 [(I 0)] v1 v1 h nx fun v2 h3 n4=>K (uj.fr a b c d v2 f g i o) h3 n4:=by kernel_rfl
theorem uj.uq:IR.run uj.t2 C N O K (uj.fr a b c d e f g i o) h nx =
 K (uj.fr a b c d e (I 0) g i o) h nx:=by kernel_rfl
theorem uj.vk:IR.run uj.t3 C N O K (uj.fr a b c d e f g i o) h nx =
 sLen a fun v1=>zh .sub .int v1 (I 1) fun v2=>K (uj.fr a b c d e f v2 i o) h nx:=by kernel_rfl
theorem uj.cu:IR.run uj.t4 C N O K (uj.fr a b c d e f g i o) h nx =
 zh .geq .int g (I 0) fun v1=>K (uj.fr a b c d e f g i v1) h nx:=by kernel_rfl
theorem uj.v8:Arg.ev (.t (.of 8)) ⟨(uj.fr a b c d e f g i o),[]⟩=o:=by kernel_rfl
theorem uj.vz:IR.run uj.t7 C N O K (uj.fr a b c d e f g i o) h nx =
 zh .mul .int f (I 1000000000) fun v1=>zT 1 a g fun v2=>zC v2 h fun v3=>zh .add .int v1 v3 fun v4=>K (uj.fr a b c d e f g v4 o) h nx:=by kernel_rfl
theorem uj.dw:IR.run uj.t8 C N O K (uj.fr a b c d e f g i o) h nx =
 zh .quo .int i b fun v1=>zT 1 e g fun v2=>zX 1 v2 v1 h nx fun v3 h4 n5=>K (uj.fr a b c d e f g i o) h4 n5:=by kernel_rfl
theorem uj.fC:IR.run uj.t9 C N O K (uj.fr a b c d e f g i o) h nx =
 zh .rem .int i b fun v1=>K (uj.fr a b c d e v1 g i o) h nx:=by kernel_rfl
theorem uj.fD:IR.run uj.t13 C N O K (uj.fr a b c d e f g i o) h nx =
 zh .sub .int g (I 1) fun v1=>K (uj.fr a b c d e f v1 i o) h nx:=by kernel_rfl
theorem uj.zaz (Inv:Nat->AV->AV->T Blk->Pa->Prop) {m:Nat} (hm:m<N) (hi:Inv m f g h nx)
  (step:∀ (m:Nat) (z5 z6 z7 z8:AV) (h:T Blk) (nx:Pa) (R:Ks Prop),Inv m z5 z6 h nx->(∀ (m':Nat) (w5 w6 w7 w8:AV) (h':T Blk) (nx':Pa),m'<m->Inv m' w5 w6 h' nx'->R (uj.fr a b c d e w5 w6 w7 w8) h' nx'=.ok True)->IR.run uj.t15 C N O R (uj.fr a b c d e z5 z6 z7 z8) h nx=.ok True) :
  IR.run uj.t16 C N O K (uj.fr a b c d e f g i o) h nx=.ok True:=by
 rw [uj.t16];refine yC (fun m tm h nx=>∃ z5 z6 z7 z8,tm=(uj.fr a b c d e z5 z6 z7 z8)/\Inv m z5 z6 h nx) ?_ hm ⟨_,_,_,_,rfl,hi⟩;rintro m tm h nx R ⟨z5,z6,z7,z8,rfl,hi⟩ hR;exact step m z5 z6 z7 z8 h nx R hi fun m' w5 w6 w7 w8 h' nx' hlt hi'=>hR m' _ h' nx' hlt ⟨_,_,_,_,rfl,hi'⟩
theorem uj.sK:IR.run uj.t19 C N O K (uj.fr a b c d e f g i o) h nx =
 C.fn 269 (.of 269) [e] h nx fun v1 h2 n3=>K (uj.fr a b v1 f e f g i o) h2 n3:=by kernel_rfl
theorem uj.go:zQ tbl N C (.of 268) [a0,a1] h nx K0=IR.run uj.t24 C N (fnO uj.res K0) (yw uj.res K0) (uj.fr a0 a1 .u .u .u .u .u .u .u) h nx:=yJ (F:=uj) (by kernel_rfl) (fun _=>by kernel_rfl) (by kernel_rfl)
theorem uj.ret:yw uj.res K0 (uj.fr a b c d e f g i o) h nx=K0 (.tup [c,d]) h nx:=by kernel_rfl
theorem jr.gq:IR.run jr.t0 C N O K (jr.fr a b c d e f g i o u l p q s) h nx =
 bH a h nx fun v1 h2 n3=>bH b h2 n3 fun v4 h5 n6=>yS [(I 0),.zf] h5 n6 fun v7 h8 n9=>K (jr.fr a b v1 v4 v7 f g i o u l p q s) h8 n9:=by kernel_rfl
theorem jr.jv:IR.run jr.t1 C N O K (jr.fr a b c d e f g i o u l p q s) h nx =
 zH 1 c fun v1=>zC v1 h fun v2=>zh .eql (.nil .sl) v2 .zf fun v3=>sG v3 true (fun k=>zH 1 d k) fun v4=>sG v3 true (fun k=>zC v4 h k) fun v5=>sG v3 true (fun k=>zh .eql (.nil .sl) v5 .zf k) fun v6=>yE v3 v6 (.bool false) fun v7=>K (jr.fr a b c d e f g i o u v7 p q s) h nx:=by kernel_rfl
theorem jr.uq:IR.run jr.t2 C N O K (jr.fr a b c d e f g i o u l p q s) h nx =
 zH 0 c fun v1=>zC v1 h fun v2=>zH 0 d fun v3=>zC v3 h fun v4=>zh .add .int v2 v4 fun v5=>K (jr.fr a b c d e v5 g i o u l p q s) h nx:=by kernel_rfl
theorem jr.vk:IR.run jr.t3 C N O K (jr.fr a b c d e f g i o u l p q s) h nx =
 zH 0 c fun v1=>zC v1 h fun v2=>zh .gtr .int f v2 fun v3=>zH 0 d fun v4=>zC v4 h fun v5=>zh .gtr .int v5 (I 0) fun v6=>zh .eql .bool v3 v6 fun v7=>K (jr.fr a b c d e f g i o u l v7 q s) h nx:=by kernel_rfl
theorem jr.cu:IR.run jr.t4 C N O K (jr.fr a b c d e f g i o u l p q s) h nx =
 yV [(I 0),.zf] [(0,1,f)] fun v1=>zX 2 e v1 h nx fun v2 h3 n4=>K (jr.fr a b c d e f g i o u l p q s) h3 n4:=by kernel_rfl
theorem jr.v11:Arg.ev (.t (.of 11)) ⟨(jr.fr a b c d e f g i o u l p q s),[]⟩=p:=by kernel_rfl
theorem jr.v10:Arg.ev (.t (.of 10)) ⟨(jr.fr a b c d e f g i o u l p q s),[]⟩=l:=by kernel_rfl
theorem jr.xu:IR.run jr.t11 C N O K (jr.fr a b c d e f g i o u l p q s) h nx =
 zO 2 c h fun v1=>C.fn 249 (.of 249) [v1] h nx fun v2 h3 n4=>dm 0 v2 fun v5=>dm 1 v2 fun v6=>K (jr.fr a b c d e f v5 v6 o u l p q s) h3 n4:=by kernel_rfl
theorem jr.bT:IR.run jr.t12 C N O K (jr.fr a b c d e f g i o u l p q s) h nx =
 zO 2 d h fun v1=>C.fn 249 (.of 249) [v1] h nx fun v2 h3 n4=>dm 0 v2 fun v5=>dm 1 v2 fun v6=>K (jr.fr a b c d e f g i v5 v6 l p q s) h3 n4:=by kernel_rfl
theorem jr.fD:IR.run jr.t13 C N O K (jr.fr a b c d e f g i o u l p q s) h nx =
 zh .eql .bool g o fun v1=>K (jr.fr a b c d e f g i o u l p v1 s) h nx:=by kernel_rfl
theorem jr.fG:IR.run jr.t14 C N O K (jr.fr a b c d e f g i o u l p q s) h nx =
 C.fn 260 (.of 260) [i,u] h nx fun v1 h2 n3=>C.fn 257 (.of 257) [g,v1] h2 n3 fun v4 h5 n6=>zX 2 e v4 h5 n6 fun v7 h8 n9=>K (jr.fr a b c d e f g i o u l p q s) h8 n9:=by kernel_rfl
theorem jr.sZ:IR.run jr.t16 C N O K (jr.fr a b c d e f g i o u l p q s) h nx =
 C.fn 261 (.of 261) [i,u] h nx fun v1 h2 n3=>zh .geq .int v1 (I 0) fun v4=>K (jr.fr a b c d e f g i o u l p q v4) h2 n3:=by kernel_rfl
theorem jr.rF:IR.run jr.t17 C N O K (jr.fr a b c d e f g i o u l p q s) h nx =
 C.fn 262 (.of 262) [i,u] h nx fun v1 h2 n3=>C.fn 257 (.of 257) [g,v1] h2 n3 fun v4 h5 n6=>zX 2 e v4 h5 n6 fun v7 h8 n9=>K (jr.fr a b c d e f g i o u l p q s) h8 n9:=by kernel_rfl
theorem jr.v13:Arg.ev (.t (.of 13)) ⟨(jr.fr a b c d e f g i o u l p q s),[]⟩=s:=by kernel_rfl
theorem jr.v12:Arg.ev (.t (.of 12)) ⟨(jr.fr a b c d e f g i o u l p q s),[]⟩=q:=by kernel_rfl
theorem jr.aj:IR.run jr.t24 C N O K (jr.fr a b c d e f g i o u l p q s) h nx =
 C.fn 262 (.of 262) [u,i] h nx fun v1 h2 n3=>C.fn 257 (.of 257) [o,v1] h2 n3 fun v4 h5 n6=>zX 2 e v4 h5 n6 fun v7 h8 n9=>K (jr.fr a b c d e f g i o u l p q s) h8 n9:=by kernel_rfl
theorem jr.go:zQ tbl N C (.of 197) [a0,a1] h nx K0=IR.run jr.t30 C N (fnO jr.res K0) (yw jr.res K0) (jr.fr a0 a1 .u .u .u .u .u .u .u .u .u .u .u .u) h nx:=yJ (F:=jr) (by kernel_rfl) (fun _=>by kernel_rfl) (by kernel_rfl)
theorem jr.ret:yw jr.res K0 (jr.fr a b c d e f g i o u l p q s) h nx=zO 2 e h fun v1=>K0 v1 h nx:=by kernel_rfl
theorem fM.gq:IR.run fM.t0 C N O K (fM.fr a b c d e) h nx =
 bH a h nx fun v1 h2 n3=>bH b h2 n3 fun v4 h5 n6=>yS [(I 0),.zf] h5 n6 fun v7 h8 n9=>K (fM.fr a b v1 v4 v7) h8 n9:=by kernel_rfl
theorem fM.jv:IR.run fM.t1 C N O K (fM.fr a b c d e) h nx =
 zO 2 c h fun v1=>zO 2 d h fun v2=>C.fn 193 (.of 193) [v2] h nx fun v3 h4 n5=>(zO 2 c h4 fun vF=>zW vF v1 (C.fn 197 (.of 197) [v1,v3] h4 n5 fun v6 h7 n8=>zX 2 e v6 h7 n8 fun v9 hA nA=>K (fM.fr a b c d e) hA nA)):=by kernel_rfl
theorem fM.go:zQ tbl N C (.of 266) [a0,a1] h nx K0=IR.run fM.t3 C N (fnO fM.res K0) (yw fM.res K0) (fM.fr a0 a1 .u .u .u) h nx:=yJ (F:=fM) (by kernel_rfl) (fun _=>by kernel_rfl) (by kernel_rfl)
theorem fM.ret:yw fM.res K0 (fM.fr a b c d e) h nx=zO 2 e h fun v1=>K0 v1 h nx:=by kernel_rfl
theorem uf.gq:IR.run uf.t0 C N O K (uf.fr a b c d e f g i o u l p q s) h nx =
 bH a h nx fun v1 h2 n3=>bH b h2 n3 fun v4 h5 n6=>yS [(I 0),.zf] h5 n6 fun v7 h8 n9=>K (uf.fr a b v1 v4 v7 f g i o u l p q s) h8 n9:=by kernel_rfl
theorem uf.jv:IR.run uf.t1 C N O K (uf.fr a b c d e f g i o u l p q s) h nx =
 zH 1 c fun v1=>zC v1 h fun v2=>zh .eql (.nil .sl) v2 .zf fun v3=>sG v3 true (fun k=>zH 1 d k) fun v4=>sG v3 true (fun k=>zC v4 h k) fun v5=>sG v3 true (fun k=>zh .eql (.nil .sl) v5 .zf k) fun v6=>yE v3 v6 (.bool false) fun v7=>K (uf.fr a b c d e f g i o u l v7 q s) h nx:=by kernel_rfl
theorem uf.uq:IR.run uf.t2 C N O K (uf.fr a b c d e f g i o u l p q s) h nx =
 zH 0 c fun v1=>zC v1 h fun v2=>zH 0 d fun v3=>zC v3 h fun v4=>C.fn 264 (.of 264) [v2] h nx fun v5 h6 n7=>(zC v3 h6 fun vA=>zW vA v4 ((zH 0 d fun vB=>zW vB v3 (C.fn 264 (.of 264) [v4] h6 n7 fun v8 h9 nB=>C.fn 263 (.of 263) [v5,v8] h9 nB fun vG hB nC=>dm 0 vG fun vD=>dm 1 vG fun vC=>K (uf.fr a b c d e vD vC i o u l p q s) hB nC)))):=by kernel_rfl
theorem uf.vk:IR.run uf.t3 C N O K (uf.fr a b c d e f g i o u l p q s) h nx =
 zh .eql .int f (.int .u64 0) fun v1=>sG v1 true (fun k=>k g) fun v2=>sG v1 true (fun k=>zh .leq .int v2 (.int .u64 9223372036854775807) k) fun v3=>yE v1 v3 (.bool false) fun v4=>K (uf.fr a b c d e f g i o u l p v4 s) h nx:=by kernel_rfl
theorem uf.cu:IR.run uf.t4 C N O K (uf.fr a b c d e f g i o u l p q s) h nx =
 zH 0 c fun v1=>zC v1 h fun v2=>zh .lss .int v2 (I 0) fun v3=>zH 0 d fun v4=>zC v4 h fun v5=>zh .lss .int v5 (I 0) fun v6=>zh .neq .bool v3 v6 fun v7=>K (uf.fr a b c d e f g i o u l p q v7) h nx:=by kernel_rfl
theorem uf.fZ:IR.run uf.t5 C N O K (uf.fr a b c d e f g i o u l p q s) h nx =
 xS .i64 g fun v1=>sNeg v1 fun v2=>yV [(I 0),.zf] [(0,1,v2)] fun v3=>zX 2 e v3 h nx fun v4 h5 n6=>K (uf.fr a b c d e f g i o u l p q s) h5 n6:=by kernel_rfl
theorem uf.v13:Arg.ev (.t (.of 13)) ⟨(uf.fr a b c d e f g i o u l p q s),[]⟩=s:=by kernel_rfl
theorem uf.fC:IR.run uf.t9 C N O K (uf.fr a b c d e f g i o u l p q s) h nx =
 xS .i64 g fun v1=>yV [(I 0),.zf] [(0,1,v1)] fun v2=>zX 2 e v2 h nx fun v3 h4 n5=>K (uf.fr a b c d e f g i o u l p q s) h4 n5:=by kernel_rfl
theorem uf.v12:Arg.ev (.t (.of 12)) ⟨(uf.fr a b c d e f g i o u l p q s),[]⟩=q:=by kernel_rfl
theorem uf.v11:Arg.ev (.t (.of 11)) ⟨(uf.fr a b c d e f g i o u l p q s),[]⟩=p:=by kernel_rfl
theorem uf.rF:IR.run uf.t17 C N O K (uf.fr a b c d e f g i o u l p q s) h nx =
 zO 2 c h fun v1=>C.fn 249 (.of 249) [v1] h nx fun v2 h3 n4=>dm 0 v2 fun v5=>dm 1 v2 fun v6=>K (uf.fr a b c d e f g v5 v6 u l p q s) h3 n4:=by kernel_rfl
theorem uf.aT:IR.run uf.t18 C N O K (uf.fr a b c d e f g i o u l p q s) h nx =
 zO 2 d h fun v1=>C.fn 249 (.of 249) [v1] h nx fun v2 h3 n4=>dm 0 v2 fun v5=>dm 1 v2 fun v6=>K (uf.fr a b c d e f g i o v5 v6 p q s) h3 n4:=by kernel_rfl
theorem uf.sK:IR.run uf.t19 C N O K (uf.fr a b c d e f g i o u l p q s) h nx =
 zh .neq .bool i u fun v1=>C.fn 265 (.of 265) [o,l] h nx fun v2 h3 n4=>C.fn 257 (.of 257) [v1,v2] h3 n4 fun v5 h6 n7=>zX 2 e v5 h6 n7 fun v8 h9 nB=>K (uf.fr a b c d e f g i o u l p q s) h9 nB:=by kernel_rfl
theorem uf.go:zQ tbl N C (.of 198) [a0,a1] h nx K0=IR.run uf.t24 C N (fnO uf.res K0) (yw uf.res K0) (uf.fr a0 a1 .u .u .u .u .u .u .u .u .u .u .u .u) h nx:=yJ (F:=uf) (by kernel_rfl) (fun _=>by kernel_rfl) (by kernel_rfl)
theorem uf.ret:yw uf.res K0 (uf.fr a b c d e f g i o u l p q s) h nx=zO 2 e h fun v1=>K0 v1 h nx:=by kernel_rfl
theorem uy.gq:IR.run uy.t0 C N O K (uy.fr a b c d e f g i) h nx =
 bH a h nx fun v1 h2 n3=>bH b h2 n3 fun v4 h5 n6=>K (uy.fr a b v1 v4 (I 0) f g i) h5 n6:=by kernel_rfl
theorem uy.jv:IR.run uy.t1 C N O K (uy.fr a b c d e f g i) h nx =
 zH 1 c fun v1=>zC v1 h fun v2=>zh .eql (.nil .sl) v2 .zf fun v3=>sG v3 true (fun k=>zH 1 d k) fun v4=>sG v3 true (fun k=>zC v4 h k) fun v5=>sG v3 true (fun k=>zh .eql (.nil .sl) v5 .zf k) fun v6=>yE v3 v6 (.bool false) fun v7=>K (uy.fr a b c d e v7 g i) h nx:=by kernel_rfl
theorem uy.uq:IR.run uy.t2 C N O K (uy.fr a b c d e f g i) h nx =
 zH 0 c fun v1=>zC v1 h fun v2=>zH 0 d fun v3=>zC v3 h fun v4=>zh .lss .int v2 v4 fun v5=>K (uy.fr a b c d e f v5 i) h nx:=by kernel_rfl
theorem uy.vk:IR.run uy.t3 C N O K (uy.fr a b c d e f g i) h nx =
 K (uy.fr a b c d (I (-1)) f g i) h nx:=by kernel_rfl
theorem uy.fZ:IR.run uy.t5 C N O K (uy.fr a b c d e f g i) h nx =
 zH 0 c fun v1=>zC v1 h fun v2=>zH 0 d fun v3=>zC v3 h fun v4=>zh .gtr .int v2 v4 fun v5=>K (uy.fr a b c d e f g v5) h nx:=by kernel_rfl
theorem uy.pq:IR.run uy.t6 C N O K (uy.fr a b c d e f g i) h nx =
 K (uy.fr a b c d (I 1) f g i) h nx:=by kernel_rfl
theorem uy.v7:Arg.ev (.t (.of 7)) ⟨(uy.fr a b c d e f g i),[]⟩=i:=by kernel_rfl
theorem uy.v6:Arg.ev (.t (.of 6)) ⟨(uy.fr a b c d e f g i),[]⟩=g:=by kernel_rfl
theorem uy.fD:IR.run uy.t13 C N O K (uy.fr a b c d e f g i) h nx =
 K (uy.fr a b c d (I 0) f g i) h nx:=by kernel_rfl
theorem uy.v5:Arg.ev (.t (.of 5)) ⟨(uy.fr a b c d e f g i),[]⟩=f:=by kernel_rfl
theorem uy.aT:IR.run uy.t18 C N O K (uy.fr a b c d e f g i) h nx =
 zO 2 c h fun v1=>zO 2 d h fun v2=>C.fn 266 (.of 266) [v1,v2] h nx fun v3 h4 n5=>C.fn 194 (.of 194) [v3] h4 n5 fun v6 h7 n8=>K (uy.fr a b c d v6 f g i) h7 n8:=by kernel_rfl
theorem uy.go:zQ tbl N C (.of 229) [a0,a1] h nx K0=IR.run uy.t21 C N (fnO uy.res K0) (yw uy.res K0) (uy.fr a0 a1 .u .u .u .u .u .u) h nx:=yJ (F:=uy) (by kernel_rfl) (fun _=>by kernel_rfl) (by kernel_rfl)
theorem uy.ret:yw uy.res K0 (uy.fr a b c d e f g i) h nx=K0 e h nx:=by kernel_rfl
theorem yc.gq:IR.run yc.t0 C N O K (yc.fr a b c d e f g i o u) h nx =
 K (yc.fr a b .zf d e f g i o u) h nx:=by kernel_rfl
theorem yc.jv:IR.run yc.t1 C N O K (yc.fr a b c d e f g i o u) h nx =
 sLen a fun v1=>sLen b fun v2=>zh .add .int v1 v2 fun v3=>uG 1 8 [(I 0)] v3 v3 h nx fun v4 h5 n6=>K (yc.fr a b c v4 e f g i o u) h5 n6:=by kernel_rfl
theorem yc.uq:IR.run yc.t2 C N O K (yc.fr a b c d e f g i o u) h nx =
 K (yc.fr a b c d (I 0) f g i o u) h nx:=by kernel_rfl
theorem yc.vk:IR.run yc.t3 C N O K (yc.fr a b c d e f g i o u) h nx =
 sLen a fun v1=>zh .lss .int e v1 fun v2=>K (yc.fr a b c d e f g i v2 u) h nx:=by kernel_rfl
theorem yc.v8:Arg.ev (.t (.of 8)) ⟨(yc.fr a b c d e f g i o u),[]⟩=o:=by kernel_rfl
theorem yc.pq:IR.run yc.t6 C N O K (yc.fr a b c d e f g i o u) h nx =
 K (yc.fr a b c d e (I 0) g i o u) h nx:=by kernel_rfl
theorem yc.vz:IR.run yc.t7 C N O K (yc.fr a b c d e f g i o u) h nx =
 K (yc.fr a b c d e f (I 0) i o u) h nx:=by kernel_rfl
theorem yc.dw:IR.run yc.t8 C N O K (yc.fr a b c d e f g i o u) h nx =
 sLen b fun v1=>zh .lss .int g v1 fun v2=>K (yc.fr a b c d e f g i o v2) h nx:=by kernel_rfl
theorem yc.v9:Arg.ev (.t (.of 9)) ⟨(yc.fr a b c d e f g i o u),[]⟩=u:=by kernel_rfl
theorem yc.xu:IR.run yc.t11 C N O K tm h nx=zR yc.r7_0 C ⟨tm,[]⟩ h nx (fun tm h nx=>K tm.v h nx):=wS ..
theorem yc.zam:zR (yc.zas r) C ⟨(yc.fr a b c d e f g i o u),[]⟩ h nx Kt =
 zh .add .int e g fun v1=>zT 1 d v1 fun v2=>zC v2 h fun v3=>zR r C ⟨(yc.fr a b c d e f g i o u),e::a::v3::v2::v1::g::e::d::[]⟩ h nx Kt:=by kernel_rfl
theorem yc.zan:zR (yc.zat r) C ⟨(yc.fr a b c d e f g i o u),s0::s1::s2::s3::s4::s5::s6::s7::[]⟩ h nx Kt =
 zT 1 s1 s0 fun v1=>zC v1 h fun v2=>zT 1 b g fun v3=>zC v3 h fun v4=>zh .mul .int v2 v4 fun v5=>zh .add .int s2 v5 fun v6=>zR r C ⟨(yc.fr a b c d e f g i o u),v6::v5::v4::v3::g::b::v2::v1::s0::s1::s2::s3::s4::s5::s6::s7::[]⟩ h nx Kt:=by kernel_rfl
theorem yc.zao:zR (yc.zau []) C ⟨(yc.fr a b c d e f g i o u),s0::s1::s2::s3::s4::s5::s6::s7::s8::s9::s10::s11::s12::s13::s14::s15::[]⟩ h nx Kt =
 zh .add .int s0 f fun v1=>Kt ⟨(yc.fr a b c d e f g v1 o u),v1::f::s0::s1::s2::s3::s4::s5::s6::s7::s8::s9::s10::s11::s12::s13::s14::s15::[]⟩ h nx:=by kernel_rfl
theorem yc.bT:IR.run yc.t12 C N O K (yc.fr a b c d e f g i o u) h nx =
 zh .add .int e g fun v1=>zh .rem .int i (I 1000000000) fun v2=>zT 1 d v1 fun v3=>zX 1 v3 v2 h nx fun v4 h5 n6=>K (yc.fr a b c d e f g i o u) h5 n6:=by kernel_rfl
theorem yc.fD:IR.run yc.t13 C N O K (yc.fr a b c d e f g i o u) h nx =
 zh .quo .int i (I 1000000000) fun v1=>K (yc.fr a b c d e v1 g i o u) h nx:=by kernel_rfl
theorem yc.rF:IR.run yc.t17 C N O K (yc.fr a b c d e f g i o u) h nx =
 zh .add .int g (I 1) fun v1=>K (yc.fr a b c d e f v1 i o u) h nx:=by kernel_rfl
theorem yc.zln (Inv:Nat->AV->AV->T Blk->Pa->Prop) {m:Nat} (hm:m<N) (hi:Inv m f g h nx)
  (step:∀ (m:Nat) (z5 z6 z7 z9:AV) (h:T Blk) (nx:Pa) (R:Ks Prop),Inv m z5 z6 h nx->(∀ (m':Nat) (w5 w6 w7 w9:AV) (h':T Blk) (nx':Pa),m'<m->Inv m' w5 w6 h' nx'->R (yc.fr a b c d e w5 w6 w7 o w9) h' nx'=.ok True)->IR.run yc.t19 C N O R (yc.fr a b c d e z5 z6 z7 o z9) h nx=.ok True) :
  IR.run yc.t20 C N O K (yc.fr a b c d e f g i o u) h nx=.ok True:=by
 rw [yc.t20];refine yC (fun m tm h nx=>∃ z5 z6 z7 z9,tm=(yc.fr a b c d e z5 z6 z7 o z9)/\Inv m z5 z6 h nx) ?_ hm ⟨_,_,_,_,rfl,hi⟩;rintro m tm h nx R ⟨z5,z6,z7,z9,rfl,hi⟩ hR;exact step m z5 z6 z7 z9 h nx R hi fun m' w5 w6 w7 w9 h' nx' hlt hi'=>hR m' _ h' nx' hlt ⟨_,_,_,_,rfl,hi'⟩
theorem yc.zav:IR.run yc.t23 C N O K tm h nx=zR yc.aJ C ⟨tm,[]⟩ h nx (fun tm h nx=>K tm.v h nx):=yZ ..
theorem yc.eU:zR (yc.aU r) C ⟨(yc.fr a b c d e f g i o u),[]⟩ h nx Kt =
 sLen b fun v1=>zh .add .int e v1 fun v2=>zR r C ⟨(yc.fr a b c d e f g i o u),b::e::d::v2::v1::b::e::d::[]⟩ h nx Kt:=by kernel_rfl
theorem yc.eX:zR (yc.aV []) C ⟨(yc.fr a b c d e f g i o u),s0::s1::s2::s3::s4::s5::s6::s7::[]⟩ h nx Kt =
 sLen s0 fun v1=>zh .add .int s1 v1 fun v2=>zT 1 s2 v2 fun v3=>zC v3 h fun v4=>zh .add .int v4 f fun v5=>zT 1 s7 s3 fun v6=>zX 1 v6 v5 h nx fun v7 h8 n9=>Kt ⟨(yc.fr a b c d e f g i o u),v6::v5::f::v4::v3::v2::v1::s0::s1::s2::s3::s4::s5::s6::s7::[]⟩ h8 n9:=by kernel_rfl
theorem yc.zcv:IR.run yc.t27 C N O K (yc.fr a b c d e f g i o u) h nx =
 zh .add .int e (I 1) fun v1=>K (yc.fr a b c d v1 f g i o u) h nx:=by kernel_rfl
theorem yc.zw2 (Inv:Nat->AV->T Blk->Pa->Prop) {m:Nat} (hm:m<N) (hi:Inv m e h nx)
  (step:∀ (m:Nat) (z4 z5 z6 z7 z8 z9:AV) (h:T Blk) (nx:Pa) (R:Ks Prop),Inv m z4 h nx->(∀ (m':Nat) (w4 w5 w6 w7 w8 w9:AV) (h':T Blk) (nx':Pa),m'<m->Inv m' w4 h' nx'->R (yc.fr a b c d w4 w5 w6 w7 w8 w9) h' nx'=.ok True)->IR.run yc.t29 C N O R (yc.fr a b c d z4 z5 z6 z7 z8 z9) h nx=.ok True) :
  IR.run yc.t30 C N O K (yc.fr a b c d e f g i o u) h nx=.ok True:=by
 rw [yc.t30];refine yC (fun m tm h nx=>∃ z4 z5 z6 z7 z8 z9,tm=(yc.fr a b c d z4 z5 z6 z7 z8 z9)/\Inv m z4 h nx) ?_ hm ⟨_,_,_,_,_,_,rfl,hi⟩;rintro m tm h nx R ⟨z4,z5,z6,z7,z8,z9,rfl,hi⟩ hR;exact step m z4 z5 z6 z7 z8 z9 h nx R hi fun m' w4 w5 w6 w7 w8 w9 h' nx' hlt hi'=>hR m' _ h' nx' hlt ⟨_,_,_,_,_,_,rfl,hi'⟩
theorem yc.zw3:IR.run yc.t33 C N O K (yc.fr a b c d e f g i o u) h nx =
 C.fn 269 (.of 269) [d] h nx fun v1 h2 n3=>K (yc.fr a b v1 d e f g i o u) h2 n3:=by kernel_rfl
theorem yc.go:zQ tbl N C (.of 218) [a0,a1] h nx K0=IR.run yc.t37 C N (fnO yc.res K0) (yw yc.res K0) (yc.fr a0 a1 .u .u .u .u .u .u .u .u) h nx:=yJ (F:=yc) (by kernel_rfl) (fun _=>by kernel_rfl) (by kernel_rfl)
theorem yc.ret:yw yc.res K0 (yc.fr a b c d e f g i o u) h nx=K0 c h nx:=by kernel_rfl
theorem wu.gq:IR.run wu.t0 C N O K (wu.fr a b c d e f g i o u l p q s v w y z A B D E G H L M P Q U) h nx =
 K (wu.fr a b .zf .zf e f g i o u l p q s v w y z A B D E G H L M P Q U) h nx:=by kernel_rfl
theorem wu.jv:IR.run wu.t1 C N O K (wu.fr a b c d e f g i o u l p q s v w y z A B D E G H L M P Q U) h nx =
 C.fn 216 (.of 216) [a,b] h nx fun v1 h2 n3=>zh .lss .int v1 (I 0) fun v4=>K (wu.fr a b c d e f g i o u l p q s v w y z A B D v4 G H L M P Q U) h2 n3:=by kernel_rfl
theorem wu.uq:IR.run wu.t2 C N O K (wu.fr a b c d e f g i o u l p q s v w y z A B D E G H L M P Q U) h nx =
 K (wu.fr a b .zf a e f g i o u l p q s v w y z A B D E G H L M P Q U) h nx:=by kernel_rfl
theorem wu.v21:Arg.ev (.t (.of 21)) ⟨(wu.fr a b c d e f g i o u l p q s v w y z A B D E G H L M P Q U),[]⟩=E:=by kernel_rfl
theorem wu.pq:IR.run wu.t6 C N O K (wu.fr a b c d e f g i o u l p q s v w y z A B D E G H L M P Q U) h nx =
 sLen b fun v1=>zh .eql .int v1 (I 1) fun v2=>K (wu.fr a b c d e f g i o u l p q s v w y z A B D E v2 H L M P Q U) h nx:=by kernel_rfl
theorem wu.vz:IR.run wu.t7 C N O K (wu.fr a b c d e f g i o u l p q s v w y z A B D E G H L M P Q U) h nx =
 zT 1 b (I 0) fun v1=>zC v1 h fun v2=>C.fn 268 (.of 268) [a,v2] h nx fun v3 h4 n5=>dm 0 v3 fun v6=>dm 1 v3 fun v7=>K (wu.fr a b c d v6 v7 g i o u l p q s v w y z A B D E G H L M P Q U) h4 n5:=by kernel_rfl
theorem wu.dw:IR.run wu.t8 C N O K (wu.fr a b c d e f g i o u l p q s v w y z A B D E G H L M P Q U) h nx =
 yU 1 1 [(I 0)] [(0,1,f)] h nx fun v1 h2 n3=>C.fn 269 (.of 269) [v1] h2 n3 fun v4 h5 n6=>K (wu.fr a b e v4 e f g i o u l p q s v w y z A B D E G H L M P Q U) h5 n6:=by kernel_rfl
theorem wu.v22:Arg.ev (.t (.of 22)) ⟨(wu.fr a b c d e f g i o u l p q s v w y z A B D E G H L M P Q U),[]⟩=G:=by kernel_rfl
theorem wu.go:zQ tbl N C (.of 213) [a0,a1] h nx K0=IR.run wu.t109 C N (fnO wu.res K0) (yw wu.res K0) (wu.fr a0 a1 .u .u .u .u .u .u .u .u .u .u .u .u .u .u .u .u .u .u .u .u .u .u .u .u .u .u .u) h nx:=yJ (F:=wu) (by kernel_rfl) (fun _=>by kernel_rfl) (by kernel_rfl)
theorem wu.ret:yw wu.res K0 (wu.fr a b c d e f g i o u l p q s v w y z A B D E G H L M P Q U) h nx=K0 (.tup [c,d]) h nx:=by kernel_rfl
theorem qy.gq:IR.run qy.t0 C N O K (qy.fr a b c d e f g) h nx =
 bH a h nx fun v1 h2 n3=>bH b h2 n3 fun v4 h5 n6=>yS [(.bool false),.zf] h5 n6 fun v7 h8 n9=>K (qy.fr a b v1 v4 v7 f g) h8 n9:=by kernel_rfl
theorem qy.jv:IR.run qy.t1 C N O K (qy.fr a b c d e f g) h nx =
 zH 0 c fun v1=>zC v1 h fun v2=>zH 0 d fun v3=>zC v3 h fun v4=>zh .eql .bool v2 v4 fun v5=>K (qy.fr a b c d e v5 g) h nx:=by kernel_rfl
theorem qy.uq:IR.run qy.t2 C N O K (qy.fr a b c d e f g) h nx =
 zH 0 c fun v1=>zC v1 h fun v2=>zH 1 c fun v3=>zC v3 h fun v4=>zH 1 d fun v5=>zC v5 h fun v6=>C.fn 215 (.of 215) [v4,v6] h nx fun v7 h8 n9=>(zC v1 h8 fun vA=>zW vA v2 ((zH 0 c fun vB=>zW vB v1 (C.fn 214 (.of 214) [v2,v7] h8 n9 fun vH hC nD=>zX 2 e vH hC nD fun vE hD nE=>K (qy.fr a b c d e f g) hD nE)))):=by kernel_rfl
theorem qy.v5:Arg.ev (.t (.of 5)) ⟨(qy.fr a b c d e f g),[]⟩=f:=by kernel_rfl
theorem qy.pq:IR.run qy.t6 C N O K (qy.fr a b c d e f g) h nx =
 zH 1 c fun v1=>zC v1 h fun v2=>zH 1 d fun v3=>zC v3 h fun v4=>C.fn 216 (.of 216) [v2,v4] h nx fun v5 h6 n7=>zh .geq .int v5 (I 0) fun v8=>K (qy.fr a b c d e f v8) h6 n7:=by kernel_rfl
theorem qy.vz:IR.run qy.t7 C N O K (qy.fr a b c d e f g) h nx =
 zH 0 c fun v1=>zC v1 h fun v2=>zH 1 c fun v3=>zC v3 h fun v4=>zH 1 d fun v5=>zC v5 h fun v6=>C.fn 217 (.of 217) [v4,v6] h nx fun v7 h8 n9=>(zC v1 h8 fun vA=>zW vA v2 ((zH 0 c fun vB=>zW vB v1 (C.fn 214 (.of 214) [v2,v7] h8 n9 fun vH hC nD=>zX 2 e vH hC nD fun vE hD nE=>K (qy.fr a b c d e f g) hD nE)))):=by kernel_rfl
theorem qy.v6:Arg.ev (.t (.of 6)) ⟨(qy.fr a b c d e f g),[]⟩=g:=by kernel_rfl
theorem qy.xu:IR.run qy.t11 C N O K (qy.fr a b c d e f g) h nx =
 zH 0 d fun v1=>zC v1 h fun v2=>zH 1 d fun v3=>zC v3 h fun v4=>zH 1 c fun v5=>zC v5 h fun v6=>C.fn 217 (.of 217) [v4,v6] h nx fun v7 h8 n9=>(zC v1 h8 fun vA=>zW vA v2 ((zH 0 d fun vB=>zW vB v1 (C.fn 214 (.of 214) [v2,v7] h8 n9 fun vH hC nD=>zX 2 e vH hC nD fun vE hD nE=>K (qy.fr a b c d e f g) hD nE)))):=by kernel_rfl
theorem qy.go:zQ tbl N C (.of 131) [a0,a1] h nx K0=IR.run qy.t15 C N (fnO qy.res K0) (yw qy.res K0) (qy.fr a0 a1 .u .u .u .u .u) h nx:=yJ (F:=qy) (by kernel_rfl) (fun _=>by kernel_rfl) (by kernel_rfl)
theorem qy.ret:yw qy.res K0 (qy.fr a b c d e f g) h nx=zO 2 e h fun v1=>K0 v1 h nx:=by kernel_rfl
theorem fO.gq:IR.run fO.t0 C N O K (fO.fr a b c) h nx =
 bH a h nx fun v1 h2 n3=>yS [(.bool false),.zf] h2 n3 fun v4 h5 n6=>K (fO.fr a v1 v4) h5 n6:=by kernel_rfl
theorem fO.jv:IR.run fO.t1 C N O K (fO.fr a b c) h nx =
 zH 0 b fun v1=>zC v1 h fun v2=>sNot v2 fun v3=>zH 1 b fun v4=>zC v4 h fun v5=>C.fn 214 (.of 214) [v3,v5] h nx fun v6 h7 n8=>zX 2 c v6 h7 n8 fun v9 hA nA=>K (fO.fr a b c) hA nA:=by kernel_rfl
theorem fO.go:zQ tbl N C (.of 212) [a0] h nx K0=IR.run fO.t3 C N (fnO fO.res K0) (yw fO.res K0) (fO.fr a0 .u .u) h nx:=yJ (F:=fO) (by kernel_rfl) (fun _=>by kernel_rfl) (by kernel_rfl)
theorem fO.ret:yw fO.res K0 (fO.fr a b c) h nx=zO 2 c h fun v1=>K0 v1 h nx:=by kernel_rfl
theorem fP.gq:IR.run fP.t0 C N O K (fP.fr a b c d e) h nx =
 bH a h nx fun v1 h2 n3=>bH b h2 n3 fun v4 h5 n6=>yS [(.bool false),.zf] h5 n6 fun v7 h8 n9=>K (fP.fr a b v1 v4 v7) h8 n9:=by kernel_rfl
theorem fP.jv:IR.run fP.t1 C N O K (fP.fr a b c d e) h nx =
 zH 0 c fun v1=>zC v1 h fun v2=>zH 0 d fun v3=>zC v3 h fun v4=>zh .neq .bool v2 v4 fun v5=>zH 1 c fun v6=>zC v6 h fun v7=>zH 1 d fun v8=>zC v8 h fun v9=>C.fn 218 (.of 218) [v7,v9] h nx fun vH hC nD=>(zh .neq .bool v2 v4 fun vI=>zW vI v5 ((zC v3 hC fun vJ=>zW vJ v4 ((zH 0 d fun vK=>zW vK v3 ((zC v1 hC fun vL=>zW vL v2 ((zH 0 c fun vM=>zW vM v1 (C.fn 214 (.of 214) [v5,vH] hC nD fun vE hD nE=>zX 2 e vE hD nE fun vB hE nF=>K (fP.fr a b c d e) hE nF)))))))))):=by kernel_rfl
theorem fP.go:zQ tbl N C (.of 132) [a0,a1] h nx K0=IR.run fP.t3 C N (fnO fP.res K0) (yw fP.res K0) (fP.fr a0 a1 .u .u .u) h nx:=yJ (F:=fP) (by kernel_rfl) (fun _=>by kernel_rfl) (by kernel_rfl)
theorem fP.ret:yw fP.res K0 (fP.fr a b c d e) h nx=zO 2 e h fun v1=>K0 v1 h nx:=by kernel_rfl
theorem qw.gq:IR.run qw.t0 C N O K (qw.fr a b c d e) h nx =
 K (qw.fr a b .zf d e) h nx:=by kernel_rfl
theorem qw.jv:IR.run qw.t1 C N O K (qw.fr a b c d e) h nx =
 sLen b fun v1=>zh .gtr .int v1 (I 0) fun v2=>K (qw.fr a b c d v2) h nx:=by kernel_rfl
theorem qw.v4:Arg.ev (.t (.of 4)) ⟨(qw.fr a b c d e),[]⟩=e:=by kernel_rfl
theorem qw.cu:IR.run qw.t4 C N O K (qw.fr a b c d e) h nx =
 C.fn 213 (.of 213) [a,b] h nx fun v1 h2 n3=>dm 0 v1 fun v4=>dm 1 v1 fun v5=>K (qw.fr a b c v5 e) h2 n3:=by kernel_rfl
theorem qw.fZ:IR.run qw.t5 C N O K (qw.fr a b c d e) h nx =
 K (qw.fr b d c d e) h nx:=by kernel_rfl
theorem qw.t9_L (Inv:Nat->AV->AV->T Blk->Pa->Prop) {m:Nat} (hm:m<N) (hi:Inv m a b h nx)
  (step:∀ (m:Nat) (z0 z1 z3 z4:AV) (h:T Blk) (nx:Pa) (R:Ks Prop),Inv m z0 z1 h nx->(∀ (m':Nat) (w0 w1 w3 w4:AV) (h':T Blk) (nx':Pa),m'<m->Inv m' w0 w1 h' nx'->R (qw.fr w0 w1 c w3 w4) h' nx'=.ok True)->IR.run qw.t8 C N O R (qw.fr z0 z1 c z3 z4) h nx=.ok True) :
  IR.run qw.t9 C N O K (qw.fr a b c d e) h nx=.ok True:=by
 rw [qw.t9];refine yC (fun m tm h nx=>∃ z0 z1 z3 z4,tm=(qw.fr z0 z1 c z3 z4)/\Inv m z0 z1 h nx) ?_ hm ⟨_,_,_,_,rfl,hi⟩;rintro m tm h nx R ⟨z0,z1,z3,z4,rfl,hi⟩ hR;exact step m z0 z1 z3 z4 h nx R hi fun m' w0 w1 w3 w4 h' nx' hlt hi'=>hR m' _ h' nx' hlt ⟨_,_,_,_,rfl,hi'⟩
theorem qw.xu:IR.run qw.t11 C N O K (qw.fr a b c d e) h nx =
 K (qw.fr a b a d e) h nx:=by kernel_rfl
theorem qw.go:zQ tbl N C (.of 208) [a0,a1] h nx K0=IR.run qw.t14 C N (fnO qw.res K0) (yw qw.res K0) (qw.fr a0 a1 .u .u .u) h nx:=yJ (F:=qw) (by kernel_rfl) (fun _=>by kernel_rfl) (by kernel_rfl)
theorem qw.ret:yw qw.res K0 (qw.fr a b c d e) h nx=K0 c h nx:=by kernel_rfl
theorem xq.gq:IR.run xq.t0 C N O K (xq.fr a b c d) h nx =
 K (xq.fr a b (I 0) d) h nx:=by kernel_rfl
theorem xq.jv:IR.run xq.t1 C N O K (xq.fr a b c d) h nx =
 zh .gtr .int b (I 0) fun v1=>K (xq.fr a b c v1) h nx:=by kernel_rfl
theorem xq.v3:Arg.ev (.t (.of 3)) ⟨(xq.fr a b c d),[]⟩=d:=by kernel_rfl
theorem xq.cu:IR.run xq.t4 C N O K (xq.fr a b c d) h nx =
 zh .rem .int a b fun v1=>K (xq.fr b v1 c d) h nx:=by kernel_rfl
theorem xq.t7_L (Inv:Nat->AV->AV->T Blk->Pa->Prop) {m:Nat} (hm:m<N) (hi:Inv m a b h nx)
  (step:∀ (m:Nat) (z0 z1 z3:AV) (h:T Blk) (nx:Pa) (R:Ks Prop),Inv m z0 z1 h nx->(∀ (m':Nat) (w0 w1 w3:AV) (h':T Blk) (nx':Pa),m'<m->Inv m' w0 w1 h' nx'->R (xq.fr w0 w1 c w3) h' nx'=.ok True)->IR.run xq.t6 C N O R (xq.fr z0 z1 c z3) h nx=.ok True) :
  IR.run xq.t7 C N O K (xq.fr a b c d) h nx=.ok True:=by
 rw [xq.t7];refine yC (fun m tm h nx=>∃ z0 z1 z3,tm=(xq.fr z0 z1 c z3)/\Inv m z0 z1 h nx) ?_ hm ⟨_,_,_,rfl,hi⟩;rintro m tm h nx R ⟨z0,z1,z3,rfl,hi⟩ hR;exact step m z0 z1 z3 h nx R hi fun m' w0 w1 w3 h' nx' hlt hi'=>hR m' _ h' nx' hlt ⟨_,_,_,rfl,hi'⟩
theorem xq.fC:IR.run xq.t9 C N O K (xq.fr a b c d) h nx =
 K (xq.fr a b a d) h nx:=by kernel_rfl
theorem xq.go:zQ tbl N C (.of 210) [a0,a1] h nx K0=IR.run xq.t12 C N (fnO xq.res K0) (yw xq.res K0) (xq.fr a0 a1 .u .u) h nx:=yJ (F:=xq) (by kernel_rfl) (fun _=>by kernel_rfl) (by kernel_rfl)
theorem xq.ret:yw xq.res K0 (xq.fr a b c d) h nx=K0 c h nx:=by kernel_rfl
theorem jy.gq:IR.run jy.t0 C N O K (jy.fr a b c d e f g) h nx =
 yS [(.bool false),.zf] h nx fun v1 h2 n3=>K (jy.fr a v1 c d e f g) h2 n3:=by kernel_rfl
theorem jy.jv:IR.run jy.t1 C N O K (jy.fr a b c d e f g) h nx =
 K (jy.fr a b .zf d e f g) h nx:=by kernel_rfl
theorem jy.uq:IR.run jy.t2 C N O K (jy.fr a b c d e f g) h nx =
 zh .lss .int a (I 0) fun v1=>K (jy.fr a b c v1 e f g) h nx:=by kernel_rfl
theorem jy.vk:IR.run jy.t3 C N O K (jy.fr a b c d e f g) h nx =
 zh .neq .int a (I 0) fun v1=>K (jy.fr a b c d e v1 g) h nx:=by kernel_rfl
theorem jy.v5:Arg.ev (.t (.of 5)) ⟨(jy.fr a b c d e f g),[]⟩=f:=by kernel_rfl
theorem jy.pq:IR.run jy.t6 C N O K (jy.fr a b c d e f g) h nx =
 zh .rem .int a (I 1000000000) fun v1=>K (jy.fr a b c d v1 f g) h nx:=by kernel_rfl
theorem jy.vz:IR.run jy.t7 C N O K (jy.fr a b c d e f g) h nx =
 zh .lss .int e (I 0) fun v1=>K (jy.fr a b c d e f v1) h nx:=by kernel_rfl
theorem jy.dw:IR.run jy.t8 C N O K (jy.fr a b c d e f g) h nx =
 zh .sub .int (I 0) e fun v1=>K (jy.fr a b c d v1 f g) h nx:=by kernel_rfl
theorem jy.v6:Arg.ev (.t (.of 6)) ⟨(jy.fr a b c d e f g),[]⟩=g:=by kernel_rfl
theorem jy.xu:IR.run jy.t11 C N O K (jy.fr a b c d e f g) h nx =
 yU 1 1 [(I 0)] [(0,1,e)] h nx fun v1 h2 n3=>rD 1 8 c v1 h2 n3 fun v4 h5 n6=>K (jy.fr a b v4 d e f g) h5 n6:=by kernel_rfl
theorem jy.bT:IR.run jy.t12 C N O K (jy.fr a b c d e f g) h nx =
 zh .quo .int a (I 1000000000) fun v1=>K (jy.fr v1 b c d e f g) h nx:=by kernel_rfl
theorem jy.zaf (Inv:Nat->AV->AV->T Blk->Pa->Prop) {m:Nat} (hm:m<N) (hi:Inv m a c h nx)
  (step:∀ (m:Nat) (z0 z2 z4 z5 z6:AV) (h:T Blk) (nx:Pa) (R:Ks Prop),Inv m z0 z2 h nx->(∀ (m':Nat) (w0 w2 w4 w5 w6:AV) (h':T Blk) (nx':Pa),m'<m->Inv m' w0 w2 h' nx'->R (jy.fr w0 b w2 d w4 w5 w6) h' nx'=.ok True)->IR.run jy.t17 C N O R (jy.fr z0 b z2 d z4 z5 z6) h nx=.ok True) :
  IR.run jy.t18 C N O K (jy.fr a b c d e f g) h nx=.ok True:=by
 rw [jy.t18];refine yC (fun m tm h nx=>∃ z0 z2 z4 z5 z6,tm=(jy.fr z0 b z2 d z4 z5 z6)/\Inv m z0 z2 h nx) ?_ hm ⟨_,_,_,_,_,rfl,hi⟩;rintro m tm h nx R ⟨z0,z2,z4,z5,z6,rfl,hi⟩ hR;exact step m z0 z2 z4 z5 z6 h nx R hi fun m' w0 w2 w4 w5 w6 h' nx' hlt hi'=>hR m' _ h' nx' hlt ⟨_,_,_,_,_,rfl,hi'⟩
theorem jy.rY:IR.run jy.t20 C N O K (jy.fr a b c d e f g) h nx =
 C.fn 214 (.of 214) [d,c] h nx fun v1 h2 n3=>zX 2 b v1 h2 n3 fun v4 h5 n6=>K (jy.fr a b c d e f g) h5 n6:=by kernel_rfl
theorem jy.go:zQ tbl N C (.of 134) [a0] h nx K0=IR.run jy.t25 C N (fnO jy.res K0) (yw jy.res K0) (jy.fr a0 .u .u .u .u .u .u) h nx:=yJ (F:=jy) (by kernel_rfl) (fun _=>by kernel_rfl) (by kernel_rfl)
theorem jy.ret:yw jy.res K0 (jy.fr a b c d e f g) h nx=zO 2 b h fun v1=>K0 v1 h nx:=by kernel_rfl
theorem ug.gq:IR.run ug.t0 C N O K (ug.fr a b c d e) h nx =
 K (ug.fr a b (.str []) d e) h nx:=by kernel_rfl
theorem ug.jv:IR.run ug.t1 C N O K (ug.fr a b c d e) h nx =
 K (ug.fr a b c (.str []) e) h nx:=by kernel_rfl
theorem ug.uq:IR.run ug.t2 C N O K tm h nx=zR ug.oL C ⟨tm,[]⟩ h nx (fun tm h nx=>K tm.v h nx):=yZ ..
theorem ug.oM:zR (ug.aS []) C ⟨(ug.fr a b c d e),[]⟩ h nx Kt =
 zh .gtr .int a (I 0) fun v1=>sG v1 false (fun k=>k d) fun v2=>sG v1 false (fun k=>qC v2 k) fun v3=>sG v1 false (fun k=>k b) fun v4=>sG v1 false (fun k=>zh .lss .int v3 v4 k) fun v5=>yE v1 (.bool true) v5 fun v6=>Kt ⟨(ug.fr a b c d v6),v5::v4::v3::v2::v1::v1::a::[]⟩ h nx:=by kernel_rfl
theorem ug.v4:Arg.ev (.t (.of 4)) ⟨(ug.fr a b c d e),[]⟩=e:=by kernel_rfl
theorem ug.fZ:IR.run ug.t5 C N O K (ug.fr a b c d e) h nx =
 zh .rem .int a (I 10) fun v1=>zh .rem .int a (I 10) fun v2=>zh .add .int v2 (I 1) fun v3=>gX (.str [48,49,50,51,52,53,54,55,56,57]) (some v1) (some v3) fun v4=>zh .add .str v4 d fun v5=>K (ug.fr a b c v5 e) h nx:=by kernel_rfl
theorem ug.pq:IR.run ug.t6 C N O K (ug.fr a b c d e) h nx =
 zh .quo .int a (I 10) fun v1=>K (ug.fr v1 b c d e) h nx:=by kernel_rfl
theorem ug.zw4 (Inv:Nat->AV->AV->T Blk->Pa->Prop) {m:Nat} (hm:m<N) (hi:Inv m a d h nx)
  (step:∀ (m:Nat) (z0 z3 z4:AV) (h:T Blk) (nx:Pa) (R:Ks Prop),Inv m z0 z3 h nx->(∀ (m':Nat) (w0 w3 w4:AV) (h':T Blk) (nx':Pa),m'<m->Inv m' w0 w3 h' nx'->R (ug.fr w0 b c w3 w4) h' nx'=.ok True)->IR.run ug.t9 C N O R (ug.fr z0 b c z3 z4) h nx=.ok True) :
  IR.run ug.t10 C N O K (ug.fr a b c d e) h nx=.ok True:=by
 rw [ug.t10];refine yC (fun m tm h nx=>∃ z0 z3 z4,tm=(ug.fr z0 b c z3 z4)/\Inv m z0 z3 h nx) ?_ hm ⟨_,_,_,rfl,hi⟩;rintro m tm h nx R ⟨z0,z3,z4,rfl,hi⟩ hR;exact step m z0 z3 z4 h nx R hi fun m' w0 w3 w4 h' nx' hlt hi'=>hR m' _ h' nx' hlt ⟨_,_,_,rfl,hi'⟩
theorem ug.bT:IR.run ug.t12 C N O K (ug.fr a b c d e) h nx =
 K (ug.fr a b d d e) h nx:=by kernel_rfl
theorem ug.go:zQ tbl N C (.of 211) [a0,a1] h nx K0=IR.run ug.t16 C N (fnO ug.res K0) (yw ug.res K0) (ug.fr a0 a1 .u .u .u) h nx:=yJ (F:=ug) (by kernel_rfl) (fun _=>by kernel_rfl) (by kernel_rfl)
theorem ug.ret:yw ug.res K0 (ug.fr a b c d e) h nx=K0 c h nx:=by kernel_rfl
theorem gm.gq:IR.run gm.t0 C N O K (gm.fr a b c d e f g i) h nx =
 bH a h nx fun v1 h2 n3=>K (gm.fr a v1 (.str []) d e f g i) h2 n3:=by kernel_rfl
theorem gm.jv:IR.run gm.t1 C N O K (gm.fr a b c d e f g i) h nx =
 zH 1 b fun v1=>zC v1 h fun v2=>sLen v2 fun v3=>zh .eql .int v3 (I 0) fun v4=>K (gm.fr a b c d e v4 g i) h nx:=by kernel_rfl
theorem gm.uq:IR.run gm.t2 C N O K (gm.fr a b c d e f g i) h nx =
 K (gm.fr a b (.str [48]) d e f g i) h nx:=by kernel_rfl
theorem gm.v5:Arg.ev (.t (.of 5)) ⟨(gm.fr a b c d e f g i),[]⟩=f:=by kernel_rfl
theorem gm.pq:IR.run gm.t6 C N O K (gm.fr a b c d e f g i) h nx =
 zH 1 b fun v1=>zC v1 h fun v2=>zH 1 b fun v3=>zC v3 h fun v4=>sLen v4 fun v5=>zh .sub .int v5 (I 1) fun v6=>zT 1 v2 v6 fun v7=>zC v7 h fun v8=>C.fn 211 (.of 211) [v8,(I 1)] h nx fun v9 hA nA=>K (gm.fr a b c v9 e f g i) hA nA:=by kernel_rfl
theorem gm.vz:IR.run gm.t7 C N O K (gm.fr a b c d e f g i) h nx =
 zH 1 b fun v1=>zC v1 h fun v2=>sLen v2 fun v3=>zh .sub .int v3 (I 2) fun v4=>K (gm.fr a b c d v4 f g i) h nx:=by kernel_rfl
theorem gm.dw:IR.run gm.t8 C N O K (gm.fr a b c d e f g i) h nx =
 zh .geq .int e (I 0) fun v1=>K (gm.fr a b c d e f v1 i) h nx:=by kernel_rfl
theorem gm.v6:Arg.ev (.t (.of 6)) ⟨(gm.fr a b c d e f g i),[]⟩=g:=by kernel_rfl
theorem gm.xu:IR.run gm.t11 C N O K (gm.fr a b c d e f g i) h nx =
 zH 1 b fun v1=>zC v1 h fun v2=>zT 1 v2 e fun v3=>zC v3 h fun v4=>C.fn 211 (.of 211) [v4,(I 9)] h nx fun v5 h6 n7=>zh .add .str d v5 fun v8=>K (gm.fr a b c v8 e f g i) h6 n7:=by kernel_rfl
theorem gm.fD:IR.run gm.t13 C N O K (gm.fr a b c d e f g i) h nx =
 zh .sub .int e (I 1) fun v1=>K (gm.fr a b c d v1 f g i) h nx:=by kernel_rfl
theorem gm.zaz (Inv:Nat->AV->AV->T Blk->Pa->Prop) {m:Nat} (hm:m<N) (hi:Inv m d e h nx)
  (step:∀ (m:Nat) (z3 z4 z6:AV) (h:T Blk) (nx:Pa) (R:Ks Prop),Inv m z3 z4 h nx->(∀ (m':Nat) (w3 w4 w6:AV) (h':T Blk) (nx':Pa),m'<m->Inv m' w3 w4 h' nx'->R (gm.fr a b c w3 w4 f w6 i) h' nx'=.ok True)->IR.run gm.t15 C N O R (gm.fr a b c z3 z4 f z6 i) h nx=.ok True) :
  IR.run gm.t16 C N O K (gm.fr a b c d e f g i) h nx=.ok True:=by
 rw [gm.t16];refine yC (fun m tm h nx=>∃ z3 z4 z6,tm=(gm.fr a b c z3 z4 f z6 i)/\Inv m z3 z4 h nx) ?_ hm ⟨_,_,_,rfl,hi⟩;rintro m tm h nx R ⟨z3,z4,z6,rfl,hi⟩ hR;exact step m z3 z4 z6 h nx R hi fun m' w3 w4 w6 h' nx' hlt hi'=>hR m' _ h' nx' hlt ⟨_,_,_,rfl,hi'⟩
theorem gm.sK:IR.run gm.t19 C N O K (gm.fr a b c d e f g i) h nx =
 zH 0 b fun v1=>zC v1 h fun v2=>K (gm.fr a b c d e f g v2) h nx:=by kernel_rfl
theorem gm.rY:IR.run gm.t20 C N O K (gm.fr a b c d e f g i) h nx =
 zh .add .str (.str [45]) d fun v1=>K (gm.fr a b v1 d e f g i) h nx:=by kernel_rfl
theorem gm.v7:Arg.ev (.t (.of 7)) ⟨(gm.fr a b c d e f g i),[]⟩=i:=by kernel_rfl
theorem gm.aj:IR.run gm.t24 C N O K (gm.fr a b c d e f g i) h nx =
 K (gm.fr a b d d e f g i) h nx:=by kernel_rfl
theorem gm.go:zQ tbl N C (.of 133) [a0] h nx K0=IR.run gm.t30 C N (fnO gm.res K0) (yw gm.res K0) (gm.fr a0 .u .u .u .u .u .u .u) h nx:=yJ (F:=gm) (by kernel_rfl) (fun _=>by kernel_rfl) (by kernel_rfl)
theorem gm.ret:yw gm.res K0 (gm.fr a b c d e f g i) h nx=K0 c h nx:=by kernel_rfl
theorem qh.gq:IR.run qh.t0 C N O K (qh.fr a b c d e) h nx =
 K (qh.fr a (I 0) c d e) h nx:=by kernel_rfl
theorem qh.jv:IR.run qh.t1 C N O K (qh.fr a b c d e) h nx =
 K (qh.fr a b (I 0) d e) h nx:=by kernel_rfl
theorem qh.uq:IR.run qh.t2 C N O K (qh.fr a b c d e) h nx =
 K (qh.fr a b c (I 0) e) h nx:=by kernel_rfl
theorem qh.vk:IR.run qh.t3 C N O K (qh.fr a b c d e) h nx =
 qC a fun v1=>zh .lss .int d v1 fun v2=>K (qh.fr a b c d v2) h nx:=by kernel_rfl
theorem qh.v4:Arg.ev (.t (.of 4)) ⟨(qh.fr a b c d e),[]⟩=e:=by kernel_rfl
theorem qh.pq:IR.run qh.t6 C N O K (qh.fr a b c d e) h nx =
 zh .mul .int (I 10) c fun v1=>zcw a d fun v2=>xS .i64 v2 fun v3=>zh .add .int v1 v3 fun v4=>zh .sub .int v4 (I 48) fun v5=>K (qh.fr a b v5 d e) h nx:=by kernel_rfl
theorem qh.dw:IR.run qh.t8 C N O K (qh.fr a b c d e) h nx =
 zh .add .int d (I 1) fun v1=>K (qh.fr a b c v1 e) h nx:=by kernel_rfl
theorem qh.zlo (Inv:Nat->AV->AV->T Blk->Pa->Prop) {m:Nat} (hm:m<N) (hi:Inv m c d h nx)
  (step:∀ (m:Nat) (z2 z3 z4:AV) (h:T Blk) (nx:Pa) (R:Ks Prop),Inv m z2 z3 h nx->(∀ (m':Nat) (w2 w3 w4:AV) (h':T Blk) (nx':Pa),m'<m->Inv m' w2 w3 h' nx'->R (qh.fr a b w2 w3 w4) h' nx'=.ok True)->IR.run qh.t10 C N O R (qh.fr a b z2 z3 z4) h nx=.ok True) :
  IR.run qh.t11 C N O K (qh.fr a b c d e) h nx=.ok True:=by
 rw [qh.t11];refine yC (fun m tm h nx=>∃ z2 z3 z4,tm=(qh.fr a b z2 z3 z4)/\Inv m z2 z3 h nx) ?_ hm ⟨_,_,_,rfl,hi⟩;rintro m tm h nx R ⟨z2,z3,z4,rfl,hi⟩ hR;exact step m z2 z3 z4 h nx R hi fun m' w2 w3 w4 h' nx' hlt hi'=>hR m' _ h' nx' hlt ⟨_,_,_,rfl,hi'⟩
theorem qh.fG:IR.run qh.t14 C N O K (qh.fr a b c d e) h nx =
 K (qh.fr a c c d e) h nx:=by kernel_rfl
theorem qh.go:zQ tbl N C (.of 209) [a0] h nx K0=IR.run qh.t18 C N (fnO qh.res K0) (yw qh.res K0) (qh.fr a0 .u .u .u .u) h nx:=yJ (F:=qh) (by kernel_rfl) (fun _=>by kernel_rfl) (by kernel_rfl)
theorem qh.ret:yw qh.res K0 (qh.fr a b c d e) h nx=K0 b h nx:=by kernel_rfl
theorem gy.gq:IR.run gy.t0 C N O K (gy.fr a b c d e f) h nx =
 yS [(.bool false),.zf] h nx fun v1 h2 n3=>K (gy.fr a v1 c d e f) h2 n3:=by kernel_rfl
theorem gy.jv:IR.run gy.t1 C N O K (gy.fr a b c d e f) h nx =
 qC a fun v1=>zh .gtr .int v1 (I 0) fun v2=>sG v2 true (fun k=>k a) fun v3=>sG v2 true (fun k=>zcw v3 (I 0) k) fun v4=>sG v2 true (fun k=>zh .eql .int v4 (.int .u8 45) k) fun v5=>yE v2 v5 (.bool false) fun v6=>K (gy.fr a b v6 d e f) h nx:=by kernel_rfl
theorem gy.uq:IR.run gy.t2 C N O K (gy.fr a b c d e f) h nx =
 K (gy.fr a b c d c f) h nx:=by kernel_rfl
theorem gy.vk:IR.run gy.t3 C N O K (gy.fr a b c d e f) h nx =
 gX a (some (I 1)) none fun v1=>K (gy.fr v1 b c d e f) h nx:=by kernel_rfl
theorem gy.v4:Arg.ev (.t (.of 4)) ⟨(gy.fr a b c d e f),[]⟩=e:=by kernel_rfl
theorem gy.pq:IR.run gy.t6 C N O K (gy.fr a b c d e f) h nx =
 K (gy.fr a b c .zf e f) h nx:=by kernel_rfl
theorem gy.vz:IR.run gy.t7 C N O K (gy.fr a b c d e f) h nx =
 qC a fun v1=>zh .gtr .int v1 (I 9) fun v2=>K (gy.fr a b c d e v2) h nx:=by kernel_rfl
theorem gy.v5:Arg.ev (.t (.of 5)) ⟨(gy.fr a b c d e f),[]⟩=f:=by kernel_rfl
theorem gy.dh:IR.run gy.t10 C N O K (gy.fr a b c d e f) h nx =
 qC a fun v1=>zh .sub .int v1 (I 9) fun v2=>gX a (some v2) none fun v3=>C.fn 209 (.of 209) [v3] h nx fun v4 h5 n6=>yU 1 1 [(I 0)] [(0,1,v4)] h5 n6 fun v7 h8 n9=>rD 1 8 d v7 h8 n9 fun vH hC nD=>K (gy.fr a b c vH e f) hC nD:=by kernel_rfl
theorem gy.xu:IR.run gy.t11 C N O K (gy.fr a b c d e f) h nx =
 qC a fun v1=>zh .sub .int v1 (I 9) fun v2=>gX a none (some v2) fun v3=>K (gy.fr v3 b c d e f) h nx:=by kernel_rfl
theorem gy.zw5 (Inv:Nat->AV->AV->T Blk->Pa->Prop) {m:Nat} (hm:m<N) (hi:Inv m a d h nx)
  (step:∀ (m:Nat) (z0 z3 z5:AV) (h:T Blk) (nx:Pa) (R:Ks Prop),Inv m z0 z3 h nx->(∀ (m':Nat) (w0 w3 w5:AV) (h':T Blk) (nx':Pa),m'<m->Inv m' w0 w3 h' nx'->R (gy.fr w0 b c w3 e w5) h' nx'=.ok True)->IR.run gy.t14 C N O R (gy.fr z0 b c z3 e z5) h nx=.ok True) :
  IR.run gy.t15 C N O K (gy.fr a b c d e f) h nx=.ok True:=by
 rw [gy.t15];refine yC (fun m tm h nx=>∃ z0 z3 z5,tm=(gy.fr z0 b c z3 e z5)/\Inv m z0 z3 h nx) ?_ hm ⟨_,_,_,rfl,hi⟩;rintro m tm h nx R ⟨z0,z3,z5,rfl,hi⟩ hR;exact step m z0 z3 z5 h nx R hi fun m' w0 w3 w5 h' nx' hlt hi'=>hR m' _ h' nx' hlt ⟨_,_,_,rfl,hi'⟩
theorem gy.rF:IR.run gy.t17 C N O K (gy.fr a b c d e f) h nx =
 C.fn 209 (.of 209) [a] h nx fun v1 h2 n3=>yU 1 1 [(I 0)] [(0,1,v1)] h2 n3 fun v4 h5 n6=>rD 1 8 d v4 h5 n6 fun v7 h8 n9=>C.fn 214 (.of 214) [c,v7] h8 n9 fun vH hC nD=>zX 2 b vH hC nD fun vE hD nE=>K (gy.fr a b c d e f) hD nE:=by kernel_rfl
theorem gy.go:zQ tbl N C (.of 205) [a0] h nx K0=IR.run gy.t23 C N (fnO gy.res K0) (yw gy.res K0) (gy.fr a0 .u .u .u .u .u) h nx:=yJ (F:=gy) (by kernel_rfl) (fun _=>by kernel_rfl) (by kernel_rfl)
theorem gy.ret:yw gy.res K0 (gy.fr a b c d e f) h nx=zO 2 b h fun v1=>K0 v1 h nx:=by kernel_rfl
theorem kz.gq:IR.run kz.t0 C N O K (kz.fr a b c d e) h nx =
 K (kz.fr a (I 0) c d e) h nx:=by kernel_rfl
theorem kz.jv:IR.run kz.t1 C N O K (kz.fr a b c d e) h nx =
 K (kz.fr a b (I 0) d e) h nx:=by kernel_rfl
theorem kz.uq:IR.run kz.t2 C N O K (kz.fr a b c d e) h nx =
 qC a fun v1=>zh .lss .int c v1 fun v2=>K (kz.fr a b c v2 e) h nx:=by kernel_rfl
theorem kz.v3:Arg.ev (.t (.of 3)) ⟨(kz.fr a b c d e),[]⟩=d:=by kernel_rfl
theorem kz.fZ:IR.run kz.t5 C N O K (kz.fr a b c d e) h nx =
 zcw a c fun v1=>zh .eql .int v1 (.int .u8 47) fun v2=>K (kz.fr a b c d v2) h nx:=by kernel_rfl
theorem kz.pq:IR.run kz.t6 C N O K (kz.fr a b c d e) h nx =
 K (kz.fr a c c d e) h nx:=by kernel_rfl
theorem kz.v4:Arg.ev (.t (.of 4)) ⟨(kz.fr a b c d e),[]⟩=e:=by kernel_rfl
theorem kz.xu:IR.run kz.t11 C N O K (kz.fr a b c d e) h nx =
 zh .add .int c (I 1) fun v1=>K (kz.fr a b v1 d e) h nx:=by kernel_rfl
theorem kz.zlp (Inv:Nat->AV->T Blk->Pa->Prop) {m:Nat} (hm:m<N) (hi:Inv m c h nx)
  (step:∀ (m:Nat) (z1 z2 z3 z4:AV) (h:T Blk) (nx:Pa) (R:Ks Prop),Inv m z2 h nx->(∀ (m':Nat) (w1 w2 w3 w4:AV) (h':T Blk) (nx':Pa),m'<m->Inv m' w2 h' nx'->R (kz.fr a w1 w2 w3 w4) h' nx'=.ok True)->IR.run kz.t13 C N O R (kz.fr a z1 z2 z3 z4) h nx=.ok True) :
  IR.run kz.t14 C N O K (kz.fr a b c d e) h nx=.ok True:=by
 rw [kz.t14];refine yC (fun m tm h nx=>∃ z1 z2 z3 z4,tm=(kz.fr a z1 z2 z3 z4)/\Inv m z2 h nx) ?_ hm ⟨_,_,_,_,rfl,hi⟩;rintro m tm h nx R ⟨z1,z2,z3,z4,rfl,hi⟩ hR;exact step m z1 z2 z3 z4 h nx R hi fun m' w1 w2 w3 w4 h' nx' hlt hi'=>hR m' _ h' nx' hlt ⟨_,_,_,_,rfl,hi'⟩
theorem kz.rF:IR.run kz.t17 C N O K (kz.fr a b c d e) h nx =
 qC a fun v1=>K (kz.fr a v1 c d e) h nx:=by kernel_rfl
theorem kz.go:zQ tbl N C (.of 206) [a0] h nx K0=IR.run kz.t20 C N (fnO kz.res K0) (yw kz.res K0) (kz.fr a0 .u .u .u .u) h nx:=yJ (F:=kz) (by kernel_rfl) (fun _=>by kernel_rfl) (by kernel_rfl)
theorem kz.ret:yw kz.res K0 (kz.fr a b c d e) h nx=K0 b h nx:=by kernel_rfl
theorem wz.gq:IR.run wz.t0 C N O K (wz.fr a b c d e f) h nx =
 yS [(.bool false),.zf] h nx fun v1 h2 n3=>yS [(.bool false),.zf] h2 n3 fun v4 h5 n6=>K (wz.fr a v1 v4 d e f) h5 n6:=by kernel_rfl
theorem wz.jv:IR.run wz.t1 C N O K (wz.fr a b c d e f) h nx =
 K (wz.fr a b c a e f) h nx:=by kernel_rfl
theorem wz.uq:IR.run wz.t2 C N O K (wz.fr a b c d e f) h nx =
 C.fn 206 (.of 206) [d] h nx fun v1 h2 n3=>K (wz.fr a b c d v1 f) h2 n3:=by kernel_rfl
theorem wz.vk:IR.run wz.t3 C N O K (wz.fr a b c d e f) h nx =
 qC d fun v1=>zh .eql .int e v1 fun v2=>K (wz.fr a b c d e v2) h nx:=by kernel_rfl
theorem wz.cu:IR.run wz.t4 C N O K (wz.fr a b c d e f) h nx =
 C.fn 205 (.of 205) [d] h nx fun v1 h2 n3=>C.fn 134 (.of 134) [(I 1)] h2 n3 fun v4 h5 n6=>zX 2 b v1 h5 n6 fun v7 h8 n9=>zX 2 c v4 h8 n9 fun vH hC nD=>K (wz.fr a b c d e f) hC nD:=by kernel_rfl
theorem wz.v5:Arg.ev (.t (.of 5)) ⟨(wz.fr a b c d e f),[]⟩=f:=by kernel_rfl
theorem wz.dw:IR.run wz.t8 C N O K (wz.fr a b c d e f) h nx =
 gX d none (some e) fun v1=>zh .add .int e (I 1) fun v2=>gX d (some v2) none fun v3=>C.fn 205 (.of 205) [v1] h nx fun v4 h5 n6=>(gX d (some v2) none fun vA=>zW vA v3 ((zh .add .int e (I 1) fun vB=>zW vB v2 (zW e e (zW d d (C.fn 205 (.of 205) [v3] h5 n6 fun v7 h8 n9=>zX 2 b v4 h8 n9 fun vH hC nD=>zX 2 c v7 hC nD fun vE hD nE=>K (wz.fr a b c d e f) hD nE)))))):=by kernel_rfl
theorem wz.go:zQ tbl N C (.of 129) [a0] h nx K0=IR.run wz.t13 C N (fnO wz.res K0) (yw wz.res K0) (wz.fr a0 .u .u .u .u .u) h nx:=yJ (F:=wz) (by kernel_rfl) (fun _=>by kernel_rfl) (by kernel_rfl)
theorem wz.ret:yw wz.res K0 (wz.fr a b c d e f) h nx=zO 2 b h fun v1=>zO 2 c h fun v2=>K0 (.tup [v1,v2]) h nx:=by kernel_rfl
theorem fQ.gq:IR.run fQ.t0 C N O K (fQ.fr a b c) h nx =
 bH a h nx fun v1 h2 n3=>yS [(I 0),.zf,(I 0),.zf] h2 n3 fun v4 h5 n6=>K (fQ.fr a v1 v4) h5 n6:=by kernel_rfl
theorem fQ.jv:IR.run fQ.t1 C N O K (fQ.fr a b c) h nx =
 zO 2 b h fun v1=>C.fn 187 (.of 187) [(I 1)] h nx fun v2 h3 n4=>(zO 2 b h3 fun v9=>zW v9 v1 (yV [(I 0),.zf,(I 0),.zf] [(0,2,v1),(2,2,v2)] fun v5=>zX 4 c v5 h3 n4 fun v6 h7 n8=>K (fQ.fr a b c) h7 n8)):=by kernel_rfl
theorem fQ.go:zQ tbl N C (.of 186) [a0] h nx K0=IR.run fQ.t3 C N (fnO fQ.res K0) (yw fQ.res K0) (fQ.fr a0 .u .u) h nx:=yJ (F:=fQ) (by kernel_rfl) (fun _=>by kernel_rfl) (by kernel_rfl)
theorem fQ.ret:yw fQ.res K0 (fQ.fr a b c) h nx=zO 4 c h fun v1=>K0 v1 h nx:=by kernel_rfl
theorem F96.gq:IR.run F96.t0 C N O K (F96.fr a b) h nx =
 yS [(I 0),.zf,(I 0),.zf] h nx fun v1 h2 n3=>K (F96.fr a v1) h2 n3:=by kernel_rfl
theorem F96.jv:IR.run F96.t1 C N O K (F96.fr a b) h nx =
 C.fn 187 (.of 187) [a] h nx fun v1 h2 n3=>C.fn 186 (.of 186) [v1] h2 n3 fun v4 h5 n6=>zX 4 b v4 h5 n6 fun v7 h8 n9=>K (F96.fr a b) h8 n9:=by kernel_rfl
theorem F96.go:zQ tbl N C (.of 96) [a0] h nx K0=IR.run F96.t3 C N (fnO F96.res K0) (yw F96.res K0) (F96.fr a0 .u) h nx:=yJ (F:=F96) (by kernel_rfl) (fun _=>by kernel_rfl) (by kernel_rfl)
theorem F96.ret:yw F96.res K0 (F96.fr a b) h nx=zO 4 b h fun v1=>K0 v1 h nx:=by kernel_rfl
theorem jm.gq:IR.run jm.t0 C N O K (jm.fr a b c d e f g i o u l) h nx =
 bH a h nx fun v1 h2 n3=>bH b h2 n3 fun v4 h5 n6=>K (jm.fr a b v1 v4 (.str []) f g i o u l) h5 n6:=by kernel_rfl
theorem jm.jv:IR.run jm.t1 C N O K (jm.fr a b c d e f g i o u l) h nx =
 zH 0 d fun v1=>zC v1 h fun v2=>K (jm.fr a b c d e f g i o v2 l) h nx:=by kernel_rfl
theorem jm.uq:IR.run jm.t2 C N O K (jm.fr a b c d e f g i o u l) h nx =
 zO 2 c h fun v1=>zO 2 d h fun v2=>C.fn 212 (.of 212) [v1] h nx fun v3 h4 n5=>(zO 2 d h4 fun vC=>zW vC v2 (C.fn 212 (.of 212) [v2] h4 n5 fun v6 h7 n8=>zX 2 c v3 h7 n8 fun v9 hA nA=>zX 2 d v6 hA nA fun vF hF nG=>K (jm.fr a b c d e f g i o u l) hF nG)):=by kernel_rfl
theorem jm.v9:Arg.ev (.t (.of 9)) ⟨(jm.fr a b c d e f g i o u l),[]⟩=u:=by kernel_rfl
theorem jm.fZ:IR.run jm.t5 C N O K (jm.fr a b c d e f g i o u l) h nx =
 zH 1 c fun v1=>zC v1 h fun v2=>zH 1 d fun v3=>zC v3 h fun v4=>C.fn 208 (.of 208) [v2,v4] h nx fun v5 h6 n7=>K (jm.fr a b c d e v5 g i o u l) h6 n7:=by kernel_rfl
theorem jm.pq:IR.run jm.t6 C N O K (jm.fr a b c d e f g i o u l) h nx =
 zH 1 c fun v1=>zC v1 h fun v2=>C.fn 213 (.of 213) [v2,f] h nx fun v3 h4 n5=>dm 0 v3 fun v6=>dm 1 v3 fun v7=>K (jm.fr a b c d e f v6 i o u l) h4 n5:=by kernel_rfl
theorem jm.vz:IR.run jm.t7 C N O K (jm.fr a b c d e f g i o u l) h nx =
 zH 1 d fun v1=>zC v1 h fun v2=>C.fn 213 (.of 213) [v2,f] h nx fun v3 h4 n5=>dm 0 v3 fun v6=>dm 1 v3 fun v7=>K (jm.fr a b c d e f g v6 o u l) h4 n5:=by kernel_rfl
theorem jm.dw:IR.run jm.t8 C N O K (jm.fr a b c d e f g i o u l) h nx =
 zH 0 c fun v1=>zC v1 h fun v2=>C.fn 214 (.of 214) [v2,g] h nx fun v3 h4 n5=>C.fn 133 (.of 133) [v3] h4 n5 fun v6 h7 n8=>K (jm.fr a b c d e f g i v6 u l) h7 n8:=by kernel_rfl
theorem jm.fC:IR.run jm.t9 C N O K tm h nx=zR jm.r6_0 C ⟨tm,[]⟩ h nx (fun tm h nx=>K tm.v h nx):=yZ ..
theorem jm.zlq:zR (jm.zsj r) C ⟨(jm.fr a b c d e f g i o u l),[]⟩ h nx Kt =
 sLen i fun v1=>zh .eql .int v1 (I 1) fun v2=>sG v2 true (fun k=>k i) fun v3=>sG v2 true (fun k=>zT 1 v3 (I 0) k) fun v4=>sG v2 true (fun k=>zC v4 h k) fun v5=>sG v2 true (fun k=>zh .eql .int v5 (I 1) k) fun v6=>zR r C ⟨(jm.fr a b c d e f g i o u l),v6::v5::v4::v3::v2::v2::v1::i::[]⟩ h nx Kt:=by kernel_rfl
theorem jm.zg2:zR (jm.zsk []) C ⟨(jm.fr a b c d e f g i o u l),s0::s1::s2::s3::s4::s5::s6::s7::[]⟩ h nx Kt =
 yE s4 s0 (.bool false) fun v1=>Kt ⟨(jm.fr a b c d e f g i o u v1),s0::s1::s2::s3::s4::s5::s6::s7::[]⟩ h nx:=by kernel_rfl
theorem jm.dh:IR.run jm.t10 C N O K (jm.fr a b c d e f g i o u l) h nx =
 K (jm.fr a b c d o f g i o u l) h nx:=by kernel_rfl
theorem jm.v10:Arg.ev (.t (.of 10)) ⟨(jm.fr a b c d e f g i o u l),[]⟩=l:=by kernel_rfl
theorem jm.fG:IR.run jm.t14 C N O K (jm.fr a b c d e f g i o u l) h nx =
 zh .add .str o (.str [47]) fun v1=>C.fn 214 (.of 214) [(.bool false),i] h nx fun v2 h3 n4=>C.fn 133 (.of 133) [v2] h3 n4 fun v5 h6 n7=>zh .add .str v1 v5 fun v8=>K (jm.fr a b c d v8 f g i o u l) h6 n7:=by kernel_rfl
theorem jm.go:zQ tbl N C (.of 130) [a0,a1] h nx K0=IR.run jm.t22 C N (fnO jm.res K0) (yw jm.res K0) (jm.fr a0 a1 .u .u .u .u .u .u .u .u .u) h nx:=yJ (F:=jm) (by kernel_rfl) (fun _=>by kernel_rfl) (by kernel_rfl)
theorem jm.ret:yw jm.res K0 (jm.fr a b c d e f g i o u l) h nx=K0 e h nx:=by kernel_rfl
theorem yh.gq:IR.run yh.t0 C N O K (yh.fr a b c d e f g i o u l p q s) h nx =
 K (yh.fr a (I 0) (I 0) (.bool false) e f g i o u l p q s) h nx:=by kernel_rfl
theorem yh.jv:IR.run yh.t1 C N O K (yh.fr a b c d e f g i o u l p q s) h nx =
 K (yh.fr a b c d a f g i o u l p q s) h nx:=by kernel_rfl
theorem yh.uq:IR.run yh.t2 C N O K (yh.fr a b c d e f g i o u l p q s) h nx =
 qC e fun v1=>zh .gtr .int v1 (I 20) fun v2=>K (yh.fr a b c d e f g i o v2 l p q s) h nx:=by kernel_rfl
theorem yh.vk:IR.run yh.t3 C N O K (yh.fr a b c d e f g i o u l p q s) h nx =
 K (yh.fr a (I 0) (I 0) (.bool false) e f g i o u l p q s) h nx:=by kernel_rfl
theorem yh.v9:Arg.ev (.t (.of 9)) ⟨(yh.fr a b c d e f g i o u l p q s),[]⟩=u:=by kernel_rfl
theorem yh.vz:IR.run yh.t7 C N O K (yh.fr a b c d e f g i o u l p q s) h nx =
 qC e fun v1=>zh .gtr .int v1 (I 0) fun v2=>sG v2 true (fun k=>k e) fun v3=>sG v2 true (fun k=>zcw v3 (I 0) k) fun v4=>sG v2 true (fun k=>zh .eql .int v4 (.int .u8 45) k) fun v5=>yE v2 v5 (.bool false) fun v6=>K (yh.fr a b c d e v6 g i o u l p q s) h nx:=by kernel_rfl
theorem yh.dw:IR.run yh.t8 C N O K (yh.fr a b c d e f g i o u l p q s) h nx =
 K (yh.fr a b c d e f g i o u f p q s) h nx:=by kernel_rfl
theorem yh.fC:IR.run yh.t9 C N O K (yh.fr a b c d e f g i o u l p q s) h nx =
 gX e (some (I 1)) none fun v1=>K (yh.fr a b c d v1 f g i o u l p q s) h nx:=by kernel_rfl
theorem yh.v10:Arg.ev (.t (.of 10)) ⟨(yh.fr a b c d e f g i o u l p q s),[]⟩=l:=by kernel_rfl
theorem yh.bT:IR.run yh.t12 C N O K (yh.fr a b c d e f g i o u l p q s) h nx =
 C.fn 206 (.of 206) [e] h nx fun v1 h2 n3=>K (yh.fr a b c d e f v1 i o u l p q s) h2 n3:=by kernel_rfl
theorem yh.fD:IR.run yh.t13 C N O K tm h nx=zR yh.ou C ⟨tm,[]⟩ h nx (fun tm h nx=>K tm.v h nx):=yZ ..
theorem yh.aW:zR (yh.aX r) C ⟨(yh.fr a b c d e f g i o u l p q s),[]⟩ h nx Kt =
 zh .gtr .int g (I 9) fun v1=>sG v1 false (fun k=>k e) fun v2=>sG v1 false (fun k=>qC v2 k) fun v3=>sG v1 false (fun k=>k g) fun v4=>sG v1 false (fun k=>zh .sub .int v3 v4 k) fun v5=>sG v1 false (fun k=>zh .gtr .int v5 (I 10) k) fun v6=>zR r C ⟨(yh.fr a b c d e f g i o u l p q s),v6::v5::v4::v3::v2::v1::v1::g::[]⟩ h nx Kt:=by kernel_rfl
theorem yh.tX:zR (yh.aY []) C ⟨(yh.fr a b c d e f g i o u l p q s),s0::s1::s2::s3::s4::s5::s6::s7::[]⟩ h nx Kt =
 yE s5 (.bool true) s0 fun v1=>Kt ⟨(yh.fr a b c d e f g i o u l v1 q s),s0::s1::s2::s3::s4::s5::s6::s7::[]⟩ h nx:=by kernel_rfl
theorem yh.fG:IR.run yh.t14 C N O K (yh.fr a b c d e f g i o u l p q s) h nx =
 K (yh.fr a (I 0) (I 0) (.bool false) e f g i o u l p q s) h nx:=by kernel_rfl
theorem yh.v11:Arg.ev (.t (.of 11)) ⟨(yh.fr a b c d e f g i o u l p q s),[]⟩=p:=by kernel_rfl
theorem yh.aT:IR.run yh.t18 C N O K (yh.fr a b c d e f g i o u l p q s) h nx =
 gX e none (some g) fun v1=>C.fn 209 (.of 209) [v1] h nx fun v2 h3 n4=>K (yh.fr a b c d e f g v2 (I 1) u l p q s) h3 n4:=by kernel_rfl
theorem yh.sK:IR.run yh.t19 C N O K (yh.fr a b c d e f g i o u l p q s) h nx =
 qC e fun v1=>zh .lss .int g v1 fun v2=>K (yh.fr a b c d e f g i o u l p v2 s) h nx:=by kernel_rfl
theorem yh.rY:IR.run yh.t20 C N O K (yh.fr a b c d e f g i o u l p q s) h nx =
 zh .add .int g (I 1) fun v1=>gX e (some v1) none fun v2=>C.fn 209 (.of 209) [v2] h nx fun v3 h4 n5=>K (yh.fr a b c d e f g i v3 u l p q s) h4 n5:=by kernel_rfl
theorem yh.v12:Arg.ev (.t (.of 12)) ⟨(yh.fr a b c d e f g i o u l p q s),[]⟩=q:=by kernel_rfl
theorem yh.zav:IR.run yh.t23 C N O K (yh.fr a b c d e f g i o u l p q s) h nx =
 K (yh.fr a b c d e f g i o u l p q f) h nx:=by kernel_rfl
theorem yh.aj:IR.run yh.t24 C N O K (yh.fr a b c d e f g i o u l p q s) h nx =
 zh .sub .int (I 0) i fun v1=>K (yh.fr a b c d e f g v1 o u l p q s) h nx:=by kernel_rfl
theorem yh.v13:Arg.ev (.t (.of 13)) ⟨(yh.fr a b c d e f g i o u l p q s),[]⟩=s:=by kernel_rfl
theorem yh.zcv:IR.run yh.t27 C N O K (yh.fr a b c d e f g i o u l p q s) h nx =
 K (yh.fr a i o (.bool true) e f g i o u l p q s) h nx:=by kernel_rfl
theorem yh.go:zQ tbl N C (.of 127) [a0] h nx K0=IR.run yh.t38 C N (fnO yh.res K0) (yw yh.res K0) (yh.fr a0 .u .u .u .u .u .u .u .u .u .u .u .u .u) h nx:=yJ (F:=yh) (by kernel_rfl) (fun _=>by kernel_rfl) (by kernel_rfl)
theorem yh.ret:yw yh.res K0 (yh.fr a b c d e f g i o u l p q s) h nx=K0 (.tup [b,c,d]) h nx:=by kernel_rfl
theorem yj.gq:IR.run yj.t0 C N O K (yj.fr a b c d e f g i o) h nx =
 K (yj.fr a b (.str []) d e f g i o) h nx:=by kernel_rfl
theorem yj.jv:IR.run yj.t1 C N O K tm h nx=zR yj.aA C ⟨tm,[]⟩ h nx (fun tm h nx=>K tm.v h nx):=yZ ..
theorem yj.aB:zR (yj.tN r) C ⟨(yj.fr a b c d e f g i o),[]⟩ h nx Kt =
 zh .lss .int a (I (-4000000000000000000)) fun v1=>sG v1 false (fun k=>k a) fun v2=>sG v1 false (fun k=>zh .gtr .int v2 (I 4000000000000000000) k) fun v3=>yE v1 (.bool true) v3 fun v4=>sG v4 false (fun k=>k b) fun v5=>zR r C ⟨(yj.fr a b c d e f g i o),v5::v4::v4::v3::v2::v1::v1::a::[]⟩ h nx Kt:=by kernel_rfl
theorem yj.bY:zR (yj.tV []) C ⟨(yj.fr a b c d e f g i o),s0::s1::s2::s3::s4::s5::s6::s7::[]⟩ h nx Kt =
 sG s1 false (fun k=>zh .lss .int s0 (I (-4000000000000000000)) k) fun v1=>yE s1 (.bool true) v1 fun v2=>sG v2 false (fun k=>k b) fun v3=>sG v2 false (fun k=>zh .gtr .int v3 (I 4000000000000000000) k) fun v4=>yE v2 (.bool true) v4 fun v5=>Kt ⟨(yj.fr a b c d e v5 g i o),v4::v3::v2::v2::v1::s0::s1::s2::s3::s4::s5::s6::s7::[]⟩ h nx:=by kernel_rfl
theorem yj.uq:IR.run yj.t2 C N O K (yj.fr a b c d e f g i o) h nx =
 C.fn 134 (.of 134) [a] h nx fun v1 h2 n3=>C.fn 134 (.of 134) [b] h2 n3 fun v4 h5 n6=>C.fn 130 (.of 130) [v1,v4] h5 n6 fun v7 h8 n9=>K (yj.fr a b v7 d e f g i o) h8 n9:=by kernel_rfl
theorem yj.v5:Arg.ev (.t (.of 5)) ⟨(yj.fr a b c d e f g i o),[]⟩=f:=by kernel_rfl
theorem yj.pq:IR.run yj.t6 C N O K (yj.fr a b c d e f g i o) h nx =
 zh .lss .int b (I 0) fun v1=>K (yj.fr a b c d e f v1 i o) h nx:=by kernel_rfl
theorem yj.vz:IR.run yj.t7 C N O K (yj.fr a b c d e f g i o) h nx =
 zh .sub .int (I 0) a fun v1=>zh .sub .int (I 0) b fun v2=>K (yj.fr v1 v2 c d e f g i o) h nx:=by kernel_rfl
theorem yj.v6:Arg.ev (.t (.of 6)) ⟨(yj.fr a b c d e f g i o),[]⟩=g:=by kernel_rfl
theorem yj.dh:IR.run yj.t10 C N O K (yj.fr a b c d e f g i o) h nx =
 zh .sub .int (I 0) a fun v1=>sMin true a [v1] fun v2=>C.fn 210 (.of 210) [v2,b] h nx fun v3 h4 n5=>K (yj.fr a b c v3 e f g i o) h4 n5:=by kernel_rfl
theorem yj.xu:IR.run yj.t11 C N O K (yj.fr a b c d e f g i o) h nx =
 zh .quo .int a d fun v1=>zh .quo .int b d fun v2=>K (yj.fr v1 v2 c d e f g i o) h nx:=by kernel_rfl
theorem yj.bT:IR.run yj.t12 C N O K (yj.fr a b c d e f g i o) h nx =
 K (yj.fr a b c d (.str []) f g i o) h nx:=by kernel_rfl
theorem yj.fD:IR.run yj.t13 C N O K (yj.fr a b c d e f g i o) h nx =
 zh .lss .int a (I 0) fun v1=>K (yj.fr a b c d e f g v1 o) h nx:=by kernel_rfl
theorem yj.fG:IR.run yj.t14 C N O K (yj.fr a b c d e f g i o) h nx =
 K (yj.fr a b c d (.str [45]) f g i o) h nx:=by kernel_rfl
theorem yj.v7:Arg.ev (.t (.of 7)) ⟨(yj.fr a b c d e f g i o),[]⟩=i:=by kernel_rfl
theorem yj.rF:IR.run yj.t17 C N O K (yj.fr a b c d e f g i o) h nx =
 zh .sub .int (I 0) a fun v1=>sMin true a [v1] fun v2=>C.fn 211 (.of 211) [v2,(I 1)] h nx fun v3 h4 n5=>zh .add .str e v3 fun v6=>K (yj.fr a b c d v6 f g i o) h4 n5:=by kernel_rfl
theorem yj.aT:IR.run yj.t18 C N O K (yj.fr a b c d e f g i o) h nx =
 zh .gtr .int b (I 1) fun v1=>K (yj.fr a b c d e f g i v1) h nx:=by kernel_rfl
theorem yj.sK:IR.run yj.t19 C N O K (yj.fr a b c d e f g i o) h nx =
 zh .add .str e (.str [47]) fun v1=>C.fn 211 (.of 211) [b,(I 1)] h nx fun v2 h3 n4=>zh .add .str v1 v2 fun v5=>K (yj.fr a b c d v5 f g i o) h3 n4:=by kernel_rfl
theorem yj.v8:Arg.ev (.t (.of 8)) ⟨(yj.fr a b c d e f g i o),[]⟩=o:=by kernel_rfl
theorem yj.tu:IR.run yj.t22 C N O K (yj.fr a b c d e f g i o) h nx =
 K (yj.fr a b e d e f g i o) h nx:=by kernel_rfl
theorem yj.go:zQ tbl N C (.of 128) [a0,a1] h nx K0=IR.run yj.t32 C N (fnO yj.res K0) (yw yj.res K0) (yj.fr a0 a1 .u .u .u .u .u .u .u) h nx:=yJ (F:=yj) (by kernel_rfl) (fun _=>by kernel_rfl) (by kernel_rfl)
theorem yj.ret:yw yj.res K0 (yj.fr a b c d e f g i o) h nx=K0 c h nx:=by kernel_rfl
theorem F40.gq:IR.run F40.t0 C N O K (F40.fr a b c d e f g i o u l p q s) h nx =
 K (F40.fr a b (.str []) d e f g i o u l p q s) h nx:=by kernel_rfl
theorem F40.jv:IR.run F40.t1 C N O K (F40.fr a b c d e f g i o u l p q s) h nx =
 C.fn 127 (.of 127) [a] h nx fun v1 h2 n3=>dm 0 v1 fun v4=>dm 1 v1 fun v5=>dm 2 v1 fun v6=>K (F40.fr a b c v4 v5 v6 g i o u l p q s) h2 n3:=by kernel_rfl
theorem F40.uq:IR.run F40.t2 C N O K (F40.fr a b c d e f g i o u l p q s) h nx =
 C.fn 127 (.of 127) [b] h nx fun v1 h2 n3=>dm 0 v1 fun v4=>dm 1 v1 fun v5=>dm 2 v1 fun v6=>K (F40.fr a b c d e f v4 v5 v6 u l p q s) h2 n3:=by kernel_rfl
theorem F40.vk:IR.run F40.t3 C N O K (F40.fr a b c d e f g i o u l p q s) h nx =
 sG f true (fun k=>k o) fun v1=>yE f v1 (.bool false) fun v2=>K (F40.fr a b c d e f g i o u l p q v2) h nx:=by kernel_rfl
theorem F40.cu:IR.run F40.t4 C N O K (F40.fr a b c d e f g i o u l p q s) h nx =
 zh .mul .int d i fun v1=>zh .mul .int g e fun v2=>zh .add .int v1 v2 fun v3=>zh .mul .int e i fun v4=>C.fn 128 (.of 128) [v3,v4] h nx fun v5 h6 n7=>K (F40.fr a b v5 d e f g i o u l p q s) h6 n7:=by kernel_rfl
theorem F40.v13:Arg.ev (.t (.of 13)) ⟨(F40.fr a b c d e f g i o u l p q s),[]⟩=s:=by kernel_rfl
theorem F40.dw:IR.run F40.t8 C N O K (F40.fr a b c d e f g i o u l p q s) h nx =
 C.fn 129 (.of 129) [a] h nx fun v1 h2 n3=>dm 0 v1 fun v4=>dm 1 v1 fun v5=>yS [(.bool false),.zf] h2 n3 fun v6 h7 n8=>yS [(.bool false),.zf] h7 n8 fun v9 hA nA=>zX 2 v6 v4 hA nA fun vF hF nG=>zX 2 v9 v5 hF nG fun vC hG nH=>K (F40.fr a b c d e f g i o v6 v9 p q s) hG nH:=by kernel_rfl
theorem F40.fC:IR.run F40.t9 C N O K (F40.fr a b c d e f g i o u l p q s) h nx =
 C.fn 129 (.of 129) [b] h nx fun v1 h2 n3=>dm 0 v1 fun v4=>dm 1 v1 fun v5=>yS [(.bool false),.zf] h2 n3 fun v6 h7 n8=>yS [(.bool false),.zf] h7 n8 fun v9 hA nA=>zX 2 v6 v4 hA nA fun vF hF nG=>zX 2 v9 v5 hF nG fun vC hG nH=>K (F40.fr a b c d e f g i o u l v6 v9 s) hG nH:=by kernel_rfl
theorem F40.dh:IR.run F40.t10 C N O K (F40.fr a b c d e f g i o u l p q s) h nx =
 zO 2 u h fun v1=>zO 2 q h fun v2=>zO 2 p h fun v3=>zO 2 l h fun v4=>zO 2 l h fun v5=>zO 2 q h fun v6=>C.fn 132 (.of 132) [v1,v2] h nx fun v7 h8 n9=>(zO 2 q h8 fun vN=>zW vN v6 ((zO 2 l h8 fun vO=>zW vO v5 ((zO 2 l h8 fun vP=>zW vP v4 ((zO 2 p h8 fun vQ=>zW vQ v3 (C.fn 132 (.of 132) [v3,v4] h8 n9 fun vH hC nD=>(zO 2 q hC fun vR=>zW vR v6 ((zO 2 l hC fun vS=>zW vS v5 (C.fn 131 (.of 131) [v7,vH] hC nD fun vE hD nE=>(zO 2 q hD fun vI=>zW vI v6 ((zO 2 l hD fun vJ=>zW vJ v5 (C.fn 132 (.of 132) [v5,v6] hD nE fun vB hE nF=>C.fn 130 (.of 130) [vE,vB] hE nF fun vM hH nI=>K (F40.fr a b vM d e f g i o u l p q s) hH nI)))))))))))))))):=by kernel_rfl
theorem F40.go:zQ tbl N C (.of 40) [a0,a1] h nx K0=IR.run F40.t17 C N (fnO F40.res K0) (yw F40.res K0) (F40.fr a0 a1 .u .u .u .u .u .u .u .u .u .u .u .u) h nx:=yJ (F:=F40) (by kernel_rfl) (fun _=>by kernel_rfl) (by kernel_rfl)
theorem F40.ret:yw F40.res K0 (F40.fr a b c d e f g i o u l p q s) h nx=K0 c h nx:=by kernel_rfl
theorem F41.gq:IR.run F41.t0 C N O K (F41.fr a b c d e f g i o u l p q s) h nx =
 K (F41.fr a b (.str []) d e f g i o u l p q s) h nx:=by kernel_rfl
theorem F41.jv:IR.run F41.t1 C N O K (F41.fr a b c d e f g i o u l p q s) h nx =
 C.fn 127 (.of 127) [a] h nx fun v1 h2 n3=>dm 0 v1 fun v4=>dm 1 v1 fun v5=>dm 2 v1 fun v6=>K (F41.fr a b c v4 v5 v6 g i o u l p q s) h2 n3:=by kernel_rfl
theorem F41.uq:IR.run F41.t2 C N O K (F41.fr a b c d e f g i o u l p q s) h nx =
 C.fn 127 (.of 127) [b] h nx fun v1 h2 n3=>dm 0 v1 fun v4=>dm 1 v1 fun v5=>dm 2 v1 fun v6=>K (F41.fr a b c d e f v4 v5 v6 u l p q s) h2 n3:=by kernel_rfl
theorem F41.vk:IR.run F41.t3 C N O K (F41.fr a b c d e f g i o u l p q s) h nx =
 sG f true (fun k=>k o) fun v1=>yE f v1 (.bool false) fun v2=>K (F41.fr a b c d e f g i o u l p q v2) h nx:=by kernel_rfl
theorem F41.cu:IR.run F41.t4 C N O K (F41.fr a b c d e f g i o u l p q s) h nx =
 zh .mul .int d g fun v1=>zh .mul .int e i fun v2=>C.fn 128 (.of 128) [v1,v2] h nx fun v3 h4 n5=>K (F41.fr a b v3 d e f g i o u l p q s) h4 n5:=by kernel_rfl
theorem F41.v13:Arg.ev (.t (.of 13)) ⟨(F41.fr a b c d e f g i o u l p q s),[]⟩=s:=by kernel_rfl
theorem F41.dw:IR.run F41.t8 C N O K (F41.fr a b c d e f g i o u l p q s) h nx =
 C.fn 129 (.of 129) [a] h nx fun v1 h2 n3=>dm 0 v1 fun v4=>dm 1 v1 fun v5=>yS [(.bool false),.zf] h2 n3 fun v6 h7 n8=>yS [(.bool false),.zf] h7 n8 fun v9 hA nA=>zX 2 v6 v4 hA nA fun vF hF nG=>zX 2 v9 v5 hF nG fun vC hG nH=>K (F41.fr a b c d e f g i o v6 v9 p q s) hG nH:=by kernel_rfl
theorem F41.fC:IR.run F41.t9 C N O K (F41.fr a b c d e f g i o u l p q s) h nx =
 C.fn 129 (.of 129) [b] h nx fun v1 h2 n3=>dm 0 v1 fun v4=>dm 1 v1 fun v5=>yS [(.bool false),.zf] h2 n3 fun v6 h7 n8=>yS [(.bool false),.zf] h7 n8 fun v9 hA nA=>zX 2 v6 v4 hA nA fun vF hF nG=>zX 2 v9 v5 hF nG fun vC hG nH=>K (F41.fr a b c d e f g i o u l v6 v9 s) hG nH:=by kernel_rfl
theorem F41.dh:IR.run F41.t10 C N O K (F41.fr a b c d e f g i o u l p q s) h nx =
 zO 2 u h fun v1=>zO 2 p h fun v2=>zO 2 l h fun v3=>zO 2 q h fun v4=>C.fn 132 (.of 132) [v1,v2] h nx fun v5 h6 n7=>(zO 2 q h6 fun vC=>zW vC v4 ((zO 2 l h6 fun vD=>zW vD v3 (C.fn 132 (.of 132) [v3,v4] h6 n7 fun v8 h9 nB=>C.fn 130 (.of 130) [v5,v8] h9 nB fun vG hB nC=>K (F41.fr a b vG d e f g i o u l p q s) hB nC)))):=by kernel_rfl
theorem F41.go:zQ tbl N C (.of 41) [a0,a1] h nx K0=IR.run F41.t17 C N (fnO F41.res K0) (yw F41.res K0) (F41.fr a0 a1 .u .u .u .u .u .u .u .u .u .u .u .u) h nx:=yJ (F:=F41) (by kernel_rfl) (fun _=>by kernel_rfl) (by kernel_rfl)
theorem F41.ret:yw F41.res K0 (F41.fr a b c d e f g i o u l p q s) h nx=K0 c h nx:=by kernel_rfl
theorem F86.rM (X2:IR) (C:Calls Prop) (N:Nat) (O:xw Prop) (K:Ks Prop) (a b c d e f g i:AV) (h:T Blk) (nx:Pa):IR.run (F86.g1 X2) C N O K (F86.fr a b c d e f g i) h nx =
 IR.run X2 C N (O.blk 0 K) K (F86.fr a b c d e f g i) h nx:=by kernel_rfl
theorem F86.tab:T.get none (.of 86) tbl=some F86:=by kernel_rfl
theorem F86.go:zQ tbl N C (.of 86) [a0] h nx K0 =
 sLen a0 fun v1=>IR.run F86.b1 C N (fnO F86.res K0) (IR.run F86.b8 C N (fnO F86.res K0) (yw F86.res K0)) (F86.fr a0 (I 0) .u a0 v1 (I 0) .u .u) h nx:=by
 rw [yA F86.tab];kernel_rfl
theorem F86.e1:IR.run F86.b3 C N ((fnO F86.res K0).blk 0 K) R (F86.fr a b c d e f g i) h nx =
 zh .lss .int f e fun v1=>yH v1 (zT 1 d f fun v2=>zC v2 h fun v3=>zh .neq .int v3 (I 0) fun v4=>yH v4 (K0 v3 h nx) (zh .add .int f (I 1) fun v5=>R (F86.fr a b v3 d e v5 v1 v4) h nx)) (K (F86.fr a b c d e f v1 i) h nx):=by kernel_rfl
theorem F86.L1 (Inv:Nat->AV->T Blk->Pa->Prop) {m:Nat} (hm:m<N) (hi:Inv m f h nx)
  (step:∀ (m:Nat) (z1 z2 z5 z6 z7:AV) (h:T Blk) (nx:Pa) (R:Ks Prop),Inv m z5 h nx->(∀ (m':Nat) (w1 w2 w5 w6 w7:AV) (h':T Blk) (nx':Pa),m'<m->Inv m' w5 h' nx'->R (F86.fr a w1 w2 d e w5 w6 w7) h' nx'=.ok True) ->
   (zh .lss .int z5 e fun v1=>yH v1 (zT 1 d z5 fun v2=>zC v2 h fun v3=>zh .neq .int v3 (I 0) fun v4=>yH v4 (K0 v3 h nx) (zh .add .int z5 (I 1) fun v5=>R (F86.fr a z1 v3 d e v5 v1 v4) h nx)) (K (F86.fr a z1 z2 d e z5 v1 z7) h nx))=.ok True) :
  IR.run F86.b1 C N (fnO F86.res K0) K (F86.fr a b c d e f g i) h nx=.ok True:=by
 rw [F86.b1,F86.rM,F86.b2];refine yC (fun m tm h nx=>∃ z1 z2 z5 z6 z7,tm=(F86.fr a z1 z2 d e z5 z6 z7)/\Inv m z5 h nx) ?_ hm ⟨_,_,_,_,_,rfl,hi⟩;rintro m tm h nx R ⟨z1,z2,z5,z6,z7,rfl,hi⟩ hR;rw [F86.e1];exact step m z1 z2 z5 z6 z7 h nx R hi fun m' w1 w2 w5 w6 w7 h' nx' hlt hi'=>hR m' _ h' nx' hlt ⟨_,_,_,_,_,rfl,hi'⟩
theorem F86.k8:IR.run F86.b8 C N (fnO F86.res K0) K (F86.fr a b c d e f g i) h nx =
 K0 (I 0) h nx:=by kernel_rfl
theorem F88.tab:T.get none (.of 88) tbl=some F88:=by kernel_rfl
theorem F88.go:zQ tbl N C (.of 88) [a0,a1] h nx K0 =
 yH a0 (K0 a1 h nx) (K0 (I 0) h nx):=by
 rw [yA F88.tab];kernel_rfl
theorem F87.tab:T.get none (.of 87) tbl=some F87:=by kernel_rfl
theorem F87.go:zQ tbl N C (.of 87) [a0,a1,a2] h nx K0 =
 bH a0 h nx fun v1 h2 n3=>bH a1 h2 n3 fun v4 h5 n6=>C.fn 173 (.of 173) [a2,(.fn 174 (.of 174) [v1,v4])] h5 n6 fun v7 h8 n9=>C.fn 88 (.of 88) [v7,(I 3)] h8 n9 fun vH hC nD=>K0 vH hC nD:=by
 rw [yA F87.tab];kernel_rfl
theorem oN.tab:T.get none (.of 174) tbl=some oN:=by kernel_rfl
theorem oN.go:zQ tbl N C (.of 174) [a0,a1,a2] h nx K0 =
 zC a1 h fun v1=>zh .lss .int a0 v1 fun v2=>sG v2 false (fun k=>k a0) fun v3=>sG v2 false (fun k=>zC a2 h k) fun v4=>sG v2 false (fun k=>zh .gtr .int v3 v4 k) fun v5=>yE v2 (.bool true) v5 fun v6=>K0 v6 h nx:=by
 rw [yA oN.tab];kernel_rfl
theorem oO.tab:T.get none (.of 173) tbl=some oO:=by kernel_rfl
theorem oO.go:zQ tbl N C (.of 173) [a0,a1] h nx K0 =
 C.fn 184 (.of 184) [a0,a1] h nx fun v1 h2 n3=>zh .geq .int v1 (I 0) fun v4=>K0 v4 h2 n3:=by
 rw [yA oO.tab];kernel_rfl
theorem di.rM (X2:IR) (C:Calls Prop) (N:Nat) (O:xw Prop) (K:Ks Prop) (a b c d e f g i:AV) (h:T Blk) (nx:Pa):IR.run (di.g1 X2) C N O K (di.fr a b c d e f g i) h nx =
 IR.run X2 C N (O.blk 0 K) K (di.fr a b c d e f g i) h nx:=by kernel_rfl
theorem di.tab:T.get none (.of 184) tbl=some di:=by kernel_rfl
theorem di.go:zQ tbl N C (.of 184) [a0,a1] h nx K0 =
 sLen a0 fun v1=>IR.run di.b1 C N (fnO di.res K0) (IR.run di.b8 C N (fnO di.res K0) (yw di.res K0)) (di.fr a0 a1 (I 0) .u v1 (I 0) .u .u) h nx:=by
 rw [yA di.tab];kernel_rfl
theorem di.e1:IR.run di.b3 C N ((fnO di.res K0).blk 0 K) R (di.fr a b c d e f g i) h nx =
 zh .lss .int f e fun v1=>yH v1 (zT 1 a f fun v2=>zC v2 h fun v3=>uW C b [v3] h nx fun v4 h5 n6=>yH v4 (K0 f h5 n6) (zh .add .int f (I 1) fun v7=>R (di.fr a b c f e v7 v1 v4) h5 n6)) (K (di.fr a b c d e f v1 i) h nx):=by kernel_rfl
theorem di.L1 (Inv:Nat->AV->T Blk->Pa->Prop) {m:Nat} (hm:m<N) (hi:Inv m f h nx)
  (step:∀ (m:Nat) (z2 z3 z5 z6 z7:AV) (h:T Blk) (nx:Pa) (R:Ks Prop),Inv m z5 h nx->(∀ (m':Nat) (w2 w3 w5 w6 w7:AV) (h':T Blk) (nx':Pa),m'<m->Inv m' w5 h' nx'->R (di.fr a b w2 w3 e w5 w6 w7) h' nx'=.ok True) ->
   (zh .lss .int z5 e fun v1=>yH v1 (zT 1 a z5 fun v2=>zC v2 h fun v3=>uW C b [v3] h nx fun v4 h5 n6=>yH v4 (K0 z5 h5 n6) (zh .add .int z5 (I 1) fun v7=>R (di.fr a b z2 z5 e v7 v1 v4) h5 n6)) (K (di.fr a b z2 z3 e z5 v1 z7) h nx))=.ok True) :
  IR.run di.b1 C N (fnO di.res K0) K (di.fr a b c d e f g i) h nx=.ok True:=by
 rw [di.b1,di.rM,di.b2];refine yC (fun m tm h nx=>∃ z2 z3 z5 z6 z7,tm=(di.fr a b z2 z3 e z5 z6 z7)/\Inv m z5 h nx) ?_ hm ⟨_,_,_,_,_,rfl,hi⟩;rintro m tm h nx R ⟨z2,z3,z5,z6,z7,rfl,hi⟩ hR;rw [di.e1];exact step m z2 z3 z5 z6 z7 h nx R hi fun m' w2 w3 w5 w6 w7 h' nx' hlt hi'=>hR m' _ h' nx' hlt ⟨_,_,_,_,_,rfl,hi'⟩
theorem di.k8:IR.run di.b8 C N (fnO di.res K0) K (di.fr a b c d e f g i) h nx =
 K0 (I (-1)) h nx:=by kernel_rfl
theorem oP.tab:T.get none (.of 171) tbl=some oP:=by kernel_rfl
theorem oP.go:zQ tbl N C (.of 171) [a0] h nx K0 =
 bH a0 h nx fun v1 h2 n3=>K0 (.fn 244 (.of 244) [v1]) h2 n3:=by
 rw [yA oP.tab];kernel_rfl
theorem oQ.tab:T.get none (.of 170) tbl=some oQ:=by kernel_rfl
theorem oQ.go:zQ tbl N C (.of 170) [a0] h nx K0 =
 C.fn 242 (.of 242) [a0] h nx fun v1 h2 n3=>C.fn 243 (.of 243) [v1] h2 n3 fun v4 h5 n6=>K0 v1 h5 n6:=by
 rw [yA oQ.tab];kernel_rfl
theorem oU.tab:T.get none (.of 242) tbl=some oU:=by kernel_rfl
theorem oU.go:zQ tbl N C (.of 242) [a0] h nx K0 =
 C.fn 282 (.of 282) [.zf,a0] h nx fun v1 h2 n3=>K0 v1 h2 n3:=by
 rw [yA oU.tab];kernel_rfl
theorem bK.rM (X2:IR) (C:Calls Prop) (N:Nat) (O:xw Prop) (K:Ks Prop) (a b c d e f g i:AV) (h:T Blk) (nx:Pa):IR.run (bK.g1 X2) C N O K (bK.fr a b c d e f g i) h nx =
 IR.run X2 C N (O.blk 0 K) K (bK.fr a b c d e f g i) h nx:=by kernel_rfl
theorem bK.tab:T.get none (.of 244) tbl=some bK:=by kernel_rfl
theorem bK.go:zQ tbl N C (.of 244) [a0,a1] h nx K0 =
 zC a1 h fun v1=>sLen v1 fun v2=>IR.run bK.b1 C N (fnO bK.res K0) (yw bK.res K0) (bK.fr a0 a1 .u v1 v2 (I 0) .u .u) h nx:=by
 rw [yA bK.tab];kernel_rfl
theorem bK.e1:IR.run bK.b3 C N ((fnO bK.res K0).blk 0 K) R (bK.fr a b c d e f g i) h nx =
 zh .lss .int f e fun v1=>yH v1 (zT 1 d f fun v2=>zC v2 h fun v3=>uW C a [v3] h nx fun v4 h5 n6=>sNot v4 fun v7=>yH v7 (K0 (.tup []) h5 n6) (zh .add .int f (I 1) fun v8=>R (bK.fr a b v3 d e v8 v1 v7) h5 n6)) (K (bK.fr a b c d e f v1 i) h nx):=by kernel_rfl
theorem bK.L1 (Inv:Nat->AV->T Blk->Pa->Prop) {m:Nat} (hm:m<N) (hi:Inv m f h nx)
  (step:∀ (m:Nat) (z2 z5 z6 z7:AV) (h:T Blk) (nx:Pa) (R:Ks Prop),Inv m z5 h nx->(∀ (m':Nat) (w2 w5 w6 w7:AV) (h':T Blk) (nx':Pa),m'<m->Inv m' w5 h' nx'->R (bK.fr a b w2 d e w5 w6 w7) h' nx'=.ok True) ->
   (zh .lss .int z5 e fun v1=>yH v1 (zT 1 d z5 fun v2=>zC v2 h fun v3=>uW C a [v3] h nx fun v4 h5 n6=>sNot v4 fun v7=>yH v7 (K0 (.tup []) h5 n6) (zh .add .int z5 (I 1) fun v8=>R (bK.fr a b v3 d e v8 v1 v7) h5 n6)) (K (bK.fr a b z2 d e z5 v1 z7) h nx))=.ok True) :
  IR.run bK.b1 C N (fnO bK.res K0) K (bK.fr a b c d e f g i) h nx=.ok True:=by
 rw [bK.b1,bK.rM,bK.b2];refine yC (fun m tm h nx=>∃ z2 z5 z6 z7,tm=(bK.fr a b z2 d e z5 z6 z7)/\Inv m z5 h nx) ?_ hm ⟨_,_,_,_,rfl,hi⟩;rintro m tm h nx R ⟨z2,z5,z6,z7,rfl,hi⟩ hR;rw [bK.e1];exact step m z2 z5 z6 z7 h nx R hi fun m' w2 w5 w6 w7 h' nx' hlt hi'=>hR m' _ h' nx' hlt ⟨_,_,_,_,rfl,hi'⟩
theorem bI.tab:T.get none (.of 282) tbl=some bI:=by kernel_rfl
theorem bI.go:zQ tbl N C (.of 282) [a0,a1] h nx K0 =
 bH a0 h nx fun v1 h2 n3=>IR.run (.rf (.t (.of 5)) [(.of 6)] bI.b3 bI.b4) C N ((fnO bI.res K0).blk 0 (IR.run bI.b6 C N (fnO bI.res K0) (yw bI.res K0))) (IR.run bI.b6 C N (fnO bI.res K0) (yw bI.res K0)) (bI.fr a0 a1 v1 .zf .u a1 .u) h2 n3:=by
 rw [yA bI.tab];kernel_rfl
theorem bI.k6:IR.run bI.b6 C N (fnO bI.res K0) K (bI.fr a b c d e f g) h nx =
 zC c h fun v1=>K0 v1 h nx:=by kernel_rfl
theorem bI.y4 {N:Nat} {C:Calls Prop} {K0:Kw Prop} {id nx:Pa} {j:Jump} {h h1:T Blk} {a b c d e f g z0:AV} (hl:T.get .no id h=.loop .ready j (bI.fr a b c d e f g) [.of 6] bI.b3 bI.b4) (he:h1=T.set .no (.loop .busy j (bI.fr a b c d e f g) [.of 6] bI.b3 bI.b4) id h) :
 xE N C id [z0] h nx K0 =
 zC c h1 fun v1=>yU 1 1 [(I 0)] [(0,1,z0)] h1 nx fun v2 h3 n4=>rD 1 8 v1 v2 h3 n4 fun v5 h6 n7=>zX 1 c v5 h6 n7 fun v8 h9 nB=>gQ id K0 .none true .e h9 nB:=by
 subst he;rw [zue hl (tm1:=(bI.fr a b c d e f z0)) (tm2:=(bI.fr a b c d z0 f z0)) (by intro k;kernel_rfl) (by intro O K h nx;kernel_rfl)];kernel_rfl
theorem F46.zw6 (X8:IR) (C:Calls Prop) (N:Nat) (O:xw Prop) (K:Ks Prop) (a b c d e f g i:AV) (h:T Blk) (nx:Pa):IR.run (F46.g7 X8) C N O K (F46.fr a b c d e f g i) h nx =
 IR.run X8 C N (O.blk 2 K) K (F46.fr a b c d e f g i) h nx:=by kernel_rfl
theorem F46.rM (X2:IR) (C:Calls Prop) (N:Nat) (O:xw Prop) (K:Ks Prop) (a b c d e f g i:AV) (h:T Blk) (nx:Pa):IR.run (F46.g1 X2) C N O K (F46.fr a b c d e f g i) h nx =
 IR.run X2 C N (O.blk 0 K) K (F46.fr a b c d e f g i) h nx:=by kernel_rfl
theorem F46.tab:T.get none (.of 46) tbl=some F46:=by kernel_rfl
theorem F46.go:zQ tbl N C (.of 46) [a0] h nx K0 =
 IR.run F46.b1 C N (fnO F46.res K0) (IR.run F46.b16 C N (fnO F46.res K0) (yw F46.res K0)) (F46.fr a0 (.bool false) (I 1) .u .u .u .u .u) h nx:=by
 rw [yA F46.tab];kernel_rfl
theorem F46.e1:IR.run F46.b3 C N ((fnO F46.res K0).blk 0 K) R (F46.fr a b c d e f g i) h nx =
 sLen a fun v1=>zh .leq .int c v1 fun v2=>yH v2 (IR.run F46.b7 C N (((fnO F46.res K0).blk 0 K).blk 1 (IR.run F46.b15 C N ((fnO F46.res K0).blk 0 K) R)) (IR.run F46.b14 C N (((fnO F46.res K0).blk 0 K).blk 1 (IR.run F46.b15 C N ((fnO F46.res K0).blk 0 K) R)) (IR.run F46.b15 C N ((fnO F46.res K0).blk 0 K) R)) (F46.fr a b c (.bool false) (I 0) v2 g i) h nx) (K (F46.fr a b c d e v2 g i) h nx):=by kernel_rfl
theorem F46.L1 (Inv:Nat->AV->T Blk->Pa->Prop) {m:Nat} (hm:m<N) (hi:Inv m c h nx)
  (step:∀ (m:Nat) (z1 z2 z3 z4 z5 z6 z7:AV) (h:T Blk) (nx:Pa) (R:Ks Prop),Inv m z2 h nx->(∀ (m':Nat) (w1 w2 w3 w4 w5 w6 w7:AV) (h':T Blk) (nx':Pa),m'<m->Inv m' w2 h' nx'->R (F46.fr a w1 w2 w3 w4 w5 w6 w7) h' nx'=.ok True) ->
   (sLen a fun v1=>zh .leq .int z2 v1 fun v2=>yH v2 (IR.run F46.b7 C N (((fnO F46.res K0).blk 0 K).blk 1 (IR.run F46.b15 C N ((fnO F46.res K0).blk 0 K) R)) (IR.run F46.b14 C N (((fnO F46.res K0).blk 0 K).blk 1 (IR.run F46.b15 C N ((fnO F46.res K0).blk 0 K) R)) (IR.run F46.b15 C N ((fnO F46.res K0).blk 0 K) R)) (F46.fr a z1 z2 (.bool false) (I 0) v2 z6 z7) h nx) (K (F46.fr a z1 z2 z3 z4 v2 z6 z7) h nx))=.ok True) :
  IR.run F46.b1 C N (fnO F46.res K0) K (F46.fr a b c d e f g i) h nx=.ok True:=by
 rw [F46.b1,F46.rM,F46.b2];refine yC (fun m tm h nx=>∃ z1 z2 z3 z4 z5 z6 z7,tm=(F46.fr a z1 z2 z3 z4 z5 z6 z7)/\Inv m z2 h nx) ?_ hm ⟨_,_,_,_,_,_,_,rfl,hi⟩;rintro m tm h nx R ⟨z1,z2,z3,z4,z5,z6,z7,rfl,hi⟩ hR;rw [F46.e1];exact step m z1 z2 z3 z4 z5 z6 z7 h nx R hi fun m' w1 w2 w3 w4 w5 w6 w7 h' nx' hlt hi'=>hR m' _ h' nx' hlt ⟨_,_,_,_,_,_,_,rfl,hi'⟩
theorem F46.k16:IR.run F46.b16 C N (fnO F46.res K0) K (F46.fr a b c d e f g i) h nx =
 K0 (.bool true) h nx:=by kernel_rfl
theorem F46.k15 {E0:Ks Prop}:IR.run F46.b15 C N ((fnO F46.res K0).blk 0 E0) K (F46.fr a b c d e f g i) h nx =
 zh .add .int c (I 1) fun v1=>K (F46.fr a b v1 d e f g i) h nx:=by kernel_rfl
theorem F46.e7 {E0 E1:Ks Prop}:IR.run F46.b9 C N ((((fnO F46.res K0).blk 0 E0).blk 1 E1).blk 2 K) R (F46.fr a b c d e f g i) h nx =
 sLen a fun v1=>zh .lss .int e v1 fun v2=>yH v2 (sG d false (fun k=>k a) fun v3=>sG d false (fun k=>k e) fun v4=>sG d false (fun k=>zT 1 v3 v4 k) fun v5=>sG d false (fun k=>zC v5 h k) fun v6=>sG d false (fun k=>k c) fun v7=>sG d false (fun k=>zh .eql .int v6 v7 k) fun v8=>yE d (.bool true) v8 fun v9=>zh .add .int e (I 1) fun vH=>R (F46.fr a b c v9 vH f v2 i) h nx) (K (F46.fr a b c d e f v2 i) h nx):=by kernel_rfl
theorem F46.L7 {E0 E1:Ks Prop} (Inv:Nat->AV->AV->T Blk->Pa->Prop) {m:Nat} (hm:m<N) (hi:Inv m d e h nx)
  (step:∀ (m:Nat) (z3 z4 z6:AV) (h:T Blk) (nx:Pa) (R:Ks Prop),Inv m z3 z4 h nx->(∀ (m':Nat) (w3 w4 w6:AV) (h':T Blk) (nx':Pa),m'<m->Inv m' w3 w4 h' nx'->R (F46.fr a b c w3 w4 f w6 i) h' nx'=.ok True) ->
   (sLen a fun v1=>zh .lss .int z4 v1 fun v2=>yH v2 (sG z3 false (fun k=>k a) fun v3=>sG z3 false (fun k=>k z4) fun v4=>sG z3 false (fun k=>zT 1 v3 v4 k) fun v5=>sG z3 false (fun k=>zC v5 h k) fun v6=>sG z3 false (fun k=>k c) fun v7=>sG z3 false (fun k=>zh .eql .int v6 v7 k) fun v8=>yE z3 (.bool true) v8 fun v9=>zh .add .int z4 (I 1) fun vH=>R (F46.fr a b c v9 vH f v2 i) h nx) (K (F46.fr a b c z3 z4 f v2 i) h nx))=.ok True) :
  IR.run F46.b7 C N (((fnO F46.res K0).blk 0 E0).blk 1 E1) K (F46.fr a b c d e f g i) h nx=.ok True:=by
 rw [F46.b7,F46.zw6,F46.b8];refine yC (fun m tm h nx=>∃ z3 z4 z6,tm=(F46.fr a b c z3 z4 f z6 i)/\Inv m z3 z4 h nx) ?_ hm ⟨_,_,_,rfl,hi⟩;rintro m tm h nx R ⟨z3,z4,z6,rfl,hi⟩ hR;rw [F46.e7];exact step m z3 z4 z6 h nx R hi fun m' w3 w4 w6 h' nx' hlt hi'=>hR m' _ h' nx' hlt ⟨_,_,_,rfl,hi'⟩
theorem F46.k14 {E0 E1:Ks Prop}:IR.run F46.b14 C N (((fnO F46.res K0).blk 0 E0).blk 1 E1) K (F46.fr a b c d e f g i) h nx =
 sNot d fun v1=>yH v1 (K0 (.bool false) h nx) (K (F46.fr a b c d e f g v1) h nx):=by kernel_rfl
theorem pz.rM (X2:IR) (C:Calls Prop) (N:Nat) (O:xw Prop) (K:Ks Prop) (a b c d e f g i o:AV) (h:T Blk) (nx:Pa):IR.run (pz.g1 X2) C N O K (pz.fr a b c d e f g i o) h nx =
 IR.run X2 C N (O.blk 0 K) K (pz.fr a b c d e f g i o) h nx:=by kernel_rfl
theorem pz.tab:T.get none (.of 136) tbl=some pz:=by kernel_rfl
theorem pz.go:zQ tbl N C (.of 136) [a0] h nx K0 =
 C.fn 171 (.of 171) [a0] h nx fun v1 h2 n3=>C.fn 170 (.of 170) [v1] h2 n3 fun v4 h5 n6=>sLen v4 fun v7=>IR.run pz.b1 C N (fnO pz.res K0) (IR.run pz.b8 C N (fnO pz.res K0) (yw pz.res K0)) (pz.fr a0 (.bool false) .u .u v4 v7 (I 0) .u .u) h5 n6:=by
 rw [yA pz.tab];kernel_rfl
theorem pz.e1:IR.run pz.b3 C N ((fnO pz.res K0).blk 0 K) R (pz.fr a b c d e f g i o) h nx =
 zh .lss .int g f fun v1=>yH v1 (zT 1 e g fun v2=>zC v2 h fun v3=>zh .add .int g (I 1) fun v4=>zh .neq .int v3 v4 fun v5=>yH v5 (K0 (.bool false) h nx) (zh .add .int g (I 1) fun v6=>R (pz.fr a b g v3 e f v6 v1 v5) h nx)) (K (pz.fr a b c d e f g v1 o) h nx):=by kernel_rfl
theorem pz.L1 (Inv:Nat->AV->T Blk->Pa->Prop) {m:Nat} (hm:m<N) (hi:Inv m g h nx)
  (step:∀ (m:Nat) (z1 z2 z3 z6 z7 z8:AV) (h:T Blk) (nx:Pa) (R:Ks Prop),Inv m z6 h nx->(∀ (m':Nat) (w1 w2 w3 w6 w7 w8:AV) (h':T Blk) (nx':Pa),m'<m->Inv m' w6 h' nx'->R (pz.fr a w1 w2 w3 e f w6 w7 w8) h' nx'=.ok True) ->
   (zh .lss .int z6 f fun v1=>yH v1 (zT 1 e z6 fun v2=>zC v2 h fun v3=>zh .add .int z6 (I 1) fun v4=>zh .neq .int v3 v4 fun v5=>yH v5 (K0 (.bool false) h nx) (zh .add .int z6 (I 1) fun v6=>R (pz.fr a z1 z6 v3 e f v6 v1 v5) h nx)) (K (pz.fr a z1 z2 z3 e f z6 v1 z8) h nx))=.ok True) :
  IR.run pz.b1 C N (fnO pz.res K0) K (pz.fr a b c d e f g i o) h nx=.ok True:=by
 rw [pz.b1,pz.rM,pz.b2];refine yC (fun m tm h nx=>∃ z1 z2 z3 z6 z7 z8,tm=(pz.fr a z1 z2 z3 e f z6 z7 z8)/\Inv m z6 h nx) ?_ hm ⟨_,_,_,_,_,_,rfl,hi⟩;rintro m tm h nx R ⟨z1,z2,z3,z6,z7,z8,rfl,hi⟩ hR;rw [pz.e1];exact step m z1 z2 z3 z6 z7 z8 h nx R hi fun m' w1 w2 w3 w6 w7 w8 h' nx' hlt hi'=>hR m' _ h' nx' hlt ⟨_,_,_,_,_,_,rfl,hi'⟩
theorem pz.k8:IR.run pz.b8 C N (fnO pz.res K0) K (pz.fr a b c d e f g i o) h nx =
 K0 (.bool true) h nx:=by kernel_rfl
theorem oW.tab:T.get none (.of 183) tbl=some oW:=by kernel_rfl
theorem oW.go:zQ tbl N C (.of 183) [a0] h nx K0 =
 C.fn 87 (.of 87) [(I (-999999999)),(I 999999999),a0] h nx fun v1 h2 n3=>K0 v1 h2 n3:=by
 rw [yA oW.tab];kernel_rfl
theorem mr.rM (X2:IR) (C:Calls Prop) (N:Nat) (O:xw Prop) (K:Ks Prop) (a b c d e:AV) (h:T Blk) (nx:Pa):IR.run (mr.g1 X2) C N O K (mr.fr a b c d e) h nx =
 IR.run X2 C N (O.blk 0 K) K (mr.fr a b c d e) h nx:=by kernel_rfl
theorem mr.tab:T.get none (.of 102) tbl=some mr:=by kernel_rfl
theorem mr.go:zQ tbl N C (.of 102) [a0] h nx K0 =
 IR.run mr.b1 C N (fnO mr.res K0) (IR.run mr.b8 C N (fnO mr.res K0) (yw mr.res K0)) (mr.fr a0 (I 0) (I 0) .u .u) h nx:=by
 rw [yA mr.tab];kernel_rfl
theorem mr.e1:IR.run mr.b3 C N ((fnO mr.res K0).blk 0 K) R (mr.fr a b c d e) h nx =
 sLen a fun v1=>zh .lss .int c v1 fun v2=>yH v2 (zT 1 a c fun v3=>zC v3 h fun v4=>zh .lss .int v4 (I (-999999999)) fun v5=>sG v5 false (fun k=>k a) fun v6=>sG v5 false (fun k=>k c) fun v7=>sG v5 false (fun k=>zT 1 v6 v7 k) fun v8=>sG v5 false (fun k=>zC v8 h k) fun v9=>sG v5 false (fun k=>zh .gtr .int v9 (I 999999999) k) fun vH=>yE v5 (.bool true) vH fun vG=>yH vG (K0 (I 3) h nx) (zh .add .int c (I 1) fun vF=>R (mr.fr a b vF v2 vG) h nx)) (K (mr.fr a b c v2 e) h nx):=by kernel_rfl
theorem mr.L1 (Inv:Nat->AV->T Blk->Pa->Prop) {m:Nat} (hm:m<N) (hi:Inv m c h nx)
  (step:∀ (m:Nat) (z1 z2 z3 z4:AV) (h:T Blk) (nx:Pa) (R:Ks Prop),Inv m z2 h nx->(∀ (m':Nat) (w1 w2 w3 w4:AV) (h':T Blk) (nx':Pa),m'<m->Inv m' w2 h' nx'->R (mr.fr a w1 w2 w3 w4) h' nx'=.ok True) ->
   (sLen a fun v1=>zh .lss .int z2 v1 fun v2=>yH v2 (zT 1 a z2 fun v3=>zC v3 h fun v4=>zh .lss .int v4 (I (-999999999)) fun v5=>sG v5 false (fun k=>k a) fun v6=>sG v5 false (fun k=>k z2) fun v7=>sG v5 false (fun k=>zT 1 v6 v7 k) fun v8=>sG v5 false (fun k=>zC v8 h k) fun v9=>sG v5 false (fun k=>zh .gtr .int v9 (I 999999999) k) fun vH=>yE v5 (.bool true) vH fun vG=>yH vG (K0 (I 3) h nx) (zh .add .int z2 (I 1) fun vF=>R (mr.fr a z1 vF v2 vG) h nx)) (K (mr.fr a z1 z2 v2 z4) h nx))=.ok True) :
  IR.run mr.b1 C N (fnO mr.res K0) K (mr.fr a b c d e) h nx=.ok True:=by
 rw [mr.b1,mr.rM,mr.b2];refine yC (fun m tm h nx=>∃ z1 z2 z3 z4,tm=(mr.fr a z1 z2 z3 z4)/\Inv m z2 h nx) ?_ hm ⟨_,_,_,_,rfl,hi⟩;rintro m tm h nx R ⟨z1,z2,z3,z4,rfl,hi⟩ hR;rw [mr.e1];exact step m z1 z2 z3 z4 h nx R hi fun m' w1 w2 w3 w4 h' nx' hlt hi'=>hR m' _ h' nx' hlt ⟨_,_,_,_,rfl,hi'⟩
theorem mr.k8:IR.run mr.b8 C N (fnO mr.res K0) K (mr.fr a b c d e) h nx =
 K0 (I 0) h nx:=by kernel_rfl
theorem mX.rM (X2:IR) (C:Calls Prop) (N:Nat) (O:xw Prop) (K:Ks Prop) (a b c d e f g i o u:AV) (h:T Blk) (nx:Pa):IR.run (mX.g1 X2) C N O K (mX.fr a b c d e f g i o u) h nx =
 IR.run X2 C N (O.blk 0 K) K (mX.fr a b c d e f g i o u) h nx:=by kernel_rfl
theorem mX.tab:T.get none (.of 139) tbl=some mX:=by kernel_rfl
theorem mX.go:zQ tbl N C (.of 139) [a0,a1] h nx K0 =
 bH a0 h nx fun v1 h2 n3=>zH 1 v1 fun v4=>zC v4 h2 fun v5=>sLen v5 fun v6=>IR.run mX.b1 C N (fnO mX.res K0) (IR.run mX.b8 C N (fnO mX.res K0) (yw mX.res K0)) (mX.fr a0 a1 v1 .zf .zf .u v5 v6 (I 0) .u) h2 n3:=by
 rw [yA mX.tab];kernel_rfl
theorem mX.e1:IR.run mX.b3 C N ((fnO mX.res K0).blk 0 K) R (mX.fr a b c d e f g i o u) h nx =
 zh .lss .int o i fun v1=>yH v1 (zT 1 g o fun v2=>zC v2 h fun v3=>C.fn 219 (.of 219) [v3,b] h nx fun v4 h5 n6=>yU 1 1 [(I 0)] [(0,1,v4)] h5 n6 fun v7 h8 n9=>rD 1 8 e v7 h8 n9 fun vH hC nD=>zh .add .int o (I 1) fun vE=>R (mX.fr a b c d vH v3 g i vE v1) hC nD) (K (mX.fr a b c d e f g i o v1) h nx):=by kernel_rfl
theorem mX.L1 (Inv:Nat->AV->AV->T Blk->Pa->Prop) {m:Nat} (hm:m<N) (hi:Inv m e o h nx)
  (step:∀ (m:Nat) (z4 z5 z8 z9:AV) (h:T Blk) (nx:Pa) (R:Ks Prop),Inv m z4 z8 h nx->(∀ (m':Nat) (w4 w5 w8 w9:AV) (h':T Blk) (nx':Pa),m'<m->Inv m' w4 w8 h' nx'->R (mX.fr a b c d w4 w5 g i w8 w9) h' nx'=.ok True) ->
   (zh .lss .int z8 i fun v1=>yH v1 (zT 1 g z8 fun v2=>zC v2 h fun v3=>C.fn 219 (.of 219) [v3,b] h nx fun v4 h5 n6=>yU 1 1 [(I 0)] [(0,1,v4)] h5 n6 fun v7 h8 n9=>rD 1 8 z4 v7 h8 n9 fun vH hC nD=>zh .add .int z8 (I 1) fun vE=>R (mX.fr a b c d vH v3 g i vE v1) hC nD) (K (mX.fr a b c d z4 z5 g i z8 v1) h nx))=.ok True) :
  IR.run mX.b1 C N (fnO mX.res K0) K (mX.fr a b c d e f g i o u) h nx=.ok True:=by
 rw [mX.b1,mX.rM,mX.b2];refine yC (fun m tm h nx=>∃ z4 z5 z8 z9,tm=(mX.fr a b c d z4 z5 g i z8 z9)/\Inv m z4 z8 h nx) ?_ hm ⟨_,_,_,_,rfl,hi⟩;rintro m tm h nx R ⟨z4,z5,z8,z9,rfl,hi⟩ hR;rw [mX.e1];exact step m z4 z5 z8 z9 h nx R hi fun m' w4 w5 w8 w9 h' nx' hlt hi'=>hR m' _ h' nx' hlt ⟨_,_,_,_,rfl,hi'⟩
theorem mX.k8:IR.run mX.b8 C N (fnO mX.res K0) K (mX.fr a b c d e f g i o u) h nx =
 K0 e h nx:=by kernel_rfl
theorem F95.tab:T.get none (.of 95) tbl=some F95:=by kernel_rfl
theorem F95.go:zQ tbl N C (.of 95) [a0,a1] h nx K0 =
 bH a0 h nx fun v1 h2 n3=>zO 2 v1 h2 fun v4=>C.fn 139 (.of 139) [v4,a1] h2 n3 fun v5 h6 n7=>yS [.zf] h6 n7 fun v8 h9 nB=>zX 1 v8 v5 h9 nB fun vG hB nC=>zC v8 hB fun vD=>C.fn 184 (.of 184) [vD,(.fn 185 (.of 185) [v8])] hB nC fun vC hG nH=>K0 vC hG nH:=by
 rw [yA F95.tab];kernel_rfl
theorem oZ.tab:T.get none (.of 185) tbl=some oZ:=by kernel_rfl
theorem oZ.go:zQ tbl N C (.of 185) [a0,a1] h nx K0 =
 zC a1 h fun v1=>zT 1 v1 (I 0) fun v2=>zC v2 h fun v3=>zh .neq .int a0 v3 fun v4=>K0 v4 h nx:=by
 rw [yA oZ.tab];kernel_rfl
theorem mY.rM (X2:IR) (C:Calls Prop) (N:Nat) (O:xw Prop) (K:Ks Prop) (a b c d e f g i o:AV) (h:T Blk) (nx:Pa):IR.run (mY.g1 X2) C N O K (mY.fr a b c d e f g i o) h nx =
 IR.run X2 C N (O.blk 0 K) K (mY.fr a b c d e f g i o) h nx:=by kernel_rfl
theorem mY.tab:T.get none (.of 219) tbl=some mY:=by kernel_rfl
theorem mY.go:zQ tbl N C (.of 219) [a0,a1] h nx K0 =
 sLen a0 fun v1=>IR.run mY.b1 C N (fnO mY.res K0) (IR.run mY.b8 C N (fnO mY.res K0) (yw mY.res K0)) (mY.fr a0 a1 (I 0) (I 0) .u a0 v1 (I 0) .u) h nx:=by
 rw [yA mY.tab];kernel_rfl
theorem mY.e1:IR.run mY.b3 C N ((fnO mY.res K0).blk 0 K) R (mY.fr a b c d e f g i o) h nx =
 zh .lss .int i g fun v1=>yH v1 (zT 1 f i fun v2=>zC v2 h fun v3=>zT 1 b v3 fun v4=>zC v4 h fun v5=>zh .add .int d v5 fun v6=>zh .add .int i (I 1) fun v7=>R (mY.fr a b c v6 v3 f g v7 v1) h nx) (K (mY.fr a b c d e f g i v1) h nx):=by kernel_rfl
theorem mY.L1 (Inv:Nat->AV->AV->T Blk->Pa->Prop) {m:Nat} (hm:m<N) (hi:Inv m d i h nx)
  (step:∀ (m:Nat) (z3 z4 z7 z8:AV) (h:T Blk) (nx:Pa) (R:Ks Prop),Inv m z3 z7 h nx->(∀ (m':Nat) (w3 w4 w7 w8:AV) (h':T Blk) (nx':Pa),m'<m->Inv m' w3 w7 h' nx'->R (mY.fr a b c w3 w4 f g w7 w8) h' nx'=.ok True) ->
   (zh .lss .int z7 g fun v1=>yH v1 (zT 1 f z7 fun v2=>zC v2 h fun v3=>zT 1 b v3 fun v4=>zC v4 h fun v5=>zh .add .int z3 v5 fun v6=>zh .add .int z7 (I 1) fun v7=>R (mY.fr a b c v6 v3 f g v7 v1) h nx) (K (mY.fr a b c z3 z4 f g z7 v1) h nx))=.ok True) :
  IR.run mY.b1 C N (fnO mY.res K0) K (mY.fr a b c d e f g i o) h nx=.ok True:=by
 rw [mY.b1,mY.rM,mY.b2];refine yC (fun m tm h nx=>∃ z3 z4 z7 z8,tm=(mY.fr a b c z3 z4 f g z7 z8)/\Inv m z3 z7 h nx) ?_ hm ⟨_,_,_,_,rfl,hi⟩;rintro m tm h nx R ⟨z3,z4,z7,z8,rfl,hi⟩ hR;rw [mY.e1];exact step m z3 z4 z7 z8 h nx R hi fun m' w3 w4 w7 w8 h' nx' hlt hi'=>hR m' _ h' nx' hlt ⟨_,_,_,_,rfl,hi'⟩
theorem mY.k8:IR.run mY.b8 C N (fnO mY.res K0) K (mY.fr a b c d e f g i o) h nx =
 K0 d h nx:=by kernel_rfl
theorem F141.tab:T.get none (.of 141) tbl=some F141:=by kernel_rfl
theorem F141.go:zQ tbl N C (.of 141) [] h nx K0 =
 yV [(.str []),.bM] [(0,1,(.str [110,111,114,109,97,108])),(1,1,(.fn 220 (.of 220) []))] fun v1=>yV [(.str []),.bM] [(0,1,(.str [115,101,109,105,109,97,103,105,99])),(1,1,(.fn 221 (.of 221) []))] fun v2=>yV [(.str []),.bM] [(0,1,(.str [109,97,103,105,99])),(1,1,(.fn 222 (.of 222) []))] fun v3=>yV [(.str []),.bM] [(0,1,(.str [112,97,110,100,105,97,103,111,110,97,108])),(1,1,(.fn 223 (.of 223) []))] fun v4=>yV [(.str []),.bM] [(0,1,(.str [97,115,115,111,99,105,97,116,105,118,101])),(1,1,(.fn 224 (.of 224) []))] fun v5=>yV [(.str []),.bM] [(0,1,(.str [109,111,115,116,45,112,101,114,102,101,99,116])),(1,1,(.fn 225 (.of 225) []))] fun v6=>yV [(.str []),.bM] [(0,1,(.str [98,111,114,100,101,114,101,100])),(1,1,(.fn 226 (.of 226) []))] fun v7=>yV [(.str []),.bM] [(0,1,(.str [98,105,109,97,103,105,99])),(1,1,(.fn 227 (.of 227) []))] fun v8=>yU 2 8 [(.str []),.bM] [(0,2,v1),(2,2,v2),(4,2,v3),(6,2,v4),(8,2,v5),(10,2,v6),(12,2,v7),(14,2,v8)] h nx fun v9 hA nA=>K0 v9 hA nA:=by
 rw [yA F141.tab];kernel_rfl
theorem F142.tab:T.get none (.of 142) tbl=some F142:=by kernel_rfl
theorem F142.go:zQ tbl N C (.of 142) [a0] h nx K0 =
 zh .eql (.nil .sl) a0 .zf fun v1=>yH v1 (K0 .zf h nx) (yU 1 0 [(I 0)] [] h nx fun v2 h3 n4=>rD 1 8 v2 a0 h3 n4 fun v5 h6 n7=>K0 v5 h6 n7):=by
 rw [yA F142.tab];kernel_rfl
theorem F144.tab:T.get none (.of 144) tbl=some F144:=by kernel_rfl
theorem F144.go:zQ tbl N C (.of 144) [a0,a1] h nx K0 =
 bH a0 h nx fun v1 h2 n3=>zH 0 v1 fun v4=>zC v4 h2 fun v5=>zH 1 v1 fun v6=>zC v6 h2 fun v7=>C.fn 152 (.of 152) [a1,v5] h2 n3 fun v8 h9 nB=>(zC v6 h9 fun vB=>zW vB v7 ((zH 1 v1 fun vC=>zW vC v6 (C.fn 95 (.of 95) [v8,v7] h9 nB fun vG hB nC=>zh .lss .int vG (I 0) fun vD=>K0 vD hB nC)))):=by
 rw [yA F144.tab];kernel_rfl
theorem mZ.rM (X2:IR) (C:Calls Prop) (N:Nat) (O:xw Prop) (K:Ks Prop) (a b c d e f g i:AV) (h:T Blk) (nx:Pa):IR.run (mZ.g1 X2) C N O K (mZ.fr a b c d e f g i) h nx =
 IR.run X2 C N (O.blk 0 K) K (mZ.fr a b c d e f g i) h nx:=by kernel_rfl
theorem mZ.tab:T.get none (.of 272) tbl=some mZ:=by kernel_rfl
theorem mZ.go:zQ tbl N C (.of 272) [a0,a1] h nx K0 =
 IR.run mZ.b1 C N (fnO mZ.res K0) (IR.run mZ.b8 C N (fnO mZ.res K0) (yw mZ.res K0)) (mZ.fr a0 a1 (.bool false) .u a0 (I 0) .u .u) h nx:=by
 rw [yA mZ.tab];kernel_rfl
theorem mZ.e1:IR.run mZ.b3 C N ((fnO mZ.res K0).blk 0 K) R (mZ.fr a b c d e f g i) h nx =
 zh .lss .int f e fun v1=>yH v1 (uW C b [f] h nx fun v2 h3 n4=>uW C b [(I 0)] h3 n4 fun v5 h6 n7=>zh .neq .int v2 v5 fun v8=>yH v8 (K0 (.bool false) h6 n7) (zh .add .int f (I 1) fun v9=>R (mZ.fr a b c f e v9 v1 v8) h6 n7)) (K (mZ.fr a b c d e f v1 i) h nx):=by kernel_rfl
theorem mZ.L1 (Inv:Nat->AV->T Blk->Pa->Prop) {m:Nat} (hm:m<N) (hi:Inv m f h nx)
  (step:∀ (m:Nat) (z2 z3 z5 z6 z7:AV) (h:T Blk) (nx:Pa) (R:Ks Prop),Inv m z5 h nx->(∀ (m':Nat) (w2 w3 w5 w6 w7:AV) (h':T Blk) (nx':Pa),m'<m->Inv m' w5 h' nx'->R (mZ.fr a b w2 w3 e w5 w6 w7) h' nx'=.ok True) ->
   (zh .lss .int z5 e fun v1=>yH v1 (uW C b [z5] h nx fun v2 h3 n4=>uW C b [(I 0)] h3 n4 fun v5 h6 n7=>zh .neq .int v2 v5 fun v8=>yH v8 (K0 (.bool false) h6 n7) (zh .add .int z5 (I 1) fun v9=>R (mZ.fr a b z2 z5 e v9 v1 v8) h6 n7)) (K (mZ.fr a b z2 z3 e z5 v1 z7) h nx))=.ok True) :
  IR.run mZ.b1 C N (fnO mZ.res K0) K (mZ.fr a b c d e f g i) h nx=.ok True:=by
 rw [mZ.b1,mZ.rM,mZ.b2];refine yC (fun m tm h nx=>∃ z2 z3 z5 z6 z7,tm=(mZ.fr a b z2 z3 e z5 z6 z7)/\Inv m z5 h nx) ?_ hm ⟨_,_,_,_,_,rfl,hi⟩;rintro m tm h nx R ⟨z2,z3,z5,z6,z7,rfl,hi⟩ hR;rw [mZ.e1];exact step m z2 z3 z5 z6 z7 h nx R hi fun m' w2 w3 w5 w6 w7 h' nx' hlt hi'=>hR m' _ h' nx' hlt ⟨_,_,_,_,_,rfl,hi'⟩
theorem mZ.k8:IR.run mZ.b8 C N (fnO mZ.res K0) K (mZ.fr a b c d e f g i) h nx =
 K0 (.bool true) h nx:=by kernel_rfl
theorem F220.tab:T.get none (.of 220) tbl=some F220:=by kernel_rfl
theorem F220.go:zQ tbl N C (.of 220) [a0] h nx K0 =
 bH a0 h nx fun v1 h2 n3=>zH 1 v1 fun v4=>zC v4 h2 fun v5=>C.fn 136 (.of 136) [v5] h2 n3 fun v6 h7 n8=>K0 v6 h7 n8:=by
 rw [yA F220.tab];kernel_rfl
theorem F221.tab:T.get none (.of 221) tbl=some F221:=by kernel_rfl
theorem F221.go:zQ tbl N C (.of 221) [a0] h nx K0 =
 bH a0 h nx fun v1 h2 n3=>zO 2 v1 h2 fun v4=>C.fn 144 (.of 144) [v4,(.str [115,101,109,105,109,97,103,105,99])] h2 n3 fun v5 h6 n7=>K0 v5 h6 n7:=by
 rw [yA F221.tab];kernel_rfl
theorem F222.tab:T.get none (.of 222) tbl=some F222:=by kernel_rfl
theorem F222.go:zQ tbl N C (.of 222) [a0] h nx K0 =
 bH a0 h nx fun v1 h2 n3=>zO 2 v1 h2 fun v4=>C.fn 144 (.of 144) [v4,(.str [109,97,103,105,99])] h2 n3 fun v5 h6 n7=>K0 v5 h6 n7:=by
 rw [yA F222.tab];kernel_rfl
theorem F223.tab:T.get none (.of 223) tbl=some F223:=by kernel_rfl
theorem F223.go:zQ tbl N C (.of 223) [a0] h nx K0 =
 bH a0 h nx fun v1 h2 n3=>zO 2 v1 h2 fun v4=>C.fn 144 (.of 144) [v4,(.str [112,97,110,100,105,97,103,111,110,97,108])] h2 n3 fun v5 h6 n7=>K0 v5 h6 n7:=by
 rw [yA F223.tab];kernel_rfl
theorem F227.tab:T.get none (.of 227) tbl=some F227:=by kernel_rfl
theorem F227.go:zQ tbl N C (.of 227) [a0] h nx K0 =
 bH a0 h nx fun v1 h2 n3=>zO 2 v1 h2 fun v4=>C.fn 144 (.of 144) [v4,(.str [109,97,103,105,99])] h2 n3 fun v5 h6 n7=>sG v5 true (fun k=>zO 2 v1 h6 k) fun v8=>sGW v5 true (fun k=>C.fn 145 (.of 145) [v8,(I 2)] h6 n7 k) h6 n7 fun v9 hA nA=>yE v5 v9 (.bool false) fun vF=>K0 vF hA nA:=by
 rw [yA F227.tab];kernel_rfl
theorem F224.tab:T.get none (.of 224) tbl=some F224:=by kernel_rfl
theorem F224.go:zQ tbl N C (.of 224) [a0] h nx K0 =
 bH a0 h nx fun v1 h2 n3=>zO 2 v1 h2 fun v4=>C.fn 144 (.of 144) [v4,(.str [109,97,103,105,99])] h2 n3 fun v5 h6 n7=>sG v5 true (fun k=>zH 1 v1 k) fun v8=>sG v5 true (fun k=>zC v8 h6 k) fun v9=>sG v5 true (fun k=>sLen v9 k) fun vH=>sG v5 true (fun k=>k (.fn 273 (.of 273) [v1])) fun vG=>sGW v5 true (fun k=>C.fn 272 (.of 272) [vH,vG] h6 n7 k) h6 n7 fun vF hF nG=>yE v5 vF (.bool false) fun vC=>K0 vC hF nG:=by
 rw [yA F224.tab];kernel_rfl
theorem F273.tab:T.get none (.of 273) tbl=some F273:=by kernel_rfl
theorem F273.go:zQ tbl N C (.of 273) [a0,a1] h nx K0 =
 zH 1 a1 fun v1=>zC v1 h fun v2=>zT 1 v2 a0 fun v3=>zC v3 h fun v4=>zH 1 a1 fun v5=>zC v5 h fun v6=>zH 1 a1 fun v7=>zC v7 h fun v8=>sLen v8 fun v9=>zh .sub .int v9 (I 1) fun vH=>zh .sub .int vH a0 fun vG=>zT 1 v6 vG fun vF=>zC vF h fun vE=>zh .add .int v4 vE fun vD=>K0 vD h nx:=by
 rw [yA F273.tab];kernel_rfl
theorem F225.tab:T.get none (.of 225) tbl=some F225:=by kernel_rfl
theorem F225.go:zQ tbl N C (.of 225) [a0] h nx K0 =
 bH a0 h nx fun v1 h2 n3=>zH 0 v1 fun v4=>zC v4 h2 fun v5=>zh .rem .int v5 (I 2) fun v6=>zh .eql .int v6 (I 1) fun v7=>sG v7 false (fun k=>zO 2 v1 h2 k) fun v8=>sGW v7 false (fun k=>C.fn 144 (.of 144) [v8,(.str [112,97,110,100,105,97,103,111,110,97,108])] h2 n3 k) h2 n3 fun v9 hA nA=>sG v7 false (fun k=>sNot v9 k) fun vF=>yE v7 (.bool true) vF fun vE=>yH vE (K0 (.bool false) hA nA) (yS [.bM] hA nA fun vD hI nJ=>zX 1 vD (.fn 274 (.of 274) [v1]) hI nJ fun vA hJ nK=>zH 1 v1 fun vL=>zC vL hJ fun vK=>sLen vK fun vJ=>C.fn 272 (.of 272) [vJ,(.fn 275 (.of 275) [v1,vD])] hJ nK fun vI hK nL=>sG vI true (fun k=>zH 1 v1 k) fun vQ=>sG vI true (fun k=>zC vQ hK k) fun vP=>sG vI true (fun k=>sLen vP k) fun vO=>sG vI true (fun k=>k (.fn 276 (.of 276) [v1,vD])) fun vN=>sGW vI true (fun k=>C.fn 272 (.of 272) [vO,vN] hK nL k) hK nL fun vT hL nM=>yE vI vT (.bool false) fun vU=>K0 vU hL nM):=by
 rw [yA F225.tab];kernel_rfl
theorem F274.tab:T.get none (.of 274) tbl=some F274:=by kernel_rfl
theorem F274.go:zQ tbl N C (.of 274) [a0,a1,a2] h nx K0 =
 zH 1 a2 fun v1=>zC v1 h fun v2=>zH 0 a2 fun v3=>zC v3 h fun v4=>zh .rem .int a0 v4 fun v5=>zH 0 a2 fun v6=>zC v6 h fun v7=>zh .mul .int v5 v7 fun v8=>zH 0 a2 fun v9=>zC v9 h fun vH=>zh .rem .int a1 vH fun vG=>zh .add .int v8 vG fun vF=>zT 1 v2 vF fun vE=>zC vE h fun vD=>K0 vD h nx:=by
 rw [yA F274.tab];kernel_rfl
theorem F275.tab:T.get none (.of 275) tbl=some F275:=by kernel_rfl
theorem F275.go:zQ tbl N C (.of 275) [a0,a1,a2] h nx K0 =
 zH 0 a1 fun v1=>zC v1 h fun v2=>zh .quo .int a0 v2 fun v3=>zH 0 a1 fun v4=>zC v4 h fun v5=>zh .rem .int a0 v5 fun v6=>zC a2 h fun v7=>zC a2 h fun v8=>zh .add .int v6 (I 1) fun v9=>zC a2 h fun vH=>zh .add .int v3 (I 1) fun vG=>zC a2 h fun vF=>zh .add .int v3 (I 1) fun vE=>zh .add .int v6 (I 1) fun vD=>uW C v7 [v3,v6] h nx fun vC hG nH=>(zh .add .int v6 (I 1) fun vV=>zW vV vD (zW v6 v6 ((zh .add .int v3 (I 1) fun vW=>zW vW vE (zW v3 v3 ((zC a2 hG fun vX=>zW vX vF (zW v6 v6 ((zh .add .int v3 (I 1) fun vY=>zW vY vG (zW v3 v3 ((zC a2 hG fun vZ=>zW vZ vH ((zh .add .int v6 (I 1) fun v42=>zW v42 v9 (zW v6 v6 (zW v3 v3 ((zC a2 hG fun v41=>zW v41 v8 (uW C v8 [v3,v9] hG nH fun v18 hM nN=>(zh .add .int v6 (I 1) fun v40=>zW v40 vD (zW v6 v6 ((zh .add .int v3 (I 1) fun v39=>zW v39 vE (zW v3 v3 ((zC a2 hM fun v38=>zW v38 vF (zW v6 v6 ((zh .add .int v3 (I 1) fun v37=>zW v37 vG (zW v3 v3 ((zC a2 hM fun v36=>zW v36 vH (zh .add .int vC v18 fun vK=>uW C vH [vG,v6] hM nN fun vJ hN nO=>(zh .add .int vC v18 fun v35=>zW v35 vK ((zh .add .int v6 (I 1) fun v34=>zW v34 vD (zW v6 v6 ((zh .add .int v3 (I 1) fun vU=>zW vU vE (zW v3 v3 ((zC a2 hN fun v32=>zW v32 vF (zh .add .int vK vJ fun vR=>uW C vF [vE,vD] hN nO fun vQ hO nP=>(zh .add .int vK vJ fun v31=>zW v31 vR ((zh .add .int vC v18 fun vT=>zW vT vK (zh .add .int vR vQ fun vN=>K0 vN hO nP)))))))))))))))))))))))))))))))))))))))))))))))):=by
 rw [yA F275.tab];kernel_rfl
theorem F276.tab:T.get none (.of 276) tbl=some F276:=by kernel_rfl
theorem F276.go:zQ tbl N C (.of 276) [a0,a1,a2] h nx K0 =
 zH 0 a1 fun v1=>zC v1 h fun v2=>zh .quo .int a0 v2 fun v3=>zH 0 a1 fun v4=>zC v4 h fun v5=>zh .rem .int a0 v5 fun v6=>zC a2 h fun v7=>zC a2 h fun v8=>zH 0 a1 fun v9=>zC v9 h fun vH=>zh .quo .int vH (I 2) fun vG=>zh .add .int v3 vG fun vF=>zH 0 a1 fun vE=>zC vE h fun vD=>zh .quo .int vD (I 2) fun vC=>zh .add .int v6 vC fun vB=>uW C v7 [v3,v6] h nx fun vA hJ nK=>(zh .add .int v6 vC fun v32=>zW v32 vB ((zh .quo .int vD (I 2) fun v31=>zW v31 vC ((zC vE hJ fun vT=>zW vT vD ((zH 0 a1 fun vN=>zW vN vE (zW v6 v6 ((zh .add .int v3 vG fun vO=>zW vO vF ((zh .quo .int vH (I 2) fun vP=>zW vP vG ((zC v9 hJ fun vQ=>zW vQ vH ((zH 0 a1 fun vR=>zW vR v9 (zW v3 v3 ((zC a2 hJ fun vS=>zW vS v8 (uW C v8 [vF,vB] hJ nK fun vL hP nQ=>zh .add .int vA vL fun vI=>K0 vI hP nQ)))))))))))))))))))):=by
 rw [yA F276.tab];kernel_rfl
theorem bf.ze0 (X3:IR) (C:Calls Prop) (N:Nat) (O:xw Prop) (K:Ks Prop) (a b c d e f:AV) (h:T Blk) (nx:Pa):IR.run (bf.g2 X3) C N O K (bf.fr a b c d e f) h nx =
 IR.run X3 C N (O.blk 0 K) K (bf.fr a b c d e f) h nx:=by kernel_rfl
theorem bf.tab:T.get none (.of 226) tbl=some bf:=by kernel_rfl
theorem bf.go:zQ tbl N C (.of 226) [a0] h nx K0 =
 bH a0 h nx fun v1 h2 n3=>zH 0 v1 fun v4=>zC v4 h2 fun v5=>zh .lss .int v5 (I 5) fun v6=>yH v6 (K0 (.bool false) h2 n3) (IR.run bf.b2 C N (fnO bf.res K0) (IR.run bf.b9 C N (fnO bf.res K0) (yw bf.res K0)) (bf.fr a0 v1 (.bool false) v6 .u .u) h2 n3):=by
 rw [yA bf.tab];kernel_rfl
theorem bf.e2:IR.run bf.b4 C N ((fnO bf.res K0).blk 0 K) R (bf.fr a b c d e f) h nx =
 zH 0 b fun v1=>zC v1 h fun v2=>zh .geq .int v2 (I 3) fun v3=>yH v3 (zO 2 b h fun v4=>C.fn 144 (.of 144) [v4,(.str [109,97,103,105,99])] h nx fun v5 h6 n7=>sNot v5 fun v8=>yH v8 (K0 (.bool false) h6 n7) (zO 2 b h6 fun v9=>C.fn 277 (.of 277) [v9] h6 n7 fun vH hC nD=>zX 2 b vH hC nD fun vE hD nE=>R (bf.fr a b c d v3 v8) hD nE)) (K (bf.fr a b c d v3 f) h nx):=by kernel_rfl
theorem bf.L2 (Inv:Nat->T Blk->Pa->Prop) {m:Nat} (hm:m<N) (hi:Inv m  h nx)
  (step:∀ (m:Nat) (z2 z4 z5:AV) (h:T Blk) (nx:Pa) (R:Ks Prop),Inv m  h nx->(∀ (m':Nat) (w2 w4 w5:AV) (h':T Blk) (nx':Pa),m'<m->Inv m'  h' nx'->R (bf.fr a b w2 d w4 w5) h' nx'=.ok True) ->
   (zH 0 b fun v1=>zC v1 h fun v2=>zh .geq .int v2 (I 3) fun v3=>yH v3 (zO 2 b h fun v4=>C.fn 144 (.of 144) [v4,(.str [109,97,103,105,99])] h nx fun v5 h6 n7=>sNot v5 fun v8=>yH v8 (K0 (.bool false) h6 n7) (zO 2 b h6 fun v9=>C.fn 277 (.of 277) [v9] h6 n7 fun vH hC nD=>zX 2 b vH hC nD fun vE hD nE=>R (bf.fr a b z2 d v3 v8) hD nE)) (K (bf.fr a b z2 d v3 z5) h nx))=.ok True) :
  IR.run bf.b2 C N (fnO bf.res K0) K (bf.fr a b c d e f) h nx=.ok True:=by
 rw [bf.b2,bf.ze0,bf.b3];refine yC (fun m tm h nx=>∃ z2 z4 z5,tm=(bf.fr a b z2 d z4 z5)/\Inv m  h nx) ?_ hm ⟨_,_,_,rfl,hi⟩;rintro m tm h nx R ⟨z2,z4,z5,rfl,hi⟩ hR;rw [bf.e2];exact step m z2 z4 z5 h nx R hi fun m' w2 w4 w5 h' nx' hlt hi'=>hR m' _ h' nx' hlt ⟨_,_,_,rfl,hi'⟩
theorem bf.k9:IR.run bf.b9 C N (fnO bf.res K0) K (bf.fr a b c d e f) h nx =
 K0 (.bool true) h nx:=by kernel_rfl
theorem bg.rM (X2:IR) (C:Calls Prop) (N:Nat) (O:xw Prop) (K:Ks Prop) (a b c d e f:AV) (h:T Blk) (nx:Pa):IR.run (bg.g1 X2) C N O K (bg.fr a b c d e f) h nx =
 IR.run X2 C N (O.blk 0 K) K (bg.fr a b c d e f) h nx:=by kernel_rfl
theorem bg.tab:T.get none (.of 277) tbl=some bg:=by kernel_rfl
theorem bg.go:zQ tbl N C (.of 277) [a0] h nx K0 =
 bH a0 h nx fun v1 h2 n3=>yS [(I 0),.zf] h2 n3 fun v4 h5 n6=>zH 0 v1 fun v7=>zC v7 h5 fun v8=>zh .sub .int v8 (I 2) fun v9=>yV [(I 0),.zf] [(0,1,v9)] fun vH=>yS [(I 0),.zf] h5 n6 fun vG hB nC=>zX 2 vG vH hB nC fun vD hI nJ=>IR.run bg.b1 C N (fnO bg.res K0) (IR.run bg.b8 C N (fnO bg.res K0) (yw bg.res K0)) (bg.fr a0 v1 v4 vG (I 1) .u) hI nJ:=by
 rw [yA bg.tab];kernel_rfl
theorem bg.e1:IR.run bg.b3 C N ((fnO bg.res K0).blk 0 K) R (bg.fr a b c d e f) h nx =
 zh .add .int e (I 1) fun v1=>zH 0 b fun v2=>zC v2 h fun v3=>zh .lss .int v1 v3 fun v4=>yH v4 (zH 1 d fun v5=>zC v5 h fun v6=>zH 1 b fun v7=>zC v7 h fun v8=>zH 0 b fun v9=>zC v9 h fun vH=>zh .mul .int e vH fun vG=>zh .add .int vG (I 1) fun vF=>zH 0 b fun vE=>zC vE h fun vD=>zh .mul .int e vD fun vC=>zH 0 b fun vB=>zC vB h fun vA=>zh .add .int vC vA fun v18=>zh .sub .int v18 (I 1) fun vM=>zH 0 b fun vL=>zC vL h fun vK=>zh .mul .int e vK fun vJ=>zH 0 b fun vI=>zC vI h fun vS=>zh .add .int vJ vS fun vR=>zh .sub .int vR (I 1) fun vQ=>dH 1 v8 (some vF) (some vM) (some vQ) fun vP=>rD 1 8 v6 vP h nx fun vO hQ nR=>zH 1 d fun v31=>zX 1 v31 vO hQ nR fun v32 hS nS=>zh .add .int e (I 1) fun v35=>R (bg.fr a b c d v35 v4) hS nS) (K (bg.fr a b c d e v4) h nx):=by kernel_rfl
theorem bg.L1 (Inv:Nat->AV->T Blk->Pa->Prop) {m:Nat} (hm:m<N) (hi:Inv m e h nx)
  (step:∀ (m:Nat) (z4 z5:AV) (h:T Blk) (nx:Pa) (R:Ks Prop),Inv m z4 h nx->(∀ (m':Nat) (w4 w5:AV) (h':T Blk) (nx':Pa),m'<m->Inv m' w4 h' nx'->R (bg.fr a b c d w4 w5) h' nx'=.ok True) ->
   (zh .add .int z4 (I 1) fun v1=>zH 0 b fun v2=>zC v2 h fun v3=>zh .lss .int v1 v3 fun v4=>yH v4 (zH 1 d fun v5=>zC v5 h fun v6=>zH 1 b fun v7=>zC v7 h fun v8=>zH 0 b fun v9=>zC v9 h fun vH=>zh .mul .int z4 vH fun vG=>zh .add .int vG (I 1) fun vF=>zH 0 b fun vE=>zC vE h fun vD=>zh .mul .int z4 vD fun vC=>zH 0 b fun vB=>zC vB h fun vA=>zh .add .int vC vA fun v18=>zh .sub .int v18 (I 1) fun vM=>zH 0 b fun vL=>zC vL h fun vK=>zh .mul .int z4 vK fun vJ=>zH 0 b fun vI=>zC vI h fun vS=>zh .add .int vJ vS fun vR=>zh .sub .int vR (I 1) fun vQ=>dH 1 v8 (some vF) (some vM) (some vQ) fun vP=>rD 1 8 v6 vP h nx fun vO hQ nR=>zH 1 d fun v31=>zX 1 v31 vO hQ nR fun v32 hS nS=>zh .add .int z4 (I 1) fun v35=>R (bg.fr a b c d v35 v4) hS nS) (K (bg.fr a b c d z4 v4) h nx))=.ok True) :
  IR.run bg.b1 C N (fnO bg.res K0) K (bg.fr a b c d e f) h nx=.ok True:=by
 rw [bg.b1,bg.rM,bg.b2];refine yC (fun m tm h nx=>∃ z4 z5,tm=(bg.fr a b c d z4 z5)/\Inv m z4 h nx) ?_ hm ⟨_,_,rfl,hi⟩;rintro m tm h nx R ⟨z4,z5,rfl,hi⟩ hR;rw [bg.e1];exact step m z4 z5 h nx R hi fun m' w4 w5 h' nx' hlt hi'=>hR m' _ h' nx' hlt ⟨_,_,rfl,hi'⟩
theorem bg.k8:IR.run bg.b8 C N (fnO bg.res K0) K (bg.fr a b c d e f) h nx =
 zO 2 d h fun v1=>zX 2 c v1 h nx fun v2 h3 n4=>zO 2 c h3 fun v5=>K0 v5 h3 n4:=by kernel_rfl
end
end Go.Ev
