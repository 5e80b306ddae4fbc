import Derived.Test.YtfgpjkchdelphaaGreatDoorIrT
import Derived.Test.YtfgpjkchdelphaaGreatDoorEvD
import Derived.KernelRfl
set_option linter.unusedSimpArgs false
set_option linter.unusedVariables false
namespace Go.Ev
open Go Go.Proofs
set_option maxRecDepth 100000
section
variable {N:Nat} {C:Calls Prop} {K0:Kw Prop} {K R:Ks Prop} {h:T Blk} {nx:Pa} {a b d e f i l q v z c g a0 a1 s0 s1 s2 s3 s4 s5 s6 s7 s8 s9 s10 s11 s12 s13 s14 s15 s16 s17 s18 s19 s20 s21 s22 s23 s24 s25 s26 s27 s28 s29 s30 s31 s32 s33 s34 s35 s36 s37 s38 s39 s40 s41 s42 s43 s44 s45 s46 s47 s48 s49 s50 s51 s52 s53 s54 s55 s56 s57 s58 s59 p o s u w y A B D E G a2 H L M P:AV} {O:dw Prop} {tm:T AV} {Kt:KTm} {r:List RO} {sT:List AV}
theorem jk.jm:IR.run jk.t0 C N O K (jk.fr a b d e f i l q v z c g) h nx =
 K (jk.fr a b (.int .u64 0) (.int .u64 0) f i l q v z c g) h nx:=by kernel_rfl
theorem jk.jl:IR.run jk.t1 C N O K (jk.fr a b d e f i l q v z c g) h nx =
 zi .and .int a (.int .u64 4294967295) fun v1=>K (jk.fr a b d e v1 i l q v z c g) h nx:=by kernel_rfl
theorem jk.qh:IR.run jk.t2 C N O K (jk.fr a b d e f i l q v z c g) h nx =
 zi .shr .int a (.int .u64 32) fun v1=>K (jk.fr a b d e f v1 l q v z c g) h nx:=by kernel_rfl
theorem jk.rC:IR.run jk.t3 C N O K (jk.fr a b d e f i l q v z c g) h nx =
 zi .and .int b (.int .u64 4294967295) fun v1=>K (jk.fr a b d e f i v1 q v z c g) h nx:=by kernel_rfl
theorem jk.rD:IR.run jk.t4 C N O K (jk.fr a b d e f i l q v z c g) h nx =
 zi .shr .int b (.int .u64 32) fun v1=>K (jk.fr a b d e f i l v1 v z c g) h nx:=by kernel_rfl
theorem jk.bJ:IR.run jk.t5 C N O K (jk.fr a b d e f i l q v z c g) h nx =
 zi .mul .int f l fun v1=>K (jk.fr a b d e f i l q v1 z c g) h nx:=by kernel_rfl
theorem jk.mg:IR.run jk.t6 C N O K (jk.fr a b d e f i l q v z c g) h nx =
 zi .mul .int i l fun v1=>zi .shr .int v (.int .u64 32) fun v2=>zi .add .int v1 v2 fun v3=>K (jk.fr a b d e f i l q v v3 c g) h nx:=by kernel_rfl
theorem jk.rq:IR.run jk.t7 C N O K (jk.fr a b d e f i l q v z c g) h nx =
 zi .and .int z (.int .u64 4294967295) fun v1=>K (jk.fr a b d e f i l q v z v1 g) h nx:=by kernel_rfl
theorem jk.sH:IR.run jk.t8 C N O K (jk.fr a b d e f i l q v z c g) h nx =
 zi .shr .int z (.int .u64 32) fun v1=>K (jk.fr a b d e f i l q v z c v1) h nx:=by kernel_rfl
theorem jk.ay:IR.run jk.t9 C N O K (jk.fr a b d e f i l q v z c g) h nx =
 zi .mul .int f q fun v1=>zi .add .int c v1 fun v2=>K (jk.fr a b d e f i l q v z v2 g) h nx:=by kernel_rfl
theorem jk.rG:IR.run jk.t10 C N O K (jk.fr a b d e f i l q v z c g) h nx =
 zi .mul .int i q fun v1=>zi .add .int v1 g fun v2=>zi .shr .int c (.int .u64 32) fun v3=>zi .add .int v2 v3 fun v4=>K (jk.fr a b v4 e f i l q v z c g) h nx:=by kernel_rfl
theorem jk.fZ:IR.run jk.t11 C N O K (jk.fr a b d e f i l q v z c g) h nx =
 zi .mul .int a b fun v1=>K (jk.fr a b d v1 f i l q v z c g) h nx:=by kernel_rfl
theorem jk.go:zR tbl N C (.of 263) [a0,a1] h nx K0=IR.run jk.t23 C N (fnO jk.res K0) (yx jk.res K0) (jk.fr a0 a1 .u .u .u .u .u .u .u .u .u .u) h nx:=yZ (F:=jk) (by kernel_rfl) (fun _=>by kernel_rfl) (by kernel_rfl)
theorem jk.ret:yx jk.res K0 (jk.fr a b d e f i l q v z c g) h nx=K0 (.tup [d,e]) h nx:=by kernel_rfl
theorem xq.jm:IR.run xq.t0 C N O K (xq.fr a b d) h nx =
 K (xq.fr a (.int .u64 0) d) h nx:=by kernel_rfl
theorem xq.jl:IR.run xq.t1 C N O K (xq.fr a b d) h nx =
 zi .lss .int a (I 0) fun v1=>K (xq.fr a b v1) h nx:=by kernel_rfl
theorem xq.qh:IR.run xq.t2 C N O K (xq.fr a b d) h nx =
 sNeg a fun v1=>wD .u64 v1 fun v2=>K (xq.fr a v2 d) h nx:=by kernel_rfl
theorem xq.v2:Arg.ev (.t (.of 2)) ⟨(xq.fr a b d),[]⟩=d:=by kernel_rfl
theorem xq.mg:IR.run xq.t6 C N O K (xq.fr a b d) h nx =
 wD .u64 a fun v1=>K (xq.fr a v1 d) h nx:=by kernel_rfl
theorem xq.go:zR tbl N C (.of 264) [a0] h nx K0=IR.run xq.t9 C N (fnO xq.res K0) (yx xq.res K0) (xq.fr a0 .u .u) h nx:=yZ (F:=xq) (by kernel_rfl) (fun _=>by kernel_rfl) (by kernel_rfl)
theorem xq.ret:yx xq.res K0 (xq.fr a b d) h nx=K0 b h nx:=by kernel_rfl
theorem jv.jm:IR.run jv.t0 C N O K (jv.fr a b d e) h nx =
 K (jv.fr a .zf d e) h nx:=by kernel_rfl
theorem jv.jl:IR.run jv.t1 C N O K (jv.fr a b d e) h nx =
 sLen a fun v1=>K (jv.fr a b v1 e) h nx:=by kernel_rfl
theorem jv.qh:IR.run jv.t2 C N O K tm h nx=zN jv.r2_0 C ⟨tm,[]⟩ h nx (fun tm h nx=>K tm.v h nx):=jC ..
theorem jv.zw4:zN (jv.zu1 r) C ⟨(jv.fr a b d e),[]⟩ h nx Kt =
 zi .gtr .int d (I 0) fun v1=>sG v1 true (fun k=>k a) fun v2=>sG v1 true (fun k=>k d) fun v3=>sG v1 true (fun k=>zi .sub .int v3 (I 1) k) fun v4=>sG v1 true (fun k=>zL 1 v2 v4 k) fun v5=>sG v1 true (fun k=>zH v5 h k) fun v6=>zN r C ⟨(jv.fr a b d e),v6::v5::v4::v3::v2::v1::v1::d::[]⟩ h nx Kt:=by kernel_rfl
theorem jv.zmt:zN (jv.zu3 []) C ⟨(jv.fr a b d e),s0::s1::s2::s3::s4::s5::sT⟩ h nx Kt =
 sG s5 true (fun k=>zi .eql .int s0 (.int .u64 0) k) fun v1=>yT s5 v1 (.bool false) fun v2=>Kt ⟨(jv.fr a b d v2),v1::s0::s1::s2::s3::s4::s5::sT⟩ h nx:=by kernel_rfl
theorem jv.v3:Arg.ev (.t (.of 3)) ⟨(jv.fr a b d e),[]⟩=e:=by kernel_rfl
theorem jv.bJ:IR.run jv.t5 C N O K (jv.fr a b d e) h nx =
 zi .sub .int d (I 1) fun v1=>K (jv.fr a b v1 e) h nx:=by kernel_rfl
theorem jv.t8_L (Inv:Nat->AV->T Blk->Pa->Prop) {m:Nat} (hm:m<N) (hi:Inv m d h nx)
  (step:∀ (m:Nat) (z2 z3:AV) (h:T Blk) (nx:Pa) (R:Ks Prop),Inv m z2 h nx->(∀ (m':Nat) (w2 w3:AV) (h':T Blk) (nx':Pa),m'<m->Inv m' w2 h' nx'->R (jv.fr a b w2 w3) h' nx'=.ok True)->IR.run jv.t7 C N O R (jv.fr a b z2 z3) h nx=.ok True) :
  IR.run jv.t8 C N O K (jv.fr a b d e) h nx=.ok True:=by
 rw [jv.t8];refine yE (fun m tm h nx=>∃ z2 z3,tm=(jv.fr a b z2 z3)/\Inv m z2 h nx) ?_ hm ⟨_,_,rfl,hi⟩;rintro m tm h nx R ⟨z2,z3,rfl,hi⟩ hR;exact step m z2 z3 h nx R hi fun m' w2 w3 h' nx' hlt hi'=>hR m' _ h' nx' hlt ⟨_,_,rfl,hi'⟩
theorem jv.rG:IR.run jv.t10 C N O K (jv.fr a b d e) h nx =
 kZ 1 a none (some d) none fun v1=>K (jv.fr a v1 d e) h nx:=by kernel_rfl
theorem jv.go:zR tbl N C (.of 289) [a0] h nx K0=IR.run jv.t14 C N (fnO jv.res K0) (yx jv.res K0) (jv.fr a0 .u .u .u) h nx:=yZ (F:=jv) (by kernel_rfl) (fun _=>by kernel_rfl) (by kernel_rfl)
theorem jv.ret:yx jv.res K0 (jv.fr a b d e) h nx=K0 b h nx:=by kernel_rfl
theorem ja.jm:IR.run ja.t0 C N O K (ja.fr a b d e f i l q v) h nx =
 K (ja.fr a b (I 0) e f i l q v) h nx:=by kernel_rfl
theorem ja.jl:IR.run ja.t1 C N O K (ja.fr a b d e f i l q v) h nx =
 sLen a fun v1=>sLen b fun v2=>zi .neq .int v1 v2 fun v3=>K (ja.fr a b d e v3 i l q v) h nx:=by kernel_rfl
theorem ja.qh:IR.run ja.t2 C N O K (ja.fr a b d e f i l q v) h nx =
 sLen a fun v1=>sLen b fun v2=>zi .lss .int v1 v2 fun v3=>K (ja.fr a b d e f v3 l q v) h nx:=by kernel_rfl
theorem ja.rC:IR.run ja.t3 C N O K (ja.fr a b d e f i l q v) h nx =
 K (ja.fr a b (I (-1)) e f i l q v) h nx:=by kernel_rfl
theorem ja.v5:Arg.ev (.t (.of 5)) ⟨(ja.fr a b d e f i l q v),[]⟩=i:=by kernel_rfl
theorem ja.rq:IR.run ja.t7 C N O K (ja.fr a b d e f i l q v) h nx =
 K (ja.fr a b (I 1) e f i l q v) h nx:=by kernel_rfl
theorem ja.v4:Arg.ev (.t (.of 4)) ⟨(ja.fr a b d e f i l q v),[]⟩=f:=by kernel_rfl
theorem ja.ng:IR.run ja.t12 C N O K (ja.fr a b d e f i l q v) h nx =
 sLen a fun v1=>zi .sub .int v1 (I 1) fun v2=>K (ja.fr a b d v2 f i l q v) h nx:=by kernel_rfl
theorem ja.fM:IR.run ja.t13 C N O K (ja.fr a b d e f i l q v) h nx =
 zi .geq .int e (I 0) fun v1=>K (ja.fr a b d e f i v1 q v) h nx:=by kernel_rfl
theorem ja.v6:Arg.ev (.t (.of 6)) ⟨(ja.fr a b d e f i l q v),[]⟩=l:=by kernel_rfl
theorem ja.ru:IR.run ja.t16 C N O K (ja.fr a b d e f i l q v) h nx =
 zL 1 a e fun v1=>zH v1 h fun v2=>zL 1 b e fun v3=>zH v3 h fun v4=>zi .neq .int v2 v4 fun v5=>K (ja.fr a b d e f i l v5 v) h nx:=by kernel_rfl
theorem ja.rV:IR.run ja.t17 C N O K (ja.fr a b d e f i l q v) h nx =
 zL 1 a e fun v1=>zH v1 h fun v2=>zL 1 b e fun v3=>zH v3 h fun v4=>zi .lss .int v2 v4 fun v5=>K (ja.fr a b d e f i l q v5) h nx:=by kernel_rfl
theorem ja.ah:IR.run ja.t18 C N O K (ja.fr a b d e f i l q v) h nx =
 K (ja.fr a b (I (-1)) e f i l q v) h nx:=by kernel_rfl
theorem ja.v8:Arg.ev (.t (.of 8)) ⟨(ja.fr a b d e f i l q v),[]⟩=v:=by kernel_rfl
theorem ja.aZ:IR.run ja.t22 C N O K (ja.fr a b d e f i l q v) h nx =
 K (ja.fr a b (I 1) e f i l q v) h nx:=by kernel_rfl
theorem ja.v7:Arg.ev (.t (.of 7)) ⟨(ja.fr a b d e f i l q v),[]⟩=q:=by kernel_rfl
theorem ja.aA:IR.run ja.t28 C N O K (ja.fr a b d e f i l q v) h nx =
 zi .sub .int e (I 1) fun v1=>K (ja.fr a b d v1 f i l q v) h nx:=by kernel_rfl
theorem ja.zmu (Inv:Nat->AV->T Blk->Pa->Prop) {m:Nat} (hm:m<N) (hi:Inv m e h nx)
  (step:∀ (m:Nat) (z2 z3 z6 z7 z8:AV) (h:T Blk) (nx:Pa) (R:Ks Prop),Inv m z3 h nx->(∀ (m':Nat) (w2 w3 w6 w7 w8:AV) (h':T Blk) (nx':Pa),m'<m->Inv m' w3 h' nx'->R (ja.fr a b w2 w3 f i w6 w7 w8) h' nx'=.ok True)->IR.run ja.t30 C N O R (ja.fr a b z2 z3 f i z6 z7 z8) h nx=.ok True) :
  IR.run ja.t31 C N O K (ja.fr a b d e f i l q v) h nx=.ok True:=by
 rw [ja.t31];refine yE (fun m tm h nx=>∃ z2 z3 z6 z7 z8,tm=(ja.fr a b z2 z3 f i z6 z7 z8)/\Inv m z3 h nx) ?_ hm ⟨_,_,_,_,_,rfl,hi⟩;rintro m tm h nx R ⟨z2,z3,z6,z7,z8,rfl,hi⟩ hR;exact step m z2 z3 z6 z7 z8 h nx R hi fun m' w2 w3 w6 w7 w8 h' nx' hlt hi'=>hR m' _ h' nx' hlt ⟨_,_,_,_,_,rfl,hi'⟩
theorem ja.zam:IR.run ja.t34 C N O K (ja.fr a b d e f i l q v) h nx =
 K (ja.fr a b (I 0) e f i l q v) h nx:=by kernel_rfl
theorem ja.go:zR tbl N C (.of 261) [a0,a1] h nx K0=IR.run ja.t38 C N (fnO ja.res K0) (yx ja.res K0) (ja.fr a0 a1 .u .u .u .u .u .u .u) h nx:=yZ (F:=ja) (by kernel_rfl) (fun _=>by kernel_rfl) (by kernel_rfl)
theorem ja.ret:yx ja.res K0 (ja.fr a b d e f i l q v) h nx=K0 d h nx:=by kernel_rfl
theorem yc.jm:IR.run yc.t0 C N O K (yc.fr a b d e f i l q v z c g) h nx =
 K (yc.fr a b .zf e f i l q v z c g) h nx:=by kernel_rfl
theorem yc.jl:IR.run yc.t1 C N O K (yc.fr a b d e f i l q v z c g) h nx =
 sLen a fun v1=>sLen b fun v2=>zi .lss .int v1 v2 fun v3=>K (yc.fr a b d e f i l v3 v z c g) h nx:=by kernel_rfl
theorem yc.qh:IR.run yc.t2 C N O K (yc.fr a b d e f i l q v z c g) h nx =
 K (yc.fr b a d e f i l q v z c g) h nx:=by kernel_rfl
theorem yc.v7:Arg.ev (.t (.of 7)) ⟨(yc.fr a b d e f i l q v z c g),[]⟩=q:=by kernel_rfl
theorem yc.bJ:IR.run yc.t5 C N O K (yc.fr a b d e f i l q v z c g) h nx =
 sLen a fun v1=>zi .add .int v1 (I 1) fun v2=>uD 1 8 [(.int .u64 0)] v2 v2 h nx fun v3 h4 n5=>K (yc.fr a b d v3 f i l q v z c g) h4 n5:=by kernel_rfl
theorem yc.mg:IR.run yc.t6 C N O K (yc.fr a b d e f i l q v z c g) h nx =
 K (yc.fr a b d e (.int .u64 0) i l q v z c g) h nx:=by kernel_rfl
theorem yc.rq:IR.run yc.t7 C N O K (yc.fr a b d e f i l q v z c g) h nx =
 sLen a fun v1=>K (yc.fr a b d e f i l q v1 (I 0) c g) h nx:=by kernel_rfl
theorem yc.sH:IR.run yc.t8 C N O K (yc.fr a b d e f i l q v z c g) h nx =
 zi .lss .int z v fun v1=>K (yc.fr a b d e f i l q v z v1 g) h nx:=by kernel_rfl
theorem yc.v10:Arg.ev (.t (.of 10)) ⟨(yc.fr a b d e f i l q v z c g),[]⟩=c:=by kernel_rfl
theorem yc.rG:IR.run yc.t10 C N O K (yc.fr a b d e f i l q v z c g) h nx =
 K (yc.fr a b d e f z l q v z c g) h nx:=by kernel_rfl
theorem yc.fZ:IR.run yc.t11 C N O K (yc.fr a b d e f i l q v z c g) h nx =
 K (yc.fr a b d e f i (.int .u64 0) q v z c g) h nx:=by kernel_rfl
theorem yc.ng:IR.run yc.t12 C N O K (yc.fr a b d e f i l q v z c g) h nx =
 sLen b fun v1=>zi .lss .int i v1 fun v2=>K (yc.fr a b d e f i l q v z c v2) h nx:=by kernel_rfl
theorem yc.fM:IR.run yc.t13 C N O K (yc.fr a b d e f i l q v z c g) h nx =
 zL 1 b i fun v1=>zH v1 h fun v2=>K (yc.fr a b d e f i v2 q v z c g) h nx:=by kernel_rfl
theorem yc.v11:Arg.ev (.t (.of 11)) ⟨(yc.fr a b d e f i l q v z c g),[]⟩=g:=by kernel_rfl
theorem yc.ru:IR.run yc.t16 C N O K tm h nx=zN yc.zan C ⟨tm,[]⟩ h nx (fun tm h nx=>K tm.v h nx):=jC ..
theorem yc.zav:zN (yc.zaz r) C ⟨(yc.fr a b d e f i l q v z c g),[]⟩ h nx Kt =
 zL 1 a i fun v1=>zH v1 h fun v2=>zN r C ⟨(yc.fr a b d e f i l q v z c g),f::l::v2::v1::i::a::i::e::[]⟩ h nx Kt:=by kernel_rfl
theorem yc.zaw:zN (yc.za0 r) C ⟨(yc.fr a b d e f i l q v z c g),s0::s1::s2::sT⟩ h nx Kt =
 C.fn 300 (.of 300) [s2,s1,s0] h nx fun v1 h2 n3=>zN r C ⟨(yc.fr a b d e f i l q v z c g),v1::s0::s1::s2::sT⟩ h2 n3 Kt:=by kernel_rfl
theorem yc.zjs:zN (yc.zmv r) C ⟨(yc.fr a b d e f i l q v z c g),s0::s1::s2::s3::s4::s5::s6::s7::s8::[]⟩ h nx Kt =
 uo 0 s0 fun v1=>uo 1 s0 fun v2=>zL 1 s8 s7 fun v3=>zW 1 v3 v1 h nx fun v4 h5 n6=>zN r C ⟨(yc.fr a b d e f i l q v z c g),v3::v2::v1::s0::s0::s1::s2::s3::s4::s5::s6::s7::s8::[]⟩ h5 n6 Kt:=by kernel_rfl
theorem yc.zjt:zN (yc.zmw []) C ⟨(yc.fr a b d e f i l q v z c g),s0::s1::sT⟩ h nx Kt =
 Kt ⟨(yc.fr a b d e s1 i l q v z c g),s0::s1::sT⟩ h nx:=by kernel_rfl
theorem yc.sV:IR.run yc.t21 C N O K (yc.fr a b d e f i l q v z c g) h nx =
 zi .add .int z (I 1) fun v1=>K (yc.fr a b d e f i l q v v1 c g) h nx:=by kernel_rfl
theorem yc.zmx (Inv:Nat->AV->AV->T Blk->Pa->Prop) {m:Nat} (hm:m<N) (hi:Inv m f z h nx)
  (step:∀ (m:Nat) (z4 z5 z6 z9 zA zB:AV) (h:T Blk) (nx:Pa) (R:Ks Prop),Inv m z4 z9 h nx->(∀ (m':Nat) (w4 w5 w6 w9 wA wB:AV) (h':T Blk) (nx':Pa),m'<m->Inv m' w4 w9 h' nx'->R (yc.fr a b d e w4 w5 w6 q v w9 wA wB) h' nx'=.ok True)->IR.run yc.t24 C N O R (yc.fr a b d e z4 z5 z6 q v z9 zA zB) h nx=.ok True) :
  IR.run yc.t25 C N O K (yc.fr a b d e f i l q v z c g) h nx=.ok True:=by
 rw [yc.t25];refine yE (fun m tm h nx=>∃ z4 z5 z6 z9 zA zB,tm=(yc.fr a b d e z4 z5 z6 q v z9 zA zB)/\Inv m z4 z9 h nx) ?_ hm ⟨_,_,_,_,_,_,rfl,hi⟩;rintro m tm h nx R ⟨z4,z5,z6,z9,zA,zB,rfl,hi⟩ hR;exact step m z4 z5 z6 z9 zA zB h nx R hi fun m' w4 w5 w6 w9 wA wB h' nx' hlt hi'=>hR m' _ h' nx' hlt ⟨_,_,_,_,_,_,rfl,hi'⟩
theorem yc.aA:IR.run yc.t28 C N O K (yc.fr a b d e f i l q v z c g) h nx =
 sLen a fun v1=>zL 1 e v1 fun v2=>zW 1 v2 f h nx fun v3 h4 n5=>K (yc.fr a b d e f i l q v z c g) h4 n5:=by kernel_rfl
theorem yc.zft:IR.run yc.t29 C N O K (yc.fr a b d e f i l q v z c g) h nx =
 C.fn 289 (.of 289) [e] h nx fun v1 h2 n3=>K (yc.fr a b v1 e f i l q v z c g) h2 n3:=by kernel_rfl
theorem yc.go:zR tbl N C (.of 260) [a0,a1] h nx K0=IR.run yc.t36 C N (fnO yc.res K0) (yx yc.res K0) (yc.fr a0 a1 .u .u .u .u .u .u .u .u .u .u) h nx:=yZ (F:=yc) (by kernel_rfl) (fun _=>by kernel_rfl) (by kernel_rfl)
theorem yc.ret:yx yc.res K0 (yc.fr a b d e f i l q v z c g) h nx=K0 d h nx:=by kernel_rfl
theorem yg.jm:IR.run yg.t0 C N O K (yg.fr a b d e f i l q v z c) h nx =
 K (yg.fr a b .zf e f i l q v z c) h nx:=by kernel_rfl
theorem yg.jl:IR.run yg.t1 C N O K (yg.fr a b d e f i l q v z c) h nx =
 sLen a fun v1=>uD 1 8 [(.int .u64 0)] v1 v1 h nx fun v2 h3 n4=>K (yg.fr a b d v2 f i l q v z c) h3 n4:=by kernel_rfl
theorem yg.qh:IR.run yg.t2 C N O K (yg.fr a b d e f i l q v z c) h nx =
 K (yg.fr a b d e (.int .u64 0) i l q v z c) h nx:=by kernel_rfl
theorem yg.rC:IR.run yg.t3 C N O K (yg.fr a b d e f i l q v z c) h nx =
 sLen a fun v1=>K (yg.fr a b d e f i l v1 (I 0) z c) h nx:=by kernel_rfl
theorem yg.rD:IR.run yg.t4 C N O K (yg.fr a b d e f i l q v z c) h nx =
 zi .lss .int v q fun v1=>K (yg.fr a b d e f i l q v v1 c) h nx:=by kernel_rfl
theorem yg.v9:Arg.ev (.t (.of 9)) ⟨(yg.fr a b d e f i l q v z c),[]⟩=z:=by kernel_rfl
theorem yg.mg:IR.run yg.t6 C N O K (yg.fr a b d e f i l q v z c) h nx =
 K (yg.fr a b d e f v l q v z c) h nx:=by kernel_rfl
theorem yg.rq:IR.run yg.t7 C N O K (yg.fr a b d e f i l q v z c) h nx =
 K (yg.fr a b d e f i (.int .u64 0) q v z c) h nx:=by kernel_rfl
theorem yg.sH:IR.run yg.t8 C N O K (yg.fr a b d e f i l q v z c) h nx =
 sLen b fun v1=>zi .lss .int i v1 fun v2=>K (yg.fr a b d e f i l q v z v2) h nx:=by kernel_rfl
theorem yg.ay:IR.run yg.t9 C N O K (yg.fr a b d e f i l q v z c) h nx =
 zL 1 b i fun v1=>zH v1 h fun v2=>K (yg.fr a b d e f i v2 q v z c) h nx:=by kernel_rfl
theorem yg.v10:Arg.ev (.t (.of 10)) ⟨(yg.fr a b d e f i l q v z c),[]⟩=c:=by kernel_rfl
theorem yg.ng:IR.run yg.t12 C N O K tm h nx=zN yg.r9_0 C ⟨tm,[]⟩ h nx (fun tm h nx=>K tm.v h nx):=jC ..
theorem yg.zaj:zN (yg.zao r) C ⟨(yg.fr a b d e f i l q v z c),[]⟩ h nx Kt =
 zL 1 a i fun v1=>zH v1 h fun v2=>zN r C ⟨(yg.fr a b d e f i l q v z c),f::l::v2::v1::i::a::i::e::[]⟩ h nx Kt:=by kernel_rfl
theorem yg.aB:zN (yg.zaq r) C ⟨(yg.fr a b d e f i l q v z c),s0::s1::s2::sT⟩ h nx Kt =
 C.fn 301 (.of 301) [s2,s1,s0] h nx fun v1 h2 n3=>zN r C ⟨(yg.fr a b d e f i l q v z c),v1::s0::s1::s2::sT⟩ h2 n3 Kt:=by kernel_rfl
theorem yg.aC:zN (yg.zar r) C ⟨(yg.fr a b d e f i l q v z c),s0::s1::s2::s3::s4::s5::s6::s7::s8::[]⟩ h nx Kt =
 uo 0 s0 fun v1=>uo 1 s0 fun v2=>zL 1 s8 s7 fun v3=>zW 1 v3 v1 h nx fun v4 h5 n6=>zN r C ⟨(yg.fr a b d e f i l q v z c),v3::v2::v1::s0::s0::s1::s2::s3::s4::s5::s6::s7::s8::[]⟩ h5 n6 Kt:=by kernel_rfl
theorem yg.zeh:zN (yg.zfu []) C ⟨(yg.fr a b d e f i l q v z c),s0::s1::sT⟩ h nx Kt =
 Kt ⟨(yg.fr a b d e s1 i l q v z c),s0::s1::sT⟩ h nx:=by kernel_rfl
theorem yg.rV:IR.run yg.t17 C N O K (yg.fr a b d e f i l q v z c) h nx =
 zi .add .int v (I 1) fun v1=>K (yg.fr a b d e f i l q v1 z c) h nx:=by kernel_rfl
theorem yg.zmy (Inv:Nat->AV->AV->T Blk->Pa->Prop) {m:Nat} (hm:m<N) (hi:Inv m f v h nx)
  (step:∀ (m:Nat) (z4 z5 z6 z8 z9 zA:AV) (h:T Blk) (nx:Pa) (R:Ks Prop),Inv m z4 z8 h nx->(∀ (m':Nat) (w4 w5 w6 w8 w9 wA:AV) (h':T Blk) (nx':Pa),m'<m->Inv m' w4 w8 h' nx'->R (yg.fr a b d e w4 w5 w6 q w8 w9 wA) h' nx'=.ok True)->IR.run yg.t20 C N O R (yg.fr a b d e z4 z5 z6 q z8 z9 zA) h nx=.ok True) :
  IR.run yg.t21 C N O K (yg.fr a b d e f i l q v z c) h nx=.ok True:=by
 rw [yg.t21];refine yE (fun m tm h nx=>∃ z4 z5 z6 z8 z9 zA,tm=(yg.fr a b d e z4 z5 z6 q z8 z9 zA)/\Inv m z4 z8 h nx) ?_ hm ⟨_,_,_,_,_,_,rfl,hi⟩;rintro m tm h nx R ⟨z4,z5,z6,z8,z9,zA,rfl,hi⟩ hR;exact step m z4 z5 z6 z8 z9 zA h nx R hi fun m' w4 w5 w6 w8 w9 wA h' nx' hlt hi'=>hR m' _ h' nx' hlt ⟨_,_,_,_,_,_,rfl,hi'⟩
theorem yg.aF:IR.run yg.t24 C N O K (yg.fr a b d e f i l q v z c) h nx =
 C.fn 289 (.of 289) [e] h nx fun v1 h2 n3=>K (yg.fr a b v1 e f i l q v z c) h2 n3:=by kernel_rfl
theorem yg.go:zR tbl N C (.of 262) [a0,a1] h nx K0=IR.run yg.t29 C N (fnO yg.res K0) (yx yg.res K0) (yg.fr a0 a1 .u .u .u .u .u .u .u .u .u) h nx:=yZ (F:=yg) (by kernel_rfl) (fun _=>by kernel_rfl) (by kernel_rfl)
theorem yg.ret:yx yg.res K0 (yg.fr a b d e f i l q v z c) h nx=K0 d h nx:=by kernel_rfl
theorem zy.jm:IR.run zy.t0 C N O K (zy.fr a b d e f i l q v z c g p o s u w y A B) h nx =
 K (zy.fr a b .zf e f i l q v z c g p o s u w y A B) h nx:=by kernel_rfl
theorem zy.jl:IR.run zy.t1 C N O K (zy.fr a b d e f i l q v z c g p o s u w y A B) h nx =
 sLen a fun v1=>sLen b fun v2=>zi .add .int v1 v2 fun v3=>uD 1 8 [(.int .u64 0)] v3 v3 h nx fun v4 h5 n6=>K (zy.fr a b d v4 f i l q v z c g p o s u w y A B) h5 n6:=by kernel_rfl
theorem zy.qh:IR.run zy.t2 C N O K (zy.fr a b d e f i l q v z c g p o s u w y A B) h nx =
 sLen a fun v1=>K (zy.fr a b d e f i l q v z c g a v1 (I 0) u w y A B) h nx:=by kernel_rfl
theorem zy.rC:IR.run zy.t3 C N O K (zy.fr a b d e f i l q v z c g p o s u w y A B) h nx =
 zi .lss .int s o fun v1=>K (zy.fr a b d e f i l q v z c g p o s v1 w y A B) h nx:=by kernel_rfl
theorem zy.v15:Arg.ev (.t (.of 15)) ⟨(zy.fr a b d e f i l q v z c g p o s u w y A B),[]⟩=u:=by kernel_rfl
theorem zy.bJ:IR.run zy.t5 C N O K (zy.fr a b d e f i l q v z c g p o s u w y A B) h nx =
 zL 1 p s fun v1=>zH v1 h fun v2=>K (zy.fr a b d e s v2 l q v z c g p o s u w y A B) h nx:=by kernel_rfl
theorem zy.mg:IR.run zy.t6 C N O K (zy.fr a b d e f i l q v z c g p o s u w y A B) h nx =
 K (zy.fr a b d e f i (.int .u64 0) q v z c g p o s u w y A B) h nx:=by kernel_rfl
theorem zy.rq:IR.run zy.t7 C N O K (zy.fr a b d e f i l q v z c g p o s u w y A B) h nx =
 sLen b fun v1=>K (zy.fr a b d e f i l q v z c g p o s u b v1 (I 0) B) h nx:=by kernel_rfl
theorem zy.sH:IR.run zy.t8 C N O K (zy.fr a b d e f i l q v z c g p o s u w y A B) h nx =
 zi .lss .int A y fun v1=>K (zy.fr a b d e f i l q v z c g p o s u w y A v1) h nx:=by kernel_rfl
theorem zy.v19:Arg.ev (.t (.of 19)) ⟨(zy.fr a b d e f i l q v z c g p o s u w y A B),[]⟩=B:=by kernel_rfl
theorem zy.rG:IR.run zy.t10 C N O K (zy.fr a b d e f i l q v z c g p o s u w y A B) h nx =
 zL 1 w A fun v1=>zH v1 h fun v2=>K (zy.fr a b d e f i l A v2 z c g p o s u w y A B) h nx:=by kernel_rfl
theorem zy.fZ:IR.run zy.t11 C N O K (zy.fr a b d e f i l q v z c g p o s u w y A B) h nx =
 C.fn 263 (.of 263) [i,v] h nx fun v1 h2 n3=>uo 0 v1 fun v4=>uo 1 v1 fun v5=>K (zy.fr a b d e f i l q v v4 v5 g p o s u w y A B) h2 n3:=by kernel_rfl
theorem zy.ng:IR.run zy.t12 C N O K (zy.fr a b d e f i l q v z c g p o s u w y A B) h nx =
 K (zy.fr a b d e f i l q v z c (.int .u64 0) p o s u w y A B) h nx:=by kernel_rfl
theorem zy.fM:IR.run zy.t13 C N O K tm h nx=zN zy.zan C ⟨tm,[]⟩ h nx (fun tm h nx=>K tm.v h nx):=jC ..
theorem zy.zav:zN (zy.zaz r) C ⟨(zy.fr a b d e f i l q v z c g p o s u w y A B),[]⟩ h nx Kt =
 zi .add .int f q fun v1=>zL 1 e v1 fun v2=>zH v2 h fun v3=>C.fn 300 (.of 300) [c,v3,(.int .u64 0)] h nx fun v4 h5 n6=>zN r C ⟨(zy.fr a b d e f i l q v z c g p o s u w y A B),v4::v3::v2::v1::q::f::e::c::[]⟩ h5 n6 Kt:=by kernel_rfl
theorem zy.zaw:zN (zy.za0 []) C ⟨(zy.fr a b d e f i l q v z c g p o s u w y A B),s0::sT⟩ h nx Kt =
 uo 0 s0 fun v1=>uo 1 s0 fun v2=>Kt ⟨(zy.fr a b d e f i l q v z v1 v2 p o s u w y A B),v2::v1::s0::s0::sT⟩ h nx:=by kernel_rfl
theorem zy.nP:IR.run zy.t14 C N O K (zy.fr a b d e f i l q v z c g p o s u w y A B) h nx =
 zi .add .int z g fun v1=>K (zy.fr a b d e f i l q v v1 c g p o s u w y A B) h nx:=by kernel_rfl
theorem zy.sJ:IR.run zy.t15 C N O K (zy.fr a b d e f i l q v z c g p o s u w y A B) h nx =
 C.fn 300 (.of 300) [c,l,(.int .u64 0)] h nx fun v1 h2 n3=>uo 0 v1 fun v4=>uo 1 v1 fun v5=>K (zy.fr a b d e f i l q v z v4 v5 p o s u w y A B) h2 n3:=by kernel_rfl
theorem zy.ru:IR.run zy.t16 C N O K (zy.fr a b d e f i l q v z c g p o s u w y A B) h nx =
 zi .add .int f q fun v1=>zi .add .int z g fun v2=>zL 1 e v1 fun v3=>zW 1 v3 c h nx fun v4 h5 n6=>K (zy.fr a b d e f i v2 q v z c g p o s u w y A B) h5 n6:=by kernel_rfl
theorem zy.aF:IR.run zy.t24 C N O K (zy.fr a b d e f i l q v z c g p o s u w y A B) h nx =
 zi .add .int A (I 1) fun v1=>K (zy.fr a b d e f i l q v z c g p o s u w y v1 B) h nx:=by kernel_rfl
theorem zy.zzc (Inv:Nat->AV->AV->T Blk->Pa->Prop) {m:Nat} (hm:m<N) (hi:Inv m l A h nx)
  (step:∀ (m:Nat) (z6 z7 z8 z9 zA zB zC zD:AV) (h:T Blk) (nx:Pa) (R:Ks Prop),Inv m z6 zC h nx->(∀ (m':Nat) (w6 w7 w8 w9 wA wB wC wE:AV) (h':T Blk) (nx':Pa),m'<m->Inv m' w6 wC h' nx'->R (zy.fr a b d e f i w6 w7 w8 w9 wA wB p o s u w y wC wE) h' nx'=.ok True)->IR.run zy.t27 C N O R (zy.fr a b d e f i z6 z7 z8 z9 zA zB p o s u w y zC zD) h nx=.ok True) :
  IR.run zy.t28 C N O K (zy.fr a b d e f i l q v z c g p o s u w y A B) h nx=.ok True:=by
 rw [zy.t28];refine yE (fun m tm h nx=>∃ z6 z7 z8 z9 zA zB zC zD,tm=(zy.fr a b d e f i z6 z7 z8 z9 zA zB p o s u w y zC zD)/\Inv m z6 zC h nx) ?_ hm ⟨_,_,_,_,_,_,_,_,rfl,hi⟩;rintro m tm h nx R ⟨z6,z7,z8,z9,zA,zB,zC,zD,rfl,hi⟩ hR;exact step m z6 z7 z8 z9 zA zB zC zD h nx R hi fun m' w6 w7 w8 w9 wA wB wC wE h' nx' hlt hi'=>hR m' _ h' nx' hlt ⟨_,_,_,_,_,_,_,_,rfl,hi'⟩
theorem zy.zfv:IR.run zy.t31 C N O K (zy.fr a b d e f i l q v z c g p o s u w y A B) h nx =
 sLen b fun v1=>zi .add .int f v1 fun v2=>zL 1 e v2 fun v3=>zW 1 v3 l h nx fun v4 h5 n6=>K (zy.fr a b d e f i l q v z c g p o s u w y A B) h5 n6:=by kernel_rfl
theorem zy.o9:IR.run zy.t36 C N O K (zy.fr a b d e f i l q v z c g p o s u w y A B) h nx =
 zi .add .int s (I 1) fun v1=>K (zy.fr a b d e f i l q v z c g p o v1 u w y A B) h nx:=by kernel_rfl
theorem zy.zzd (Inv:Nat->AV->T Blk->Pa->Prop) {m:Nat} (hm:m<N) (hi:Inv m s h nx)
  (step:∀ (m:Nat) (z4 z5 z6 z7 z8 z9 zA zB zF zG zJ zK zC zD:AV) (h:T Blk) (nx:Pa) (R:Ks Prop),Inv m zF h nx->(∀ (m':Nat) (w4 w5 w6 w7 w8 w9 wA wB wF wG wH wI wC wE:AV) (h':T Blk) (nx':Pa),m'<m->Inv m' wF h' nx'->R (zy.fr a b d e w4 w5 w6 w7 w8 w9 wA wB p o wF wG wH wI wC wE) h' nx'=.ok True)->IR.run zy.t39 C N O R (zy.fr a b d e z4 z5 z6 z7 z8 z9 zA zB p o zF zG zJ zK zC zD) h nx=.ok True) :
  IR.run zy.t40 C N O K (zy.fr a b d e f i l q v z c g p o s u w y A B) h nx=.ok True:=by
 rw [zy.t40];refine yE (fun m tm h nx=>∃ z4 z5 z6 z7 z8 z9 zA zB zF zG zJ zK zC zD,tm=(zy.fr a b d e z4 z5 z6 z7 z8 z9 zA zB p o zF zG zJ zK zC zD)/\Inv m zF h nx) ?_ hm ⟨_,_,_,_,_,_,_,_,_,_,_,_,_,_,rfl,hi⟩;rintro m tm h nx R ⟨z4,z5,z6,z7,z8,z9,zA,zB,zF,zG,zJ,zK,zC,zD,rfl,hi⟩ hR;exact step m z4 z5 z6 z7 z8 z9 zA zB zF zG zJ zK zC zD h nx R hi fun m' w4 w5 w6 w7 w8 w9 wA wB wF wG wH wI wC wE h' nx' hlt hi'=>hR m' _ h' nx' hlt ⟨_,_,_,_,_,_,_,_,_,_,_,_,_,_,rfl,hi'⟩
theorem zy.zas:IR.run zy.t43 C N O K (zy.fr a b d e f i l q v z c g p o s u w y A B) h nx =
 C.fn 289 (.of 289) [e] h nx fun v1 h2 n3=>K (zy.fr a b v1 e f i l q v z c g p o s u w y A B) h2 n3:=by kernel_rfl
theorem zy.go:zR tbl N C (.of 265) [a0,a1] h nx K0=IR.run zy.t47 C N (fnO zy.res K0) (yx zy.res K0) (zy.fr a0 a1 .u .u .u .u .u .u .u .u .u .u .u .u .u .u .u .u .u .u) h nx:=yZ (F:=zy) (by kernel_rfl) (fun _=>by kernel_rfl) (by kernel_rfl)
theorem zy.ret:yx zy.res K0 (zy.fr a b d e f i l q v z c g p o s u w y A B) h nx=K0 d h nx:=by kernel_rfl
theorem jb.jm:IR.run jb.t0 C N O K (jb.fr a b d e f) h nx =
 K (jb.fr a (I 0) d e f) h nx:=by kernel_rfl
theorem jb.jl:IR.run jb.t1 C N O K (jb.fr a b d e f) h nx =
 zi .geq .int a (.int .u64 4294967296) fun v1=>K (jb.fr a b v1 e f) h nx:=by kernel_rfl
theorem jb.qh:IR.run jb.t2 C N O K (jb.fr a b d e f) h nx =
 zi .shr .int a (.int .u64 32) fun v1=>K (jb.fr v1 b d e f) h nx:=by kernel_rfl
theorem jb.rC:IR.run jb.t3 C N O K (jb.fr a b d e f) h nx =
 K (jb.fr a (I 32) d e f) h nx:=by kernel_rfl
theorem jb.v2:Arg.ev (.t (.of 2)) ⟨(jb.fr a b d e f),[]⟩=d:=by kernel_rfl
theorem jb.rq:IR.run jb.t7 C N O K (jb.fr a b d e f) h nx =
 zi .geq .int a (.int .u64 65536) fun v1=>K (jb.fr a b d v1 f) h nx:=by kernel_rfl
theorem jb.sH:IR.run jb.t8 C N O K (jb.fr a b d e f) h nx =
 zi .shr .int a (.int .u64 16) fun v1=>K (jb.fr v1 b d e f) h nx:=by kernel_rfl
theorem jb.ay:IR.run jb.t9 C N O K (jb.fr a b d e f) h nx =
 zi .add .int b (I 16) fun v1=>K (jb.fr a v1 d e f) h nx:=by kernel_rfl
theorem jb.v3:Arg.ev (.t (.of 3)) ⟨(jb.fr a b d e f),[]⟩=e:=by kernel_rfl
theorem jb.fM:IR.run jb.t13 C N O K (jb.fr a b d e f) h nx =
 zi .geq .int a (.int .u64 256) fun v1=>K (jb.fr a b d e v1) h nx:=by kernel_rfl
theorem jb.nP:IR.run jb.t14 C N O K (jb.fr a b d e f) h nx =
 zi .shr .int a (.int .u64 8) fun v1=>K (jb.fr v1 b d e f) h nx:=by kernel_rfl
theorem jb.sJ:IR.run jb.t15 C N O K (jb.fr a b d e f) h nx =
 zi .add .int b (I 8) fun v1=>K (jb.fr a v1 d e f) h nx:=by kernel_rfl
theorem jb.v4:Arg.ev (.t (.of 4)) ⟨(jb.fr a b d e f),[]⟩=f:=by kernel_rfl
theorem jb.sW:IR.run jb.t19 C N O K (jb.fr a b d e f) h nx =
 wD .u8 a fun v1=>zmz (.str [0,1,2,2,3,3,3,3,4,4,4,4,4,4,4,4,5,5,5,5,5,5,5,5,5,5,5,5,5,5,5,5,6,6,6,6,6,6,6,6,6,6,6,6,6,6,6,6,6,6,6,6,6,6,6,6,6,6,6,6,6,6,6,6,7,7,7,7,7,7,7,7,7,7,7,7,7,7,7,7,7,7,7,7,7,7,7,7,7,7,7,7,7,7,7,7,7,7,7,7,7,7,7,7,7,7,7,7,7,7,7,7,7,7,7,7,7,7,7,7,7,7,7,7,7,7,7,7,8,8,8,8,8,8,8,8,8,8,8,8,8,8,8,8,8,8,8,8,8,8,8,8,8,8,8,8,8,8,8,8,8,8,8,8,8,8,8,8,8,8,8,8,8,8,8,8,8,8,8,8,8,8,8,8,8,8,8,8,8,8,8,8,8,8,8,8,8,8,8,8,8,8,8,8,8,8,8,8,8,8,8,8,8,8,8,8,8,8,8,8,8,8,8,8,8,8,8,8,8,8,8,8,8,8,8,8,8,8,8,8,8,8,8,8,8,8,8,8,8,8,8,8,8,8,8,8]) v1 fun v2=>wD .i64 v2 fun v3=>zi .add .int b v3 fun v4=>K (jb.fr a v4 d e f) h nx:=by kernel_rfl
theorem jb.go:zR tbl N C (.of 312) [a0] h nx K0=IR.run jb.t24 C N (fnO jb.res K0) (yx jb.res K0) (jb.fr a0 .u .u .u .u) h nx:=yZ (F:=jb) (by kernel_rfl) (fun _=>by kernel_rfl) (by kernel_rfl)
theorem jb.ret:yx jb.res K0 (jb.fr a b d e f) h nx=K0 b h nx:=by kernel_rfl
theorem bQ.jm:IR.run bQ.t0 C N O K (bQ.fr a b) h nx =
 K (bQ.fr a (I 0)) h nx:=by kernel_rfl
theorem bQ.jl:IR.run bQ.t1 C N O K (bQ.fr a b) h nx =
 C.fn 312 (.of 312) [a] h nx fun v1 h2 n3=>zi .sub .int (I 64) v1 fun v4=>K (bQ.fr a v4) h2 n3:=by kernel_rfl
theorem bQ.go:zR tbl N C (.of 290) [a0] h nx K0=IR.run bQ.t3 C N (fnO bQ.res K0) (yx bQ.res K0) (bQ.fr a0 .u) h nx:=yZ (F:=bQ) (by kernel_rfl) (fun _=>by kernel_rfl) (by kernel_rfl)
theorem bQ.ret:yx bQ.res K0 (bQ.fr a b) h nx=K0 b h nx:=by kernel_rfl
theorem zo.jm:IR.run zo.t0 C N O K (zo.fr a b d e f i l q v z c g p o s u w y A B D E G) h nx =
 K (zo.fr a b d (.int .u64 0) (.int .u64 0) i l q v z c g p o s u w y A B D E G) h nx:=by kernel_rfl
theorem zo.jl:IR.run zo.t1 C N O K (zo.fr a b d e f i l q v z c g p o s u w y A B D E G) h nx =
 zi .eql .int d (.int .u64 0) fun v1=>K (zo.fr a b d e f i l q v z c g p o s u v1 y A B D E G) h nx:=by kernel_rfl
theorem zo.v16:Arg.ev (.t (.of 16)) ⟨(zo.fr a b d e f i l q v z c g p o s u w y A B D E G),[]⟩=w:=by kernel_rfl
theorem zo.rD:IR.run zo.t4 C N O K (zo.fr a b d e f i l q v z c g p o s u w y A B D E G) h nx =
 zi .leq .int d a fun v1=>K (zo.fr a b d e f i l q v z c g p o s u w v1 A B D E G) h nx:=by kernel_rfl
theorem zo.v17:Arg.ev (.t (.of 17)) ⟨(zo.fr a b d e f i l q v z c g p o s u w y A B D E G),[]⟩=y:=by kernel_rfl
theorem zo.rq:IR.run zo.t7 C N O K (zo.fr a b d e f i l q v z c g p o s u w y A B D E G) h nx =
 zi .eql .int a (.int .u64 0) fun v1=>K (zo.fr a b d e f i l q v z c g p o s u w y v1 B D E G) h nx:=by kernel_rfl
theorem zo.sH:IR.run zo.t8 C N O K (zo.fr a b d e f i l q v z c g p o s u w y A B D E G) h nx =
 zi .quo .int b d fun v1=>zi .rem .int b d fun v2=>K (zo.fr a b d v1 v2 i l q v z c g p o s u w y A B D E G) h nx:=by kernel_rfl
theorem zo.v18:Arg.ev (.t (.of 18)) ⟨(zo.fr a b d e f i l q v z c g p o s u w y A B D E G),[]⟩=A:=by kernel_rfl
theorem zo.ng:IR.run zo.t12 C N O K (zo.fr a b d e f i l q v z c g p o s u w y A B D E G) h nx =
 C.fn 290 (.of 290) [d] h nx fun v1 h2 n3=>wD .u64 v1 fun v4=>K (zo.fr a b d e f v4 l q v z c g p o s u w y A B D E G) h2 n3:=by kernel_rfl
theorem zo.fM:IR.run zo.t13 C N O K (zo.fr a b d e f i l q v z c g p o s u w y A B D E G) h nx =
 zi .shl .int d i fun v1=>K (zo.fr a b v1 e f i l q v z c g p o s u w y A B D E G) h nx:=by kernel_rfl
theorem zo.nP:IR.run zo.t14 C N O K (zo.fr a b d e f i l q v z c g p o s u w y A B D E G) h nx =
 zi .shr .int d (.int .u64 32) fun v1=>K (zo.fr a b d e f i v1 q v z c g p o s u w y A B D E G) h nx:=by kernel_rfl
theorem zo.sJ:IR.run zo.t15 C N O K (zo.fr a b d e f i l q v z c g p o s u w y A B D E G) h nx =
 zi .and .int d (.int .u64 4294967295) fun v1=>K (zo.fr a b d e f i l v1 v z c g p o s u w y A B D E G) h nx:=by kernel_rfl
theorem zo.ru:IR.run zo.t16 C N O K (zo.fr a b d e f i l q v z c g p o s u w y A B D E G) h nx =
 zi .shl .int a i fun v1=>zi .sub .int (.int .u64 64) i fun v2=>zi .shr .int b v2 fun v3=>zi .or .int v1 v3 fun v4=>K (zo.fr a b d e f i l q v4 z c g p o s u w y A B D E G) h nx:=by kernel_rfl
theorem zo.rV:IR.run zo.t17 C N O K (zo.fr a b d e f i l q v z c g p o s u w y A B D E G) h nx =
 zi .shl .int b i fun v1=>K (zo.fr a b d e f i l q v v1 c g p o s u w y A B D E G) h nx:=by kernel_rfl
theorem zo.ah:IR.run zo.t18 C N O K (zo.fr a b d e f i l q v z c g p o s u w y A B D E G) h nx =
 zi .shr .int z (.int .u64 32) fun v1=>K (zo.fr a b d e f i l q v z v1 g p o s u w y A B D E G) h nx:=by kernel_rfl
theorem zo.sW:IR.run zo.t19 C N O K (zo.fr a b d e f i l q v z c g p o s u w y A B D E G) h nx =
 zi .and .int z (.int .u64 4294967295) fun v1=>K (zo.fr a b d e f i l q v z c v1 p o s u w y A B D E G) h nx:=by kernel_rfl
theorem zo.zfw:IR.run zo.t20 C N O K (zo.fr a b d e f i l q v z c g p o s u w y A B D E G) h nx =
 zi .quo .int v l fun v1=>K (zo.fr a b d e f i l q v z c g v1 o s u w y A B D E G) h nx:=by kernel_rfl
theorem zo.sV:IR.run zo.t21 C N O K (zo.fr a b d e f i l q v z c g p o s u w y A B D E G) h nx =
 zi .mul .int p l fun v1=>zi .sub .int v v1 fun v2=>K (zo.fr a b d e f i l q v z c g p v2 s u w y A B D E G) h nx:=by kernel_rfl
theorem zo.aZ:IR.run zo.t22 C N O K tm h nx=zN zo.zm0 C ⟨tm,[]⟩ h nx (fun tm h nx=>K tm.v h nx):=jC ..
theorem zo.zr8:zN (zo.zm1 r) C ⟨(zo.fr a b d e f i l q v z c g p o s u w y A B D E G),[]⟩ h nx Kt =
 zi .geq .int p (.int .u64 4294967296) fun v1=>sG v1 false (fun k=>k p) fun v2=>sG v1 false (fun k=>k q) fun v3=>sG v1 false (fun k=>zi .mul .int v2 v3 k) fun v4=>sG v1 false (fun k=>k o) fun v5=>sG v1 false (fun k=>zi .mul .int (.int .u64 4294967296) v5 k) fun v6=>zN r C ⟨(zo.fr a b d e f i l q v z c g p o s u w y A B D E G),v6::v5::v4::v3::v2::v1::v1::p::[]⟩ h nx Kt:=by kernel_rfl
theorem zo.zju:zN (zo.zm2 []) C ⟨(zo.fr a b d e f i l q v z c g p o s u w y A B D E G),s0::s1::s2::s3::s4::s5::sT⟩ h nx Kt =
 sG s5 false (fun k=>k c) fun v1=>sG s5 false (fun k=>zi .add .int s0 v1 k) fun v2=>sG s5 false (fun k=>zi .gtr .int s2 v2 k) fun v3=>yT s5 (.bool true) v3 fun v4=>Kt ⟨(zo.fr a b d e f i l q v z c g p o s u w y A v4 D E G),v3::v2::v1::s0::s1::s2::s3::s4::s5::sT⟩ h nx:=by kernel_rfl
theorem zo.v19:Arg.ev (.t (.of 19)) ⟨(zo.fr a b d e f i l q v z c g p o s u w y A B D E G),[]⟩=B:=by kernel_rfl
theorem zo.zat:IR.run zo.t25 C N O K (zo.fr a b d e f i l q v z c g p o s u w y A B D E G) h nx =
 zi .sub .int p (.int .u64 1) fun v1=>K (zo.fr a b d e f i l q v z c g v1 o s u w y A B D E G) h nx:=by kernel_rfl
theorem zo.zu4:IR.run zo.t26 C N O K (zo.fr a b d e f i l q v z c g p o s u w y A B D E G) h nx =
 zi .add .int o l fun v1=>K (zo.fr a b d e f i l q v z c g p v1 s u w y A B D E G) h nx:=by kernel_rfl
theorem zo.zjv:IR.run zo.t27 C N O K (zo.fr a b d e f i l q v z c g p o s u w y A B D E G) h nx =
 zi .geq .int o (.int .u64 4294967296) fun v1=>K (zo.fr a b d e f i l q v z c g p o s u w y A B v1 E G) h nx:=by kernel_rfl
theorem zo.v20:Arg.ev (.t (.of 20)) ⟨(zo.fr a b d e f i l q v z c g p o s u w y A B D E G),[]⟩=D:=by kernel_rfl
theorem zo.zze (Inv:Nat->AV->AV->T Blk->Pa->Prop) {m:Nat} (hm:m<N) (hi:Inv m p o h nx)
  (step:∀ (m:Nat) (zM zO zD zP:AV) (h:T Blk) (nx:Pa) (R:Ks Prop),Inv m zM zO h nx->(∀ (m':Nat) (wJ wK wE wL:AV) (h':T Blk) (nx':Pa),m'<m->Inv m' wJ wK h' nx'->R (zo.fr a b d e f i l q v z c g wJ wK s u w y A wE wL E G) h' nx'=.ok True)->IR.run zo.t33 C N O R (zo.fr a b d e f i l q v z c g zM zO s u w y A zD zP E G) h nx=.ok True) :
  IR.run zo.t34 C N O K (zo.fr a b d e f i l q v z c g p o s u w y A B D E G) h nx=.ok True:=by
 rw [zo.t34];refine yE (fun m tm h nx=>∃ zM zO zD zP,tm=(zo.fr a b d e f i l q v z c g zM zO s u w y A zD zP E G)/\Inv m zM zO h nx) ?_ hm ⟨_,_,_,_,rfl,hi⟩;rintro m tm h nx R ⟨zM,zO,zD,zP,rfl,hi⟩ hR;exact step m zM zO zD zP h nx R hi fun m' wJ wK wE wL h' nx' hlt hi'=>hR m' _ h' nx' hlt ⟨_,_,_,_,rfl,hi'⟩
theorem zo.o9:IR.run zo.t36 C N O K (zo.fr a b d e f i l q v z c g p o s u w y A B D E G) h nx =
 zi .mul .int v (.int .u64 4294967296) fun v1=>zi .add .int v1 c fun v2=>zi .mul .int p d fun v3=>zi .sub .int v2 v3 fun v4=>K (zo.fr a b d e f i l q v z c g p o v4 u w y A B D E G) h nx:=by kernel_rfl
theorem zo.zfx:IR.run zo.t37 C N O K (zo.fr a b d e f i l q v z c g p o s u w y A B D E G) h nx =
 zi .quo .int s l fun v1=>K (zo.fr a b d e f i l q v z c g p o s v1 w y A B D E G) h nx:=by kernel_rfl
theorem zo.zfy:IR.run zo.t38 C N O K (zo.fr a b d e f i l q v z c g p o s u w y A B D E G) h nx =
 zi .mul .int u l fun v1=>zi .sub .int s v1 fun v2=>K (zo.fr a b d e f i l q v z c g p v2 s u w y A B D E G) h nx:=by kernel_rfl
theorem zo.zfz:IR.run zo.t39 C N O K tm h nx=zN zo.zm3 C ⟨tm,[]⟩ h nx (fun tm h nx=>K tm.v h nx):=jC ..
theorem zo.zr9:zN (zo.zm4 r) C ⟨(zo.fr a b d e f i l q v z c g p o s u w y A B D E G),[]⟩ h nx Kt =
 zi .geq .int u (.int .u64 4294967296) fun v1=>sG v1 false (fun k=>k u) fun v2=>sG v1 false (fun k=>k q) fun v3=>sG v1 false (fun k=>zi .mul .int v2 v3 k) fun v4=>sG v1 false (fun k=>k o) fun v5=>sG v1 false (fun k=>zi .mul .int (.int .u64 4294967296) v5 k) fun v6=>zN r C ⟨(zo.fr a b d e f i l q v z c g p o s u w y A B D E G),v6::v5::v4::v3::v2::v1::v1::u::[]⟩ h nx Kt:=by kernel_rfl
theorem zo.zjw:zN (zo.zm5 []) C ⟨(zo.fr a b d e f i l q v z c g p o s u w y A B D E G),s0::s1::s2::s3::s4::s5::sT⟩ h nx Kt =
 sG s5 false (fun k=>k g) fun v1=>sG s5 false (fun k=>zi .add .int s0 v1 k) fun v2=>sG s5 false (fun k=>zi .gtr .int s2 v2 k) fun v3=>yT s5 (.bool true) v3 fun v4=>Kt ⟨(zo.fr a b d e f i l q v z c g p o s u w y A B D v4 G),v3::v2::v1::s0::s1::s2::s3::s4::s5::sT⟩ h nx:=by kernel_rfl
theorem zo.v21:Arg.ev (.t (.of 21)) ⟨(zo.fr a b d e f i l q v z c g p o s u w y A B D E G),[]⟩=E:=by kernel_rfl
theorem zo.zdd:IR.run zo.t42 C N O K (zo.fr a b d e f i l q v z c g p o s u w y A B D E G) h nx =
 zi .sub .int u (.int .u64 1) fun v1=>K (zo.fr a b d e f i l q v z c g p o s v1 w y A B D E G) h nx:=by kernel_rfl
theorem zo.zas:IR.run zo.t43 C N O K (zo.fr a b d e f i l q v z c g p o s u w y A B D E G) h nx =
 zi .add .int o l fun v1=>K (zo.fr a b d e f i l q v z c g p v1 s u w y A B D E G) h nx:=by kernel_rfl
theorem zo.zde:IR.run zo.t44 C N O K (zo.fr a b d e f i l q v z c g p o s u w y A B D E G) h nx =
 zi .geq .int o (.int .u64 4294967296) fun v1=>K (zo.fr a b d e f i l q v z c g p o s u w y A B D E v1) h nx:=by kernel_rfl
theorem zo.v22:Arg.ev (.t (.of 22)) ⟨(zo.fr a b d e f i l q v z c g p o s u w y A B D E G),[]⟩=G:=by kernel_rfl
theorem zo.zzf (Inv:Nat->AV->AV->T Blk->Pa->Prop) {m:Nat} (hm:m<N) (hi:Inv m o u h nx)
  (step:∀ (m:Nat) (zO zG zQ zS:AV) (h:T Blk) (nx:Pa) (R:Ks Prop),Inv m zO zG h nx->(∀ (m':Nat) (wK wG wM wN:AV) (h':T Blk) (nx':Pa),m'<m->Inv m' wK wG h' nx'->R (zo.fr a b d e f i l q v z c g p wK s wG w y A B D wM wN) h' nx'=.ok True)->IR.run zo.t50 C N O R (zo.fr a b d e f i l q v z c g p zO s zG w y A B D zQ zS) h nx=.ok True) :
  IR.run zo.t51 C N O K (zo.fr a b d e f i l q v z c g p o s u w y A B D E G) h nx=.ok True:=by
 rw [zo.t51];refine yE (fun m tm h nx=>∃ zO zG zQ zS,tm=(zo.fr a b d e f i l q v z c g p zO s zG w y A B D zQ zS)/\Inv m zO zG h nx) ?_ hm ⟨_,_,_,_,rfl,hi⟩;rintro m tm h nx R ⟨zO,zG,zQ,zS,rfl,hi⟩ hR;exact step m zO zG zQ zS h nx R hi fun m' wK wG wM wN h' nx' hlt hi'=>hR m' _ h' nx' hlt ⟨_,_,_,_,rfl,hi'⟩
theorem zo.zf0:IR.run zo.t53 C N O K tm h nx=zN zo.zm6 C ⟨tm,[]⟩ h nx (fun tm h nx=>K tm.v h nx):=jC ..
theorem zo.zsa:zN (zo.zm7 r) C ⟨(zo.fr a b d e f i l q v z c g p o s u w y A B D E G),[]⟩ h nx Kt =
 zi .mul .int p (.int .u64 4294967296) fun v1=>zi .add .int v1 u fun v2=>zi .mul .int s (.int .u64 4294967296) fun v3=>zi .add .int v3 g fun v4=>zN r C ⟨(zo.fr a b d e f i l q v z c g p o s u w y A B D E G),v4::g::v3::s::v2::u::v1::p::[]⟩ h nx Kt:=by kernel_rfl
theorem zo.zsb:zN (zo.zm8 []) C ⟨(zo.fr a b d e f i l q v z c g p o s u w y A B D E G),s0::s1::s2::s3::s4::sT⟩ h nx Kt =
 zi .mul .int u d fun v1=>zi .sub .int s0 v1 fun v2=>zi .shr .int v2 i fun v3=>Kt ⟨(zo.fr a b d s4 v3 i l q v z c g p o s u w y A B D E G),v3::i::v2::v1::d::u::s0::s1::s2::s3::s4::sT⟩ h nx:=by kernel_rfl
theorem zo.go:zR tbl N C (.of 288) [a0,a1,a2] h nx K0=IR.run zo.t73 C N (fnO zo.res K0) (yx zo.res K0) (zo.fr a0 a1 a2 .u .u .u .u .u .u .u .u .u .u .u .u .u .u .u .u .u .u .u .u) h nx:=yZ (F:=zo) (by kernel_rfl) (fun _=>by kernel_rfl) (by kernel_rfl)
theorem zo.ret:yx zo.res K0 (zo.fr a b d e f i l q v z c g p o s u w y A B D E G) h nx=K0 (.tup [e,f]) h nx:=by kernel_rfl
theorem zh.jm:IR.run zh.t0 C N O K (zh.fr a b d e f i l q v z c g p o s u w y A B D E G H L M P) h nx =
 K (zh.fr a b (.int .u64 0) e f i l q v z c g p o s u w y A B D E G H L M P) h nx:=by kernel_rfl
theorem zh.jl:IR.run zh.t1 C N O K (zh.fr a b d e f i l q v z c g p o s u w y A B D E G H L M P) h nx =
 sLen b fun v1=>K (zh.fr a b d v1 f i l q v z c g p o s u w y A B D E G H L M P) h nx:=by kernel_rfl
theorem zh.qh:IR.run zh.t2 C N O K (zh.fr a b d e f i l q v z c g p o s u w y A B D E G H L M P) h nx =
 K (zh.fr a b d e (.int .u64 0) (.int .u64 0) l q v z c g p o s u w y A B D E G H L M P) h nx:=by kernel_rfl
theorem zh.rC:IR.run zh.t3 C N O K (zh.fr a b d e f i l q v z c g p o s u w y A B D E G H L M P) h nx =
 K (zh.fr a b d e f i (.int .u64 0) q v z c g p o s u w y A B D E G H L M P) h nx:=by kernel_rfl
theorem zh.rD:IR.run zh.t4 C N O K (zh.fr a b d e f i l q v z c g p o s u w y A B D E G H L M P) h nx =
 zL 1 a e fun v1=>zH v1 h fun v2=>zi .sub .int e (I 1) fun v3=>zL 1 b v3 fun v4=>zH v4 h fun v5=>zi .geq .int v2 v5 fun v6=>K (zh.fr a b d e f i l q v z c g p o s u w v6 A B D E G H L M P) h nx:=by kernel_rfl
theorem zh.bJ:IR.run zh.t5 C N O K (zh.fr a b d e f i l q v z c g p o s u w y A B D E G H L M P) h nx =
 K (zh.fr a b d e (.int .u64 18446744073709551615) i l q v z c g p o s u w y A B D E G H L M P) h nx:=by kernel_rfl
theorem zh.mg:IR.run zh.t6 C N O K tm h nx=zN zh.r5_0 C ⟨tm,[]⟩ h nx (fun tm h nx=>K tm.v h nx):=xP ..
theorem zh.za1:zN (zh.zf1 r) C ⟨(zh.fr a b d e f i l q v z c g p o s u w y A B D E G H L M P),[]⟩ h nx Kt =
 zi .sub .int e (I 1) fun v1=>zL 1 a v1 fun v2=>zH v2 h fun v3=>zi .sub .int e (I 1) fun v4=>zN r C ⟨(zh.fr a b d e f i l q v z c g p o s u w y A B D E G H L M P),v4::e::b::v3::v2::v1::e::a::[]⟩ h nx Kt:=by kernel_rfl
theorem zh.za2:zN (zh.zf2 r) C ⟨(zh.fr a b d e f i l q v z c g p o s u w y A B D E G H L M P),s0::s1::s2::s3::sT⟩ h nx Kt =
 zL 1 s2 s0 fun v1=>zH v1 h fun v2=>C.fn 300 (.of 300) [s3,v2,(.int .u64 0)] h nx fun v3 h4 n5=>zN r C ⟨(zh.fr a b d e f i l q v z c g p o s u w y A B D E G H L M P),v3::v2::v1::s0::s1::s2::s3::sT⟩ h4 n5 Kt:=by kernel_rfl
theorem zh.zw5:zN (zh.zu5 []) C ⟨(zh.fr a b d e f i l q v z c g p o s u w y A B D E G H L M P),s0::sT⟩ h nx Kt =
 uo 0 s0 fun v1=>uo 1 s0 fun v2=>Kt ⟨(zh.fr a b d e f v1 v2 q v z c g p o s u w y A B D E G H L M P),v2::v1::s0::s0::sT⟩ h nx:=by kernel_rfl
theorem zh.sH:IR.run zh.t8 C N O K tm h nx=zN zh.r6_0 C ⟨tm,[]⟩ h nx (fun tm h nx=>K tm.v h nx):=xP ..
theorem zh.zw6:zN (zh.zu6 r) C ⟨(zh.fr a b d e f i l q v z c g p o s u w y A B D E G H L M P),[]⟩ h nx Kt =
 zL 1 a e fun v1=>zH v1 h fun v2=>zi .sub .int e (I 1) fun v3=>zL 1 a v3 fun v4=>zN r C ⟨(zh.fr a b d e f i l q v z c g p o s u w y A B D E G H L M P),v4::v3::e::a::v2::v1::e::a::[]⟩ h nx Kt:=by kernel_rfl
theorem zh.zw7:zN (zh.zu7 r) C ⟨(zh.fr a b d e f i l q v z c g p o s u w y A B D E G H L M P),s0::s1::s2::s3::s4::sT⟩ h nx Kt =
 zH s0 h fun v1=>zi .sub .int e (I 1) fun v2=>zL 1 b v2 fun v3=>zH v3 h fun v4=>C.fn 288 (.of 288) [s4,v1,v4] h nx fun v5 h6 n7=>zN r C ⟨(zh.fr a b d e f i l q v z c g p o s u w y A B D E G H L M P),v5::v4::v3::v2::e::b::v1::s0::s1::s2::s3::s4::sT⟩ h6 n7 Kt:=by kernel_rfl
theorem zh.zw8:zN (zh.zu8 []) C ⟨(zh.fr a b d e f i l q v z c g p o s u w y A B D E G H L M P),s0::sT⟩ h nx Kt =
 uo 0 s0 fun v1=>uo 1 s0 fun v2=>Kt ⟨(zh.fr a b d e v1 v2 l q v z c g p o s u w y A B D E G H L M P),v2::v1::s0::s0::sT⟩ h nx:=by kernel_rfl
theorem zh.v17:Arg.ev (.t (.of 17)) ⟨(zh.fr a b d e f i l q v z c g p o s u w y A B D E G H L M P),[]⟩=y:=by kernel_rfl
theorem zh.fZ:IR.run zh.t11 C N O K (zh.fr a b d e f i l q v z c g p o s u w y A B D E G H L M P) h nx =
 zi .eql .int l (.int .u64 0) fun v1=>K (zh.fr a b d e f i l q v z c g p o s u w y v1 B D E G H L M P) h nx:=by kernel_rfl
theorem zh.v18:Arg.ev (.t (.of 18)) ⟨(zh.fr a b d e f i l q v z c g p o s u w y A B D E G H L M P),[]⟩=A:=by kernel_rfl
theorem zh.nP:IR.run zh.t14 C N O K (zh.fr a b d e f i l q v z c g p o s u w y A B D E G H L M P) h nx =
 zi .sub .int e (I 2) fun v1=>zL 1 b v1 fun v2=>zH v2 h fun v3=>C.fn 263 (.of 263) [f,v3] h nx fun v4 h5 n6=>uo 0 v4 fun v7=>uo 1 v4 fun v8=>K (zh.fr a b d e f i l v7 v8 z c g p o s u w y A B D E G H L M P) h5 n6:=by kernel_rfl
theorem zh.sJ:IR.run zh.t15 C N O K tm h nx=zN zh.r9_0 C ⟨tm,[]⟩ h nx (fun tm h nx=>K tm.v h nx):=jC ..
theorem zh.zaj:zN (zh.zao r) C ⟨(zh.fr a b d e f i l q v z c g p o s u w y A B D E G H L M P),[]⟩ h nx Kt =
 zi .lss .int q i fun v1=>sG v1 false (fun k=>k q) fun v2=>sG v1 false (fun k=>k i) fun v3=>sG v1 false (fun k=>zi .eql .int v2 v3 k) fun v4=>sG v1 false (fun k=>k v4) fun v5=>zN r C ⟨(zh.fr a b d e f i l q v z c g p o s u w y A B D E G H L M P),v5::v4::v3::v2::v1::v1::i::q::[]⟩ h nx Kt:=by kernel_rfl
theorem zh.aB:zN (zh.zaq r) C ⟨(zh.fr a b d e f i l q v z c g p o s u w y A B D E G H L M P),s0::s1::s2::s3::s4::sT⟩ h nx Kt =
 sG s0 true (fun k=>k v) fun v1=>sG s0 true (fun k=>k a) fun v2=>sG s0 true (fun k=>k e) fun v3=>sG s0 true (fun k=>zi .sub .int v3 (I 2) k) fun v4=>sG s0 true (fun k=>zL 1 v2 v4 k) fun v5=>sG s0 true (fun k=>zH v5 h k) fun v6=>sG s0 true (fun k=>zi .leq .int v1 v6 k) fun v7=>sG s4 false (fun k=>yT s0 v7 (.bool false) k) fun v8=>zN r C ⟨(zh.fr a b d e f i l q v z c g p o s u w y A B D E G H L M P),v8::v7::v6::v5::v4::v3::v2::v1::s0::s1::s2::s3::s4::sT⟩ h nx Kt:=by kernel_rfl
theorem zh.aC:zN (zh.zar []) C ⟨(zh.fr a b d e f i l q v z c g p o s u w y A B D E G H L M P),s0::s1::s2::s3::s4::s5::s6::s7::s8::s9::s10::s11::s12::sT⟩ h nx Kt =
 yT s12 (.bool true) s0 fun v1=>Kt ⟨(zh.fr a b d e f i l q v z c g p o s u w y A v1 D E G H L M P),s0::s1::s2::s3::s4::s5::s6::s7::s8::s9::s10::s11::s12::sT⟩ h nx:=by kernel_rfl
theorem zh.v19:Arg.ev (.t (.of 19)) ⟨(zh.fr a b d e f i l q v z c g p o s u w y A B D E G H L M P),[]⟩=B:=by kernel_rfl
theorem zh.ah:IR.run zh.t18 C N O K (zh.fr a b d e f i l q v z c g p o s u w y A B D E G H L M P) h nx =
 zi .sub .int f (.int .u64 1) fun v1=>K (zh.fr a b d e v1 i l q v z c g p o s u w y A B D E G H L M P) h nx:=by kernel_rfl
theorem zh.sW:IR.run zh.t19 C N O K (zh.fr a b d e f i l q v z c g p o s u w y A B D E G H L M P) h nx =
 zi .sub .int e (I 1) fun v1=>zL 1 b v1 fun v2=>zH v2 h fun v3=>C.fn 300 (.of 300) [i,v3,(.int .u64 0)] h nx fun v4 h5 n6=>uo 0 v4 fun v7=>uo 1 v4 fun v8=>K (zh.fr a b d e f v7 v8 q v z c g p o s u w y A B D E G H L M P) h5 n6:=by kernel_rfl
theorem zh.zmx (Inv:Nat->AV->AV->AV->T Blk->Pa->Prop) {m:Nat} (hm:m<N) (hi:Inv m f i l h nx)
  (step:∀ (m:Nat) (z4 z5 z6 z7 z8 zC zD:AV) (h:T Blk) (nx:Pa) (R:Ks Prop),Inv m z4 z5 z6 h nx->(∀ (m':Nat) (w4 w5 w6 w7 w8 wC wE:AV) (h':T Blk) (nx':Pa),m'<m->Inv m' w4 w5 w6 h' nx'->R (zh.fr a b d e w4 w5 w6 w7 w8 z c g p o s u w y wC wE D E G H L M P) h' nx'=.ok True)->IR.run zh.t24 C N O R (zh.fr a b d e z4 z5 z6 z7 z8 z c g p o s u w y zC zD D E G H L M P) h nx=.ok True) :
  IR.run zh.t25 C N O K (zh.fr a b d e f i l q v z c g p o s u w y A B D E G H L M P) h nx=.ok True:=by
 rw [zh.t25];refine yE (fun m tm h nx=>∃ z4 z5 z6 z7 z8 zC zD,tm=(zh.fr a b d e z4 z5 z6 z7 z8 z c g p o s u w y zC zD D E G H L M P)/\Inv m z4 z5 z6 h nx) ?_ hm ⟨_,_,_,_,_,_,_,rfl,hi⟩;rintro m tm h nx R ⟨z4,z5,z6,z7,z8,zC,zD,rfl,hi⟩ hR;exact step m z4 z5 z6 z7 z8 zC zD h nx R hi fun m' w4 w5 w6 w7 w8 wC wE h' nx' hlt hi'=>hR m' _ h' nx' hlt ⟨_,_,_,_,_,_,_,rfl,hi'⟩
theorem zh.zjv:IR.run zh.t27 C N O K (zh.fr a b d e f i l q v z c g p o s u w y A B D E G H L M P) h nx =
 K (zh.fr a b d e f i l q v (.int .u64 0) (.int .u64 0) g p o s u w y A B D E G H L M P) h nx:=by kernel_rfl
theorem zh.aA:IR.run zh.t28 C N O K (zh.fr a b d e f i l q v z c g p o s u w y A B D E G H L M P) h nx =
 K (zh.fr a b d e f i l q v z c g p o s u w y A B e (I 0) G H L M P) h nx:=by kernel_rfl
theorem zh.zft:IR.run zh.t29 C N O K (zh.fr a b d e f i l q v z c g p o s u w y A B D E G H L M P) h nx =
 zi .lss .int E D fun v1=>K (zh.fr a b d e f i l q v z c g p o s u w y A B D E v1 H L M P) h nx:=by kernel_rfl
theorem zh.v22:Arg.ev (.t (.of 22)) ⟨(zh.fr a b d e f i l q v z c g p o s u w y A B D E G H L M P),[]⟩=G:=by kernel_rfl
theorem zh.zfv:IR.run zh.t31 C N O K (zh.fr a b d e f i l q v z c g p o s u w y A B D E G H L M P) h nx =
 K (zh.fr a b d e f i l q v z c E p o s u w y A B D E G H L M P) h nx:=by kernel_rfl
theorem zh.zm9:IR.run zh.t32 C N O K (zh.fr a b d e f i l q v z c g p o s u w y A B D E G H L M P) h nx =
 zL 1 b g fun v1=>zH v1 h fun v2=>C.fn 263 (.of 263) [f,v2] h nx fun v3 h4 n5=>uo 0 v3 fun v6=>uo 1 v3 fun v7=>K (zh.fr a b d e f i l q v z c g v6 v7 s u w y A B D E G H L M P) h4 n5:=by kernel_rfl
theorem zh.zdf:IR.run zh.t33 C N O K (zh.fr a b d e f i l q v z c g p o s u w y A B D E G H L M P) h nx =
 K (zh.fr a b d e f i l q v z c g p o (.int .u64 0) u w y A B D E G H L M P) h nx:=by kernel_rfl
theorem zh.zam:IR.run zh.t34 C N O K (zh.fr a b d e f i l q v z c g p o s u w y A B D E G H L M P) h nx =
 C.fn 300 (.of 300) [o,c,(.int .u64 0)] h nx fun v1 h2 n3=>uo 0 v1 fun v4=>uo 1 v1 fun v5=>K (zh.fr a b d e f i l q v z c g p v4 v5 u w y A B D E G H L M P) h2 n3:=by kernel_rfl
theorem zh.zna:IR.run zh.t35 C N O K (zh.fr a b d e f i l q v z c g p o s u w y A B D E G H L M P) h nx =
 zi .add .int p s fun v1=>K (zh.fr a b d e f i l q v z v1 g p o s u w y A B D E G H L M P) h nx:=by kernel_rfl
theorem zh.o9:IR.run zh.t36 C N O K tm h nx=zN zh.znb C ⟨tm,[]⟩ h nx (fun tm h nx=>K tm.v h nx):=jC ..
theorem zh.zsc:zN (zh.znc r) C ⟨(zh.fr a b d e f i l q v z c g p o s u w y A B D E G H L M P),[]⟩ h nx Kt =
 zL 1 a g fun v1=>zH v1 h fun v2=>zN r C ⟨(zh.fr a b d e f i l q v z c g p o s u w y A B D E G H L M P),z::o::v2::v1::g::a::g::a::[]⟩ h nx Kt:=by kernel_rfl
theorem zh.zsd:zN (zh.znd r) C ⟨(zh.fr a b d e f i l q v z c g p o s u w y A B D E G H L M P),s0::s1::s2::sT⟩ h nx Kt =
 C.fn 301 (.of 301) [s2,s1,s0] h nx fun v1 h2 n3=>zN r C ⟨(zh.fr a b d e f i l q v z c g p o s u w y A B D E G H L M P),v1::s0::s1::s2::sT⟩ h2 n3 Kt:=by kernel_rfl
theorem zh.zse:zN (zh.zne r) C ⟨(zh.fr a b d e f i l q v z c g p o s u w y A B D E G H L M P),s0::s1::s2::s3::s4::s5::s6::s7::s8::[]⟩ h nx Kt =
 uo 0 s0 fun v1=>uo 1 s0 fun v2=>zL 1 s8 s7 fun v3=>zW 1 v3 v1 h nx fun v4 h5 n6=>zN r C ⟨(zh.fr a b d e f i l q v z c g p o s u w y A B D E G H L M P),v3::v2::v1::s0::s0::s1::s2::s3::s4::s5::s6::s7::s8::[]⟩ h5 n6 Kt:=by kernel_rfl
theorem zh.zsf:zN (zh.znf []) C ⟨(zh.fr a b d e f i l q v z c g p o s u w y A B D E G H L M P),s0::s1::sT⟩ h nx Kt =
 Kt ⟨(zh.fr a b d e f i l q v s1 c g p o s u w y A B D E G H L M P),s0::s1::sT⟩ h nx:=by kernel_rfl
theorem zh.zas:IR.run zh.t43 C N O K (zh.fr a b d e f i l q v z c g p o s u w y A B D E G H L M P) h nx =
 zi .add .int E (I 1) fun v1=>K (zh.fr a b d e f i l q v z c g p o s u w y A B D v1 G H L M P) h nx:=by kernel_rfl
theorem zh.zzg (Inv:Nat->AV->AV->AV->T Blk->Pa->Prop) {m:Nat} (hm:m<N) (hi:Inv m z c E h nx)
  (step:∀ (m:Nat) (z9 zA zB zM zO zF zQ zS:AV) (h:T Blk) (nx:Pa) (R:Ks Prop),Inv m z9 zA zQ h nx->(∀ (m':Nat) (w9 wA wB wJ wK wF wM wN:AV) (h':T Blk) (nx':Pa),m'<m->Inv m' w9 wA wM h' nx'->R (zh.fr a b d e f i l q v w9 wA wB wJ wK wF u w y A B D wM wN H L M P) h' nx'=.ok True)->IR.run zh.t46 C N O R (zh.fr a b d e f i l q v z9 zA zB zM zO zF u w y A B D zQ zS H L M P) h nx=.ok True) :
  IR.run zh.t47 C N O K (zh.fr a b d e f i l q v z c g p o s u w y A B D E G H L M P) h nx=.ok True:=by
 rw [zh.t47];refine yE (fun m tm h nx=>∃ z9 zA zB zM zO zF zQ zS,tm=(zh.fr a b d e f i l q v z9 zA zB zM zO zF u w y A B D zQ zS H L M P)/\Inv m z9 zA zQ h nx) ?_ hm ⟨_,_,_,_,_,_,_,_,rfl,hi⟩;rintro m tm h nx R ⟨z9,zA,zB,zM,zO,zF,zQ,zS,rfl,hi⟩ hR;exact step m z9 zA zB zM zO zF zQ zS h nx R hi fun m' w9 wA wB wJ wK wF wM wN h' nx' hlt hi'=>hR m' _ h' nx' hlt ⟨_,_,_,_,_,_,_,_,rfl,hi'⟩
theorem zh.zf3:IR.run zh.t50 C N O K tm h nx=zN zh.za3 C ⟨tm,[]⟩ h nx (fun tm h nx=>K tm.v h nx):=jC ..
theorem zh.zei:zN (zh.za4 r) C ⟨(zh.fr a b d e f i l q v z c g p o s u w y A B D E G H L M P),[]⟩ h nx Kt =
 zL 1 a e fun v1=>zH v1 h fun v2=>zN r C ⟨(zh.fr a b d e f i l q v z c g p o s u w y A B D E G H L M P),z::c::v2::v1::e::a::e::a::[]⟩ h nx Kt:=by kernel_rfl
theorem zh.zax:zN (zh.za5 r) C ⟨(zh.fr a b d e f i l q v z c g p o s u w y A B D E G H L M P),s0::s1::s2::sT⟩ h nx Kt =
 C.fn 301 (.of 301) [s2,s1,s0] h nx fun v1 h2 n3=>zN r C ⟨(zh.fr a b d e f i l q v z c g p o s u w y A B D E G H L M P),v1::s0::s1::s2::sT⟩ h2 n3 Kt:=by kernel_rfl
theorem zh.zsg:zN (zh.zng r) C ⟨(zh.fr a b d e f i l q v z c g p o s u w y A B D E G H L M P),s0::s1::s2::s3::s4::s5::s6::s7::s8::[]⟩ h nx Kt =
 uo 0 s0 fun v1=>uo 1 s0 fun v2=>zL 1 s8 s7 fun v3=>zW 1 v3 v1 h nx fun v4 h5 n6=>zN r C ⟨(zh.fr a b d e f i l q v z c g p o s u w y A B D E G H L M P),v3::v2::v1::s0::s0::s1::s2::s3::s4::s5::s6::s7::s8::[]⟩ h5 n6 Kt:=by kernel_rfl
theorem zh.zsh:zN (zh.znh []) C ⟨(zh.fr a b d e f i l q v z c g p o s u w y A B D E G H L M P),s0::s1::sT⟩ h nx Kt =
 Kt ⟨(zh.fr a b d e f i l q v s1 c g p o s u w y A B D E G H L M P),s0::s1::sT⟩ h nx:=by kernel_rfl
theorem zh.zf4:IR.run zh.t51 C N O K (zh.fr a b d e f i l q v z c g p o s u w y A B D E G H L M P) h nx =
 zi .eql .int z (.int .u64 0) fun v1=>K (zh.fr a b d e f i l q v z c g p o s u w y A B D E G v1 L M P) h nx:=by kernel_rfl
theorem zh.zzh:IR.run zh.t52 C N O K (zh.fr a b d e f i l q v z c g p o s u w y A B D E G H L M P) h nx =
 K (zh.fr a b f e f i l q v z c g p o s u w y A B D E G H L M P) h nx:=by kernel_rfl
theorem zh.v23:Arg.ev (.t (.of 23)) ⟨(zh.fr a b d e f i l q v z c g p o s u w y A B D E G H L M P),[]⟩=H:=by kernel_rfl
theorem zh.zzi:IR.run zh.t56 C N O K (zh.fr a b d e f i l q v z c g p o s u w y A B D E G H L M P) h nx =
 K (zh.fr a b d e f i l q v z c g p o s (.int .u64 0) w y A B D E G H L M P) h nx:=by kernel_rfl
theorem zh.zjx:IR.run zh.t57 C N O K (zh.fr a b d e f i l q v z c g p o s u w y A B D E G H L M P) h nx =
 K (zh.fr a b d e f i l q v z c g p o s u w y A B D E G H e (I 0) P) h nx:=by kernel_rfl
theorem zh.zzj:IR.run zh.t58 C N O K (zh.fr a b d e f i l q v z c g p o s u w y A B D E G H L M P) h nx =
 zi .lss .int M L fun v1=>K (zh.fr a b d e f i l q v z c g p o s u w y A B D E G H L M v1) h nx:=by kernel_rfl
theorem zh.v26:Arg.ev (.t (.of 26)) ⟨(zh.fr a b d e f i l q v z c g p o s u w y A B D E G H L M P),[]⟩=P:=by kernel_rfl
theorem zh.zf5:IR.run zh.t60 C N O K (zh.fr a b d e f i l q v z c g p o s u w y A B D E G H L M P) h nx =
 K (zh.fr a b d e f i l q v z c g p o s u M y A B D E G H L M P) h nx:=by kernel_rfl
theorem zh.zjy:IR.run zh.t61 C N O K (zh.fr a b d e f i l q v z c g p o s u w y A B D E G H L M P) h nx =
 zL 1 a w fun v1=>zH v1 h fun v2=>zL 1 b w fun v3=>zH v3 h fun v4=>C.fn 300 (.of 300) [v2,v4,u] h nx fun v5 h6 n7=>zV w w (zV a a (uo 0 v5 fun v8=>uo 1 v5 fun v9=>zL 1 a w fun vA=>zW 1 vA v8 h6 n7 fun vB hA nA=>(uo 1 v5 fun vC=>zV vC v9 (K (zh.fr a b d e f i l q v z c g p o s v9 w y A B D E G H L M P) hA nA)))):=by kernel_rfl
theorem zh.zni:IR.run zh.t64 C N O K (zh.fr a b d e f i l q v z c g p o s u w y A B D E G H L M P) h nx =
 zi .add .int M (I 1) fun v1=>K (zh.fr a b d e f i l q v z c g p o s u w y A B D E G H L v1 P) h nx:=by kernel_rfl
theorem zh.zzk (Inv:Nat->AV->AV->T Blk->Pa->Prop) {m:Nat} (hm:m<N) (hi:Inv m u M h nx)
  (step:∀ (m:Nat) (zG zJ zT zU:AV) (h:T Blk) (nx:Pa) (R:Ks Prop),Inv m zG zT h nx->(∀ (m':Nat) (wG wH wO wP:AV) (h':T Blk) (nx':Pa),m'<m->Inv m' wG wO h' nx'->R (zh.fr a b d e f i l q v z c g p o s wG wH y A B D E G H L wO wP) h' nx'=.ok True)->IR.run zh.t67 C N O R (zh.fr a b d e f i l q v z c g p o s zG zJ y A B D E G H L zT zU) h nx=.ok True) :
  IR.run zh.t68 C N O K (zh.fr a b d e f i l q v z c g p o s u w y A B D E G H L M P) h nx=.ok True:=by
 rw [zh.t68];refine yE (fun m tm h nx=>∃ zG zJ zT zU,tm=(zh.fr a b d e f i l q v z c g p o s zG zJ y A B D E G H L zT zU)/\Inv m zG zT h nx) ?_ hm ⟨_,_,_,_,rfl,hi⟩;rintro m tm h nx R ⟨zG,zJ,zT,zU,rfl,hi⟩ hR;exact step m zG zJ zT zU h nx R hi fun m' wG wH wO wP h' nx' hlt hi'=>hR m' _ h' nx' hlt ⟨_,_,_,_,rfl,hi'⟩
theorem zh.znj:IR.run zh.t71 C N O K (zh.fr a b d e f i l q v z c g p o s u w y A B D E G H L M P) h nx =
 zL 1 a e fun v1=>zH v1 h fun v2=>zi .add .int v2 u fun v3=>zL 1 a e fun v4=>zW 1 v4 v3 h nx fun v5 h6 n7=>K (zh.fr a b d e f i l q v z c g p o s u w y A B D E G H L M P) h6 n7:=by kernel_rfl
theorem zh.zf6:IR.run zh.t72 C N O K (zh.fr a b d e f i l q v z c g p o s u w y A B D E G H L M P) h nx =
 zi .sub .int f (.int .u64 1) fun v1=>K (zh.fr a b v1 e f i l q v z c g p o s u w y A B D E G H L M P) h nx:=by kernel_rfl
theorem zh.go:zR tbl N C (.of 292) [a0,a1] h nx K0=IR.run zh.t86 C N (fnO zh.res K0) (yx zh.res K0) (zh.fr a0 a1 .u .u .u .u .u .u .u .u .u .u .u .u .u .u .u .u .u .u .u .u .u .u .u .u .u) h nx:=yZ (F:=zh) (by kernel_rfl) (fun _=>by kernel_rfl) (by kernel_rfl)
theorem zh.ret:yx zh.res K0 (zh.fr a b d e f i l q v z c g p o s u w y A B D E G H L M P) h nx=K0 d h nx:=by kernel_rfl
theorem je.jm:IR.run je.t0 C N O K (je.fr a b d e f i l q v z c) h nx =
 K (je.fr a b .zf e f i l q v z c) h nx:=by kernel_rfl
theorem je.jl:IR.run je.t1 C N O K (je.fr a b d e f i l q v z c) h nx =
 sLen a fun v1=>zi .add .int v1 (I 1) fun v2=>uD 1 8 [(.int .u64 0)] v2 v2 h nx fun v3 h4 n5=>K (je.fr a b d v3 f i l q v z c) h4 n5:=by kernel_rfl
theorem je.qh:IR.run je.t2 C N O K (je.fr a b d e f i l q v z c) h nx =
 sLen a fun v1=>K (je.fr a b d e f i a v1 (I 0) z c) h nx:=by kernel_rfl
theorem je.rC:IR.run je.t3 C N O K (je.fr a b d e f i l q v z c) h nx =
 zi .lss .int v q fun v1=>K (je.fr a b d e f i l q v v1 c) h nx:=by kernel_rfl
theorem je.v9:Arg.ev (.t (.of 9)) ⟨(je.fr a b d e f i l q v z c),[]⟩=z:=by kernel_rfl
theorem je.bJ:IR.run je.t5 C N O K (je.fr a b d e f i l q v z c) h nx =
 zL 1 l v fun v1=>zH v1 h fun v2=>K (je.fr a b d e v v2 l q v z c) h nx:=by kernel_rfl
theorem je.mg:IR.run je.t6 C N O K (je.fr a b d e f i l q v z c) h nx =
 zL 1 e f fun v1=>zH v1 h fun v2=>zi .shl .int i b fun v3=>zi .or .int v2 v3 fun v4=>zL 1 e f fun v5=>zW 1 v5 v4 h nx fun v6 h7 n8=>K (je.fr a b d e f i l q v z c) h7 n8:=by kernel_rfl
theorem je.rq:IR.run je.t7 C N O K (je.fr a b d e f i l q v z c) h nx =
 zi .gtr .int b (I 0) fun v1=>K (je.fr a b d e f i l q v z v1) h nx:=by kernel_rfl
theorem je.sH:IR.run je.t8 C N O K (je.fr a b d e f i l q v z c) h nx =
 zi .add .int f (I 1) fun v1=>zi .sub .int (I 64) b fun v2=>zi .shr .int i v2 fun v3=>zL 1 e v1 fun v4=>zW 1 v4 v3 h nx fun v5 h6 n7=>K (je.fr a b d e f i l q v z c) h6 n7:=by kernel_rfl
theorem je.v10:Arg.ev (.t (.of 10)) ⟨(je.fr a b d e f i l q v z c),[]⟩=c:=by kernel_rfl
theorem je.nP:IR.run je.t14 C N O K (je.fr a b d e f i l q v z c) h nx =
 zi .add .int v (I 1) fun v1=>K (je.fr a b d e f i l q v1 z c) h nx:=by kernel_rfl
theorem je.znk (Inv:Nat->AV->T Blk->Pa->Prop) {m:Nat} (hm:m<N) (hi:Inv m v h nx)
  (step:∀ (m:Nat) (z4 z5 z8 z9 zA:AV) (h:T Blk) (nx:Pa) (R:Ks Prop),Inv m z8 h nx->(∀ (m':Nat) (w4 w5 w8 w9 wA:AV) (h':T Blk) (nx':Pa),m'<m->Inv m' w8 h' nx'->R (je.fr a b d e w4 w5 l q w8 w9 wA) h' nx'=.ok True)->IR.run je.t17 C N O R (je.fr a b d e z4 z5 l q z8 z9 zA) h nx=.ok True) :
  IR.run je.t18 C N O K (je.fr a b d e f i l q v z c) h nx=.ok True:=by
 rw [je.t18];refine yE (fun m tm h nx=>∃ z4 z5 z8 z9 zA,tm=(je.fr a b d e z4 z5 l q z8 z9 zA)/\Inv m z8 h nx) ?_ hm ⟨_,_,_,_,_,rfl,hi⟩;rintro m tm h nx R ⟨z4,z5,z8,z9,zA,rfl,hi⟩ hR;exact step m z4 z5 z8 z9 zA h nx R hi fun m' w4 w5 w8 w9 wA h' nx' hlt hi'=>hR m' _ h' nx' hlt ⟨_,_,_,_,_,rfl,hi'⟩
theorem je.sV:IR.run je.t21 C N O K (je.fr a b d e f i l q v z c) h nx =
 K (je.fr a b e e f i l q v z c) h nx:=by kernel_rfl
theorem je.go:zR tbl N C (.of 291) [a0,a1] h nx K0=IR.run je.t25 C N (fnO je.res K0) (yx je.res K0) (je.fr a0 a1 .u .u .u .u .u .u .u .u .u) h nx:=yZ (F:=je) (by kernel_rfl) (fun _=>by kernel_rfl) (by kernel_rfl)
theorem je.ret:yx je.res K0 (je.fr a b d e f i l q v z c) h nx=K0 d h nx:=by kernel_rfl
theorem zn.jm:IR.run zn.t0 C N O K (zn.fr a b d e f i l q v z c g p o s u w y A B D E) h nx =
 K (zn.fr a b .zf .zf f i l q v z c g p o s u w y A B D E) h nx:=by kernel_rfl
theorem zn.jl:IR.run zn.t1 C N O K (zn.fr a b d e f i l q v z c g p o s u w y A B D E) h nx =
 C.fn 261 (.of 261) [a,b] h nx fun v1 h2 n3=>zi .lss .int v1 (I 0) fun v4=>K (zn.fr a b d e f i l q v z c g p o v4 u w y A B D E) h2 n3:=by kernel_rfl
theorem zn.qh:IR.run zn.t2 C N O K (zn.fr a b d e f i l q v z c g p o s u w y A B D E) h nx =
 K (zn.fr a b .zf a f i l q v z c g p o s u w y A B D E) h nx:=by kernel_rfl
theorem zn.v14:Arg.ev (.t (.of 14)) ⟨(zn.fr a b d e f i l q v z c g p o s u w y A B D E),[]⟩=s:=by kernel_rfl
theorem zn.mg:IR.run zn.t6 C N O K (zn.fr a b d e f i l q v z c g p o s u w y A B D E) h nx =
 sLen b fun v1=>zi .eql .int v1 (I 1) fun v2=>K (zn.fr a b d e f i l q v z c g p o s v2 w y A B D E) h nx:=by kernel_rfl
theorem zn.rq:IR.run zn.t7 C N O K (zn.fr a b d e f i l q v z c g p o s u w y A B D E) h nx =
 sLen a fun v1=>uD 1 8 [(.int .u64 0)] v1 v1 h nx fun v2 h3 n4=>K (zn.fr a b d e v2 i l q v z c g p o s u w y A B D E) h3 n4:=by kernel_rfl
theorem zn.sH:IR.run zn.t8 C N O K (zn.fr a b d e f i l q v z c g p o s u w y A B D E) h nx =
 K (zn.fr a b d e f (.int .u64 0) l q v z c g p o s u w y A B D E) h nx:=by kernel_rfl
theorem zn.ay:IR.run zn.t9 C N O K (zn.fr a b d e f i l q v z c g p o s u w y A B D E) h nx =
 sLen a fun v1=>zi .sub .int v1 (I 1) fun v2=>K (zn.fr a b d e f i v2 q v z c g p o s u w y A B D E) h nx:=by kernel_rfl
theorem zn.rG:IR.run zn.t10 C N O K (zn.fr a b d e f i l q v z c g p o s u w y A B D E) h nx =
 zi .geq .int l (I 0) fun v1=>K (zn.fr a b d e f i l q v z c g p o s u v1 y A B D E) h nx:=by kernel_rfl
theorem zn.v16:Arg.ev (.t (.of 16)) ⟨(zn.fr a b d e f i l q v z c g p o s u w y A B D E),[]⟩=w:=by kernel_rfl
theorem zn.fM:IR.run zn.t13 C N O K (zn.fr a b d e f i l q v z c g p o s u w y A B D E) h nx =
 zL 1 a l fun v1=>zH v1 h fun v2=>zL 1 b (I 0) fun v3=>zH v3 h fun v4=>C.fn 288 (.of 288) [i,v2,v4] h nx fun v5 h6 n7=>zV l l (zV f f (uo 0 v5 fun v8=>uo 1 v5 fun v9=>zL 1 f l fun vA=>zW 1 vA v8 h6 n7 fun vB hA nA=>(uo 1 v5 fun vC=>zV vC v9 (K (zn.fr a b d e f v9 l q v z c g p o s u w y A B D E) hA nA)))):=by kernel_rfl
theorem zn.sJ:IR.run zn.t15 C N O K (zn.fr a b d e f i l q v z c g p o s u w y A B D E) h nx =
 zi .sub .int l (I 1) fun v1=>K (zn.fr a b d e f i v1 q v z c g p o s u w y A B D E) h nx:=by kernel_rfl
theorem zn.znk (Inv:Nat->AV->AV->T Blk->Pa->Prop) {m:Nat} (hm:m<N) (hi:Inv m i l h nx)
  (step:∀ (m:Nat) (z5 z6 zJ:AV) (h:T Blk) (nx:Pa) (R:Ks Prop),Inv m z5 z6 h nx->(∀ (m':Nat) (w5 w6 wH:AV) (h':T Blk) (nx':Pa),m'<m->Inv m' w5 w6 h' nx'->R (zn.fr a b d e f w5 w6 q v z c g p o s u wH y A B D E) h' nx'=.ok True)->IR.run zn.t17 C N O R (zn.fr a b d e f z5 z6 q v z c g p o s u zJ y A B D E) h nx=.ok True) :
  IR.run zn.t18 C N O K (zn.fr a b d e f i l q v z c g p o s u w y A B D E) h nx=.ok True:=by
 rw [zn.t18];refine yE (fun m tm h nx=>∃ z5 z6 zJ,tm=(zn.fr a b d e f z5 z6 q v z c g p o s u zJ y A B D E)/\Inv m z5 z6 h nx) ?_ hm ⟨_,_,_,rfl,hi⟩;rintro m tm h nx R ⟨z5,z6,zJ,rfl,hi⟩ hR;exact step m z5 z6 zJ h nx R hi fun m' w5 w6 wH h' nx' hlt hi'=>hR m' _ h' nx' hlt ⟨_,_,_,rfl,hi'⟩
theorem zn.sV:IR.run zn.t21 C N O K (zn.fr a b d e f i l q v z c g p o s u w y A B D E) h nx =
 C.fn 289 (.of 289) [f] h nx fun v1 h2 n3=>jU 1 1 [(.int .u64 0)] [(0,1,i)] h2 n3 fun v4 h5 n6=>C.fn 289 (.of 289) [v4] h5 n6 fun v7 h8 n9=>K (zn.fr a b v1 v7 f i l q v z c g p o s u w y A B D E) h8 n9:=by kernel_rfl
theorem zn.v15:Arg.ev (.t (.of 15)) ⟨(zn.fr a b d e f i l q v z c g p o s u w y A B D E),[]⟩=u:=by kernel_rfl
theorem zn.aA:IR.run zn.t28 C N O K (zn.fr a b d e f i l q v z c g p o s u w y A B D E) h nx =
 sLen b fun v1=>zi .sub .int v1 (I 1) fun v2=>zL 1 b v2 fun v3=>zH v3 h fun v4=>C.fn 290 (.of 290) [v4] h nx fun v5 h6 n7=>K (zn.fr a b d e f i l v5 v z c g p o s u w y A B D E) h6 n7:=by kernel_rfl
theorem zn.zft:IR.run zn.t29 C N O K (zn.fr a b d e f i l q v z c g p o s u w y A B D E) h nx =
 C.fn 291 (.of 291) [b,q] h nx fun v1 h2 n3=>C.fn 289 (.of 289) [v1] h2 n3 fun v4 h5 n6=>K (zn.fr a b d e f i l q v4 z c g p o s u w y A B D E) h5 n6:=by kernel_rfl
theorem zn.znl:IR.run zn.t30 C N O K (zn.fr a b d e f i l q v z c g p o s u w y A B D E) h nx =
 C.fn 291 (.of 291) [a,q] h nx fun v1 h2 n3=>K (zn.fr a b d e f i l q v v1 c g p o s u w y A B D E) h2 n3:=by kernel_rfl
theorem zn.zfv:IR.run zn.t31 C N O K (zn.fr a b d e f i l q v z c g p o s u w y A B D E) h nx =
 sLen v fun v1=>K (zn.fr a b d e f i l q v z v1 g p o s u w y A B D E) h nx:=by kernel_rfl
theorem zn.zm9:IR.run zn.t32 C N O K (zn.fr a b d e f i l q v z c g p o s u w y A B D E) h nx =
 sLen a fun v1=>zi .sub .int v1 c fun v2=>zi .add .int v2 (I 1) fun v3=>uD 1 8 [(.int .u64 0)] v3 v3 h nx fun v4 h5 n6=>K (zn.fr a b d e f i l q v z c v4 p o s u w y A B D E) h5 n6:=by kernel_rfl
theorem zn.zdf:IR.run zn.t33 C N O K (zn.fr a b d e f i l q v z c g p o s u w y A B D E) h nx =
 sLen a fun v1=>zi .sub .int v1 c fun v2=>K (zn.fr a b d e f i l q v z c g v2 o s u w y A B D E) h nx:=by kernel_rfl
theorem zn.zam:IR.run zn.t34 C N O K (zn.fr a b d e f i l q v z c g p o s u w y A B D E) h nx =
 zi .geq .int p (I 0) fun v1=>K (zn.fr a b d e f i l q v z c g p o s u w v1 A B D E) h nx:=by kernel_rfl
theorem zn.v17:Arg.ev (.t (.of 17)) ⟨(zn.fr a b d e f i l q v z c g p o s u w y A B D E),[]⟩=y:=by kernel_rfl
theorem zn.zfx:IR.run zn.t37 C N O K tm h nx=zN zn.za6 C ⟨tm,[]⟩ h nx (fun tm h nx=>K tm.v h nx):=jC ..
theorem zn.zej:zN (zn.za7 r) C ⟨(zn.fr a b d e f i l q v z c g p o s u w y A B D E),[]⟩ h nx Kt =
 zi .add .int p c fun v1=>zi .add .int v1 (I 1) fun v2=>zN r C ⟨(zn.fr a b d e f i l q v z c g p o s u w y A B D E),v2::v1::c::p::p::z::p::g::[]⟩ h nx Kt:=by kernel_rfl
theorem zn.zay:zN (zn.za8 r) C ⟨(zn.fr a b d e f i l q v z c g p o s u w y A B D E),s0::s1::s2::s3::s4::s5::sT⟩ h nx Kt =
 kZ 1 s5 (some s4) (some s0) none fun v1=>C.fn 292 (.of 292) [v1,v] h nx fun v2 h3 n4=>zN r C ⟨(zn.fr a b d e f i l q v z c g p o s u w y A B D E),v2::v::v1::s0::s1::s2::s3::s4::s5::sT⟩ h3 n4 Kt:=by kernel_rfl
theorem zn.zsi:zN (zn.znm []) C ⟨(zn.fr a b d e f i l q v z c g p o s u w y A B D E),s0::s1::s2::s3::s4::s5::s6::s7::s8::s9::s10::[]⟩ h nx Kt =
 zL 1 s10 s9 fun v1=>zW 1 v1 s0 h nx fun v2 h3 n4=>Kt ⟨(zn.fr a b d e f i l q v z c g p o s u w y A B D E),v1::s0::s1::s2::s3::s4::s5::s6::s7::s8::s9::s10::[]⟩ h3 n4:=by kernel_rfl
theorem zn.zfz:IR.run zn.t39 C N O K (zn.fr a b d e f i l q v z c g p o s u w y A B D E) h nx =
 zi .sub .int p (I 1) fun v1=>K (zn.fr a b d e f i l q v z c g v1 o s u w y A B D E) h nx:=by kernel_rfl
theorem zn.zzl (Inv:Nat->AV->T Blk->Pa->Prop) {m:Nat} (hm:m<N) (hi:Inv m p h nx)
  (step:∀ (m:Nat) (zM zK:AV) (h:T Blk) (nx:Pa) (R:Ks Prop),Inv m zM h nx->(∀ (m':Nat) (wJ wI:AV) (h':T Blk) (nx':Pa),m'<m->Inv m' wJ h' nx'->R (zn.fr a b d e f i l q v z c g wJ o s u w wI A B D E) h' nx'=.ok True)->IR.run zn.t41 C N O R (zn.fr a b d e f i l q v z c g zM o s u w zK A B D E) h nx=.ok True) :
  IR.run zn.t42 C N O K (zn.fr a b d e f i l q v z c g p o s u w y A B D E) h nx=.ok True:=by
 rw [zn.t42];refine yE (fun m tm h nx=>∃ zM zK,tm=(zn.fr a b d e f i l q v z c g zM o s u w zK A B D E)/\Inv m zM h nx) ?_ hm ⟨_,_,rfl,hi⟩;rintro m tm h nx R ⟨zM,zK,rfl,hi⟩ hR;exact step m zM zK h nx R hi fun m' wJ wI h' nx' hlt hi'=>hR m' _ h' nx' hlt ⟨_,_,rfl,hi'⟩
theorem zn.zzm:IR.run zn.t45 C N O K (zn.fr a b d e f i l q v z c g p o s u w y A B D E) h nx =
 K (zn.fr a b d e f i l q v z c g p o s u w y c (I 0) D E) h nx:=by kernel_rfl
theorem zn.zzn:IR.run zn.t46 C N O K (zn.fr a b d e f i l q v z c g p o s u w y A B D E) h nx =
 zi .lss .int B A fun v1=>K (zn.fr a b d e f i l q v z c g p o s u w y A B v1 E) h nx:=by kernel_rfl
theorem zn.v20:Arg.ev (.t (.of 20)) ⟨(zn.fr a b d e f i l q v z c g p o s u w y A B D E),[]⟩=D:=by kernel_rfl
theorem zn.zzo:IR.run zn.t48 C N O K (zn.fr a b d e f i l q v z c g p o s u w y A B D E) h nx =
 K (zn.fr a b d e f i l q v z c g p B s u w y A B D E) h nx:=by kernel_rfl
theorem zn.zf7:IR.run zn.t49 C N O K (zn.fr a b d e f i l q v z c g p o s u w y A B D E) h nx =
 zL 1 z o fun v1=>zH v1 h fun v2=>zi .shr .int v2 q fun v3=>zL 1 z o fun v4=>zW 1 v4 v3 h nx fun v5 h6 n7=>K (zn.fr a b d e f i l q v z c g p o s u w y A B D E) h6 n7:=by kernel_rfl
theorem zn.zf3:IR.run zn.t50 C N O K tm h nx=zN zn.znn C ⟨tm,[]⟩ h nx (fun tm h nx=>K tm.v h nx):=jC ..
theorem zn.zsj:zN (zn.zno r) C ⟨(zn.fr a b d e f i l q v z c g p o s u w y A B D E),[]⟩ h nx Kt =
 zi .gtr .int q (I 0) fun v1=>sG v1 true (fun k=>k o) fun v2=>sG v1 true (fun k=>zi .add .int v2 (I 1) k) fun v3=>sG v1 true (fun k=>k z) fun v4=>sG v1 true (fun k=>sLen v4 k) fun v5=>sG v1 true (fun k=>zi .lss .int v3 v5 k) fun v6=>zN r C ⟨(zn.fr a b d e f i l q v z c g p o s u w y A B D E),v6::v5::v4::v3::v2::v1::v1::q::[]⟩ h nx Kt:=by kernel_rfl
theorem zn.zjz:zN (zn.znp []) C ⟨(zn.fr a b d e f i l q v z c g p o s u w y A B D E),s0::s1::s2::s3::s4::s5::sT⟩ h nx Kt =
 yT s5 s0 (.bool false) fun v1=>Kt ⟨(zn.fr a b d e f i l q v z c g p o s u w y A B D v1),s0::s1::s2::s3::s4::s5::sT⟩ h nx:=by kernel_rfl
theorem zn.zf4:IR.run zn.t51 C N O K tm h nx=zN zn.za9 C ⟨tm,[]⟩ h nx (fun tm h nx=>K tm.v h nx):=xP ..
theorem zn.zek:zN (zn.zba r) C ⟨(zn.fr a b d e f i l q v z c g p o s u w y A B D E),[]⟩ h nx Kt =
 zL 1 z o fun v1=>zH v1 h fun v2=>zi .add .int o (I 1) fun v3=>zL 1 z v3 fun v4=>zN r C ⟨(zn.fr a b d e f i l q v z c g p o s u w y A B D E),v4::v3::o::z::v2::v1::o::z::[]⟩ h nx Kt:=by kernel_rfl
theorem zn.zaa:zN (zn.zbb []) C ⟨(zn.fr a b d e f i l q v z c g p o s u w y A B D E),s0::s1::s2::s3::s4::s5::s6::s7::[]⟩ h nx Kt =
 zH s0 h fun v1=>zi .sub .int (I 64) q fun v2=>zi .shl .int v1 v2 fun v3=>zi .or .int s4 v3 fun v4=>zL 1 s7 s6 fun v5=>zW 1 v5 v4 h nx fun v6 h7 n8=>Kt ⟨(zn.fr a b d e f i l q v z c g p o s u w y A B D E),v5::v4::v3::v2::q::v1::s0::s1::s2::s3::s4::s5::s6::s7::[]⟩ h7 n8:=by kernel_rfl
theorem zn.v21:Arg.ev (.t (.of 21)) ⟨(zn.fr a b d e f i l q v z c g p o s u w y A B D E),[]⟩=E:=by kernel_rfl
theorem zn.zjx:IR.run zn.t57 C N O K (zn.fr a b d e f i l q v z c g p o s u w y A B D E) h nx =
 zi .add .int B (I 1) fun v1=>K (zn.fr a b d e f i l q v z c g p o s u w y A v1 D E) h nx:=by kernel_rfl
theorem zn.zzp (Inv:Nat->AV->T Blk->Pa->Prop) {m:Nat} (hm:m<N) (hi:Inv m B h nx)
  (step:∀ (m:Nat) (zO zD zP zQ:AV) (h:T Blk) (nx:Pa) (R:Ks Prop),Inv m zD h nx->(∀ (m':Nat) (wK wE wL wM:AV) (h':T Blk) (nx':Pa),m'<m->Inv m' wE h' nx'->R (zn.fr a b d e f i l q v z c g p wK s u w y A wE wL wM) h' nx'=.ok True)->IR.run zn.t60 C N O R (zn.fr a b d e f i l q v z c g p zO s u w y A zD zP zQ) h nx=.ok True) :
  IR.run zn.t61 C N O K (zn.fr a b d e f i l q v z c g p o s u w y A B D E) h nx=.ok True:=by
 rw [zn.t61];refine yE (fun m tm h nx=>∃ zO zD zP zQ,tm=(zn.fr a b d e f i l q v z c g p zO s u w y A zD zP zQ)/\Inv m zD h nx) ?_ hm ⟨_,_,_,_,rfl,hi⟩;rintro m tm h nx R ⟨zO,zD,zP,zQ,rfl,hi⟩ hR;exact step m zO zD zP zQ h nx R hi fun m' wK wE wL wM h' nx' hlt hi'=>hR m' _ h' nx' hlt ⟨_,_,_,_,rfl,hi'⟩
theorem zn.zni:IR.run zn.t64 C N O K (zn.fr a b d e f i l q v z c g p o s u w y A B D E) h nx =
 kZ 1 z none (some c) none fun v1=>C.fn 289 (.of 289) [g] h nx fun v2 h3 n4=>(kZ 1 z none (some c) none fun v8=>zV v8 v1 (zV c c (zV z z (C.fn 289 (.of 289) [v1] h3 n4 fun v5 h6 n7=>K (zn.fr a b v2 v5 f i l q v z c g p o s u w y A B D E) h6 n7)))):=by kernel_rfl
theorem zn.go:zR tbl N C (.of 250) [a0,a1] h nx K0=IR.run zn.t75 C N (fnO zn.res K0) (yx zn.res K0) (zn.fr a0 a1 .u .u .u .u .u .u .u .u .u .u .u .u .u .u .u .u .u .u .u .u) h nx:=yZ (F:=zn) (by kernel_rfl) (fun _=>by kernel_rfl) (by kernel_rfl)
theorem zn.ret:yx zn.res K0 (zn.fr a b d e f i l q v z c g p o s u w y A B D E) h nx=K0 (.tup [d,e]) h nx:=by kernel_rfl
theorem uq.jm:IR.run uq.t0 C N O K (uq.fr a b d e f i) h nx =
 ql a h nx fun v1 h2 n3=>K (uq.fr a v1 (.bool false) .zf f i) h2 n3:=by kernel_rfl
theorem uq.jl:IR.run uq.t1 C N O K (uq.fr a b d e f i) h nx =
 zI 1 b fun v1=>zH v1 h fun v2=>zi .neq (.nil .sl) v2 .zf fun v3=>K (uq.fr a b d e v3 i) h nx:=by kernel_rfl
theorem uq.qh:IR.run uq.t2 C N O K (uq.fr a b d e f i) h nx =
 zI 0 b fun v1=>zH v1 h fun v2=>zi .lss .int v2 (I 0) fun v3=>zI 1 b fun v4=>zH v4 h fun v5=>K (uq.fr a b v3 v5 f i) h nx:=by kernel_rfl
theorem uq.rD:IR.run uq.t4 C N O K (uq.fr a b d e f i) h nx =
 zI 0 b fun v1=>zH v1 h fun v2=>zi .eql .int v2 (I 0) fun v3=>K (uq.fr a b d e f v3) h nx:=by kernel_rfl
theorem uq.bJ:IR.run uq.t5 C N O K (uq.fr a b d e f i) h nx =
 K (uq.fr a b (.bool false) .zf f i) h nx:=by kernel_rfl
theorem uq.v5:Arg.ev (.t (.of 5)) ⟨(uq.fr a b d e f i),[]⟩=i:=by kernel_rfl
theorem uq.v4:Arg.ev (.t (.of 4)) ⟨(uq.fr a b d e f i),[]⟩=f:=by kernel_rfl
theorem uq.ng:IR.run uq.t12 C N O K (uq.fr a b d e f i) h nx =
 zI 0 b fun v1=>zH v1 h fun v2=>zi .lss .int v2 (I 0) fun v3=>zI 0 b fun v4=>zH v4 h fun v5=>C.fn 264 (.of 264) [v5] h nx fun v6 h7 n8=>(zi .lss .int v2 (I 0) fun vD=>zV vD v3 ((zH v1 h7 fun vE=>zV vE v2 ((zI 0 b fun vG=>zV vG v1 (jU 1 1 [(.int .u64 0)] [(0,1,v6)] h7 n8 fun v9 hB nB=>zV v3 v3 ((zi .lss .int v2 (I 0) fun vC=>zV vC v3 ((zH v1 hB fun vH=>zV vH v2 ((zI 0 b fun vI=>zV vI v1 (K (uq.fr a b v3 v9 f i) hB nB))))))))))))):=by kernel_rfl
theorem uq.go:zR tbl N C (.of 249) [a0] h nx K0=IR.run uq.t15 C N (fnO uq.res K0) (yx uq.res K0) (uq.fr a0 .u .u .u .u .u) h nx:=yZ (F:=uq) (by kernel_rfl) (fun _=>by kernel_rfl) (by kernel_rfl)
theorem uq.ret:yx uq.res K0 (uq.fr a b d e f i) h nx=K0 (.tup [d,e]) h nx:=by kernel_rfl
theorem yw.jm:IR.run yw.t0 C N O K (yw.fr a b d e f i l) h nx =
 yV [(I 0),.zf] h nx fun v1 h2 n3=>K (yw.fr a b v1 e f i l) h2 n3:=by kernel_rfl
theorem yw.jl:IR.run yw.t1 C N O K (yw.fr a b d e f i l) h nx =
 sLen b fun v1=>zi .eql .int v1 (I 0) fun v2=>K (yw.fr a b d v2 f i l) h nx:=by kernel_rfl
theorem yw.qh:IR.run yw.t2 C N O K (yw.fr a b d e f i l) h nx =
 gC [(I 0),.zf] [] fun v1=>zW 2 d v1 h nx fun v2 h3 n4=>K (yw.fr a b d e f i l) h3 n4:=by kernel_rfl
theorem yw.rD:IR.run yw.t4 C N O K tm h nx=zN yw.r3_0 C ⟨tm,[]⟩ h nx (fun tm h nx=>K tm.v h nx):=jC ..
theorem yw.zw9:zN (yw.zu9 r) C ⟨(yw.fr a b d e f i l),[]⟩ h nx Kt =
 sLen b fun v1=>zi .eql .int v1 (I 1) fun v2=>sG v2 true (fun k=>k b) fun v3=>sG v2 true (fun k=>zL 1 v3 (I 0) k) fun v4=>sG v2 true (fun k=>zH v4 h k) fun v5=>sG v2 true (fun k=>zi .leq .int v5 (.int .u64 9223372036854775807) k) fun v6=>zN r C ⟨(yw.fr a b d e f i l),v6::v5::v4::v3::v2::v2::v1::b::[]⟩ h nx Kt:=by kernel_rfl
theorem yw.znq:zN (yw.zva []) C ⟨(yw.fr a b d e f i l),s0::s1::s2::s3::s4::sT⟩ h nx Kt =
 yT s4 s0 (.bool false) fun v1=>sG v1 true (fun k=>k a) fun v2=>yT v1 v2 (.bool false) fun v3=>Kt ⟨(yw.fr a b d e v3 i l),v3::v2::v1::v1::s0::s1::s2::s3::s4::sT⟩ h nx:=by kernel_rfl
theorem yw.bJ:IR.run yw.t5 C N O K (yw.fr a b d e f i l) h nx =
 zL 1 b (I 0) fun v1=>zH v1 h fun v2=>wD .i64 v2 fun v3=>sNeg v3 fun v4=>gC [(I 0),.zf] [(0,1,v4)] fun v5=>zW 2 d v5 h nx fun v6 h7 n8=>K (yw.fr a b d e f i l) h7 n8:=by kernel_rfl
theorem yw.rq:IR.run yw.t7 C N O K tm h nx=zN yw.r5_0 C ⟨tm,[]⟩ h nx (fun tm h nx=>K tm.v h nx):=jC ..
theorem yw.za1:zN (yw.zf1 r) C ⟨(yw.fr a b d e f i l),[]⟩ h nx Kt =
 sLen b fun v1=>zi .eql .int v1 (I 1) fun v2=>sG v2 true (fun k=>k b) fun v3=>sG v2 true (fun k=>zL 1 v3 (I 0) k) fun v4=>sG v2 true (fun k=>zH v4 h k) fun v5=>sG v2 true (fun k=>zi .leq .int v5 (.int .u64 9223372036854775807) k) fun v6=>zN r C ⟨(yw.fr a b d e f i l),v6::v5::v4::v3::v2::v2::v1::b::[]⟩ h nx Kt:=by kernel_rfl
theorem yw.za2:zN (yw.zf2 []) C ⟨(yw.fr a b d e f i l),s0::s1::s2::s3::s4::sT⟩ h nx Kt =
 yT s4 s0 (.bool false) fun v1=>Kt ⟨(yw.fr a b d e f v1 l),v1::s0::s1::s2::s3::s4::sT⟩ h nx:=by kernel_rfl
theorem yw.sH:IR.run yw.t8 C N O K (yw.fr a b d e f i l) h nx =
 zL 1 b (I 0) fun v1=>zH v1 h fun v2=>wD .i64 v2 fun v3=>gC [(I 0),.zf] [(0,1,v3)] fun v4=>zW 2 d v4 h nx fun v5 h6 n7=>K (yw.fr a b d e f i l) h6 n7:=by kernel_rfl
theorem yw.rG:IR.run yw.t10 C N O K (yw.fr a b d e f i l) h nx =
 K (yw.fr a b d e f i a) h nx:=by kernel_rfl
theorem yw.fZ:IR.run yw.t11 C N O K (yw.fr a b d e f i l) h nx =
 gC [(I 0),.zf] [(0,1,(I (-1))),(1,1,b)] fun v1=>zW 2 d v1 h nx fun v2 h3 n4=>K (yw.fr a b d e f i l) h3 n4:=by kernel_rfl
theorem yw.v6:Arg.ev (.t (.of 6)) ⟨(yw.fr a b d e f i l),[]⟩=l:=by kernel_rfl
theorem yw.v5:Arg.ev (.t (.of 5)) ⟨(yw.fr a b d e f i l),[]⟩=i:=by kernel_rfl
theorem yw.v4:Arg.ev (.t (.of 4)) ⟨(yw.fr a b d e f i l),[]⟩=f:=by kernel_rfl
theorem yw.v3:Arg.ev (.t (.of 3)) ⟨(yw.fr a b d e f i l),[]⟩=e:=by kernel_rfl
theorem yw.aZ:IR.run yw.t22 C N O K (yw.fr a b d e f i l) h nx =
 gC [(I 0),.zf] [(0,1,(I 1)),(1,1,b)] fun v1=>zW 2 d v1 h nx fun v2 h3 n4=>K (yw.fr a b d e f i l) h3 n4:=by kernel_rfl
theorem yw.go:zR tbl N C (.of 257) [a0,a1] h nx K0=IR.run yw.t25 C N (fnO yw.res K0) (yx yw.res K0) (yw.fr a0 a1 .u .u .u .u .u) h nx:=yZ (F:=yw) (by kernel_rfl) (fun _=>by kernel_rfl) (by kernel_rfl)
theorem yw.ret:yx yw.res K0 (yw.fr a b d e f i l) h nx=zE 2 d h fun v1=>K0 v1 h nx:=by kernel_rfl
theorem bT.jm:IR.run bT.t0 C N O K (bT.fr a b) h nx =
 yV [(I 0),.zf] h nx fun v1 h2 n3=>K (bT.fr a v1) h2 n3:=by kernel_rfl
theorem bT.jl:IR.run bT.t1 C N O K (bT.fr a b) h nx =
 gC [(I 0),.zf] [(0,1,a)] fun v1=>zW 2 b v1 h nx fun v2 h3 n4=>K (bT.fr a b) h3 n4:=by kernel_rfl
theorem bT.go:zR tbl N C (.of 187) [a0] h nx K0=IR.run bT.t3 C N (fnO bT.res K0) (yx bT.res K0) (bT.fr a0 .u) h nx:=yZ (F:=bT) (by kernel_rfl) (fun _=>by kernel_rfl) (by kernel_rfl)
theorem bT.ret:yx bT.res K0 (bT.fr a b) h nx=zE 2 b h fun v1=>K0 v1 h nx:=by kernel_rfl
theorem bU.jm:IR.run bU.t0 C N O K (bU.fr a b d) h nx =
 ql a h nx fun v1 h2 n3=>K (bU.fr a v1 (I 0)) h2 n3:=by kernel_rfl
theorem bU.jl:IR.run bU.t1 C N O K (bU.fr a b d) h nx =
 zI 0 b fun v1=>zH v1 h fun v2=>sMin false (I 1) [v2] fun v3=>sMin true (I (-1)) [v3] fun v4=>K (bU.fr a b v4) h nx:=by kernel_rfl
theorem bU.go:zR tbl N C (.of 194) [a0] h nx K0=IR.run bU.t3 C N (fnO bU.res K0) (yx bU.res K0) (bU.fr a0 .u .u) h nx:=yZ (F:=bU) (by kernel_rfl) (fun _=>by kernel_rfl) (by kernel_rfl)
theorem bU.ret:yx bU.res K0 (bU.fr a b d) h nx=K0 d h nx:=by kernel_rfl
theorem ku.jm:IR.run ku.t0 C N O K (ku.fr a b d e f i) h nx =
 ql a h nx fun v1 h2 n3=>yV [(I 0),.zf] h2 n3 fun v4 h5 n6=>K (ku.fr a v1 v4 e f i) h5 n6:=by kernel_rfl
theorem ku.jl:IR.run ku.t1 C N O K (ku.fr a b d e f i) h nx =
 zI 1 b fun v1=>zH v1 h fun v2=>zi .eql (.nil .sl) v2 .zf fun v3=>sG v3 true (fun k=>zI 0 b k) fun v4=>sG v3 true (fun k=>zH v4 h k) fun v5=>sG v3 true (fun k=>zi .neq .int v5 (I (-9223372036854775808)) k) fun v6=>yT v3 v6 (.bool false) fun v7=>K (ku.fr a b d e f v7) h nx:=by kernel_rfl
theorem ku.qh:IR.run ku.t2 C N O K (ku.fr a b d e f i) h nx =
 zI 0 b fun v1=>zH v1 h fun v2=>sNeg v2 fun v3=>gC [(I 0),.zf] [(0,1,v3)] fun v4=>zW 2 d v4 h nx fun v5 h6 n7=>K (ku.fr a b d e f i) h6 n7:=by kernel_rfl
theorem ku.v5:Arg.ev (.t (.of 5)) ⟨(ku.fr a b d e f i),[]⟩=i:=by kernel_rfl
theorem ku.mg:IR.run ku.t6 C N O K (ku.fr a b d e f i) h nx =
 zE 2 b h fun v1=>C.fn 249 (.of 249) [v1] h nx fun v2 h3 n4=>uo 0 v2 fun v5=>uo 1 v2 fun v6=>K (ku.fr a b d v5 v6 i) h3 n4:=by kernel_rfl
theorem ku.rq:IR.run ku.t7 C N O K (ku.fr a b d e f i) h nx =
 aG e fun v1=>C.fn 257 (.of 257) [v1,f] h nx fun v2 h3 n4=>zW 2 d v2 h3 n4 fun v5 h6 n7=>K (ku.fr a b d e f i) h6 n7:=by kernel_rfl
theorem ku.go:zR tbl N C (.of 193) [a0] h nx K0=IR.run ku.t11 C N (fnO ku.res K0) (yx ku.res K0) (ku.fr a0 .u .u .u .u .u) h nx:=yZ (F:=ku) (by kernel_rfl) (fun _=>by kernel_rfl) (by kernel_rfl)
theorem ku.ret:yx ku.res K0 (ku.fr a b d e f i) h nx=zE 2 d h fun v1=>K0 v1 h nx:=by kernel_rfl
theorem jc.jm:IR.run jc.t0 C N O K (jc.fr a b d e f i l q v z c g p o) h nx =
 ql a h nx fun v1 h2 n3=>ql b h2 n3 fun v4 h5 n6=>yV [(I 0),.zf] h5 n6 fun v7 h8 n9=>K (jc.fr a b v1 v4 v7 i l q v z c g p o) h8 n9:=by kernel_rfl
theorem jc.jl:IR.run jc.t1 C N O K (jc.fr a b d e f i l q v z c g p o) h nx =
 zI 1 d fun v1=>zH v1 h fun v2=>zi .eql (.nil .sl) v2 .zf fun v3=>sG v3 true (fun k=>zI 1 e k) fun v4=>sG v3 true (fun k=>zH v4 h k) fun v5=>sG v3 true (fun k=>zi .eql (.nil .sl) v5 .zf k) fun v6=>yT v3 v6 (.bool false) fun v7=>K (jc.fr a b d e f i l q v z v7 g p o) h nx:=by kernel_rfl
theorem jc.qh:IR.run jc.t2 C N O K (jc.fr a b d e f i l q v z c g p o) h nx =
 zI 0 d fun v1=>zH v1 h fun v2=>zI 0 e fun v3=>zH v3 h fun v4=>zi .add .int v2 v4 fun v5=>K (jc.fr a b d e f v5 l q v z c g p o) h nx:=by kernel_rfl
theorem jc.rC:IR.run jc.t3 C N O K (jc.fr a b d e f i l q v z c g p o) h nx =
 zI 0 d fun v1=>zH v1 h fun v2=>zi .gtr .int i v2 fun v3=>zI 0 e fun v4=>zH v4 h fun v5=>zi .gtr .int v5 (I 0) fun v6=>zi .eql .bool v3 v6 fun v7=>K (jc.fr a b d e f i l q v z c v7 p o) h nx:=by kernel_rfl
theorem jc.rD:IR.run jc.t4 C N O K (jc.fr a b d e f i l q v z c g p o) h nx =
 gC [(I 0),.zf] [(0,1,i)] fun v1=>zW 2 f v1 h nx fun v2 h3 n4=>K (jc.fr a b d e f i l q v z c g p o) h3 n4:=by kernel_rfl
theorem jc.v11:Arg.ev (.t (.of 11)) ⟨(jc.fr a b d e f i l q v z c g p o),[]⟩=g:=by kernel_rfl
theorem jc.v10:Arg.ev (.t (.of 10)) ⟨(jc.fr a b d e f i l q v z c g p o),[]⟩=c:=by kernel_rfl
theorem jc.fZ:IR.run jc.t11 C N O K (jc.fr a b d e f i l q v z c g p o) h nx =
 zE 2 d h fun v1=>C.fn 249 (.of 249) [v1] h nx fun v2 h3 n4=>uo 0 v2 fun v5=>uo 1 v2 fun v6=>K (jc.fr a b d e f i v5 v6 v z c g p o) h3 n4:=by kernel_rfl
theorem jc.ng:IR.run jc.t12 C N O K (jc.fr a b d e f i l q v z c g p o) h nx =
 zE 2 e h fun v1=>C.fn 249 (.of 249) [v1] h nx fun v2 h3 n4=>uo 0 v2 fun v5=>uo 1 v2 fun v6=>K (jc.fr a b d e f i l q v5 v6 c g p o) h3 n4:=by kernel_rfl
theorem jc.fM:IR.run jc.t13 C N O K (jc.fr a b d e f i l q v z c g p o) h nx =
 zi .eql .bool l v fun v1=>K (jc.fr a b d e f i l q v z c g v1 o) h nx:=by kernel_rfl
theorem jc.nP:IR.run jc.t14 C N O K (jc.fr a b d e f i l q v z c g p o) h nx =
 C.fn 260 (.of 260) [q,z] h nx fun v1 h2 n3=>C.fn 257 (.of 257) [l,v1] h2 n3 fun v4 h5 n6=>zW 2 f v4 h5 n6 fun v7 h8 n9=>K (jc.fr a b d e f i l q v z c g p o) h8 n9:=by kernel_rfl
theorem jc.ru:IR.run jc.t16 C N O K (jc.fr a b d e f i l q v z c g p o) h nx =
 C.fn 261 (.of 261) [q,z] h nx fun v1 h2 n3=>zi .geq .int v1 (I 0) fun v4=>K (jc.fr a b d e f i l q v z c g p v4) h2 n3:=by kernel_rfl
theorem jc.rV:IR.run jc.t17 C N O K (jc.fr a b d e f i l q v z c g p o) h nx =
 C.fn 262 (.of 262) [q,z] h nx fun v1 h2 n3=>C.fn 257 (.of 257) [l,v1] h2 n3 fun v4 h5 n6=>zW 2 f v4 h5 n6 fun v7 h8 n9=>K (jc.fr a b d e f i l q v z c g p o) h8 n9:=by kernel_rfl
theorem jc.v13:Arg.ev (.t (.of 13)) ⟨(jc.fr a b d e f i l q v z c g p o),[]⟩=o:=by kernel_rfl
theorem jc.v12:Arg.ev (.t (.of 12)) ⟨(jc.fr a b d e f i l q v z c g p o),[]⟩=p:=by kernel_rfl
theorem jc.aF:IR.run jc.t24 C N O K (jc.fr a b d e f i l q v z c g p o) h nx =
 C.fn 262 (.of 262) [z,q] h nx fun v1 h2 n3=>C.fn 257 (.of 257) [v,v1] h2 n3 fun v4 h5 n6=>zW 2 f v4 h5 n6 fun v7 h8 n9=>K (jc.fr a b d e f i l q v z c g p o) h8 n9:=by kernel_rfl
theorem jc.go:zR tbl N C (.of 197) [a0,a1] h nx K0=IR.run jc.t30 C N (fnO jc.res K0) (yx jc.res K0) (jc.fr a0 a1 .u .u .u .u .u .u .u .u .u .u .u .u) h nx:=yZ (F:=jc) (by kernel_rfl) (fun _=>by kernel_rfl) (by kernel_rfl)
theorem jc.ret:yx jc.res K0 (jc.fr a b d e f i l q v z c g p o) h nx=zE 2 f h fun v1=>K0 v1 h nx:=by kernel_rfl
theorem bV.jm:IR.run bV.t0 C N O K (bV.fr a b d e f) h nx =
 ql a h nx fun v1 h2 n3=>ql b h2 n3 fun v4 h5 n6=>yV [(I 0),.zf] h5 n6 fun v7 h8 n9=>K (bV.fr a b v1 v4 v7) h8 n9:=by kernel_rfl
theorem bV.jl:IR.run bV.t1 C N O K (bV.fr a b d e f) h nx =
 zE 2 d h fun v1=>zE 2 e h fun v2=>C.fn 193 (.of 193) [v2] h nx fun v3 h4 n5=>(zE 2 d h4 fun vI=>zV vI v1 (C.fn 197 (.of 197) [v1,v3] h4 n5 fun v6 h7 n8=>zW 2 f v6 h7 n8 fun v9 hB nB=>K (bV.fr a b d e f) hB nB)):=by kernel_rfl
theorem bV.go:zR tbl N C (.of 266) [a0,a1] h nx K0=IR.run bV.t3 C N (fnO bV.res K0) (yx bV.res K0) (bV.fr a0 a1 .u .u .u) h nx:=yZ (F:=bV) (by kernel_rfl) (fun _=>by kernel_rfl) (by kernel_rfl)
theorem bV.ret:yx bV.res K0 (bV.fr a b d e f) h nx=zE 2 f h fun v1=>K0 v1 h nx:=by kernel_rfl
theorem jf.jm:IR.run jf.t0 C N O K (jf.fr a b d e f i l q v z c g p o) h nx =
 ql a h nx fun v1 h2 n3=>ql b h2 n3 fun v4 h5 n6=>yV [(I 0),.zf] h5 n6 fun v7 h8 n9=>K (jf.fr a b v1 v4 v7 i l q v z c g p o) h8 n9:=by kernel_rfl
theorem jf.jl:IR.run jf.t1 C N O K (jf.fr a b d e f i l q v z c g p o) h nx =
 zI 1 d fun v1=>zH v1 h fun v2=>zi .eql (.nil .sl) v2 .zf fun v3=>sG v3 true (fun k=>zI 1 e k) fun v4=>sG v3 true (fun k=>zH v4 h k) fun v5=>sG v3 true (fun k=>zi .eql (.nil .sl) v5 .zf k) fun v6=>yT v3 v6 (.bool false) fun v7=>K (jf.fr a b d e f i l q v z c v7 p o) h nx:=by kernel_rfl
theorem jf.qh:IR.run jf.t2 C N O K (jf.fr a b d e f i l q v z c g p o) h nx =
 zI 0 d fun v1=>zH v1 h fun v2=>zI 0 e fun v3=>zH v3 h fun v4=>C.fn 264 (.of 264) [v2] h nx fun v5 h6 n7=>(zH v3 h6 fun vD=>zV vD v4 ((zI 0 e fun vE=>zV vE v3 (C.fn 264 (.of 264) [v4] h6 n7 fun v8 h9 nC=>C.fn 263 (.of 263) [v5,v8] h9 nC fun vB hA nA=>uo 0 vB fun vC=>uo 1 vB fun vG=>K (jf.fr a b d e f vC vG q v z c g p o) hA nA)))):=by kernel_rfl
theorem jf.rC:IR.run jf.t3 C N O K (jf.fr a b d e f i l q v z c g p o) h nx =
 zi .eql .int i (.int .u64 0) fun v1=>sG v1 true (fun k=>k l) fun v2=>sG v1 true (fun k=>zi .leq .int v2 (.int .u64 9223372036854775807) k) fun v3=>yT v1 v3 (.bool false) fun v4=>K (jf.fr a b d e f i l q v z c g v4 o) h nx:=by kernel_rfl
theorem jf.rD:IR.run jf.t4 C N O K (jf.fr a b d e f i l q v z c g p o) h nx =
 zI 0 d fun v1=>zH v1 h fun v2=>zi .lss .int v2 (I 0) fun v3=>zI 0 e fun v4=>zH v4 h fun v5=>zi .lss .int v5 (I 0) fun v6=>zi .neq .bool v3 v6 fun v7=>K (jf.fr a b d e f i l q v z c g p v7) h nx:=by kernel_rfl
theorem jf.bJ:IR.run jf.t5 C N O K (jf.fr a b d e f i l q v z c g p o) h nx =
 wD .i64 l fun v1=>sNeg v1 fun v2=>gC [(I 0),.zf] [(0,1,v2)] fun v3=>zW 2 f v3 h nx fun v4 h5 n6=>K (jf.fr a b d e f i l q v z c g p o) h5 n6:=by kernel_rfl
theorem jf.v13:Arg.ev (.t (.of 13)) ⟨(jf.fr a b d e f i l q v z c g p o),[]⟩=o:=by kernel_rfl
theorem jf.ay:IR.run jf.t9 C N O K (jf.fr a b d e f i l q v z c g p o) h nx =
 wD .i64 l fun v1=>gC [(I 0),.zf] [(0,1,v1)] fun v2=>zW 2 f v2 h nx fun v3 h4 n5=>K (jf.fr a b d e f i l q v z c g p o) h4 n5:=by kernel_rfl
theorem jf.v12:Arg.ev (.t (.of 12)) ⟨(jf.fr a b d e f i l q v z c g p o),[]⟩=p:=by kernel_rfl
theorem jf.v11:Arg.ev (.t (.of 11)) ⟨(jf.fr a b d e f i l q v z c g p o),[]⟩=g:=by kernel_rfl
theorem jf.rV:IR.run jf.t17 C N O K (jf.fr a b d e f i l q v z c g p o) h nx =
 zE 2 d h fun v1=>C.fn 249 (.of 249) [v1] h nx fun v2 h3 n4=>uo 0 v2 fun v5=>uo 1 v2 fun v6=>K (jf.fr a b d e f i l v5 v6 z c g p o) h3 n4:=by kernel_rfl
theorem jf.ah:IR.run jf.t18 C N O K (jf.fr a b d e f i l q v z c g p o) h nx =
 zE 2 e h fun v1=>C.fn 249 (.of 249) [v1] h nx fun v2 h3 n4=>uo 0 v2 fun v5=>uo 1 v2 fun v6=>K (jf.fr a b d e f i l q v v5 v6 g p o) h3 n4:=by kernel_rfl
theorem jf.sW:IR.run jf.t19 C N O K (jf.fr a b d e f i l q v z c g p o) h nx =
 zi .neq .bool q z fun v1=>C.fn 265 (.of 265) [v,c] h nx fun v2 h3 n4=>C.fn 257 (.of 257) [v1,v2] h3 n4 fun v5 h6 n7=>zW 2 f v5 h6 n7 fun v8 h9 nC=>K (jf.fr a b d e f i l q v z c g p o) h9 nC:=by kernel_rfl
theorem jf.go:zR tbl N C (.of 198) [a0,a1] h nx K0=IR.run jf.t24 C N (fnO jf.res K0) (yx jf.res K0) (jf.fr a0 a1 .u .u .u .u .u .u .u .u .u .u .u .u) h nx:=yZ (F:=jf) (by kernel_rfl) (fun _=>by kernel_rfl) (by kernel_rfl)
theorem jf.ret:yx jf.res K0 (jf.fr a b d e f i l q v z c g p o) h nx=zE 2 f h fun v1=>K0 v1 h nx:=by kernel_rfl
theorem jo.jm:IR.run jo.t0 C N O K (jo.fr a b d e f i l q) h nx =
 ql a h nx fun v1 h2 n3=>ql b h2 n3 fun v4 h5 n6=>K (jo.fr a b v1 v4 (I 0) i l q) h5 n6:=by kernel_rfl
theorem jo.jl:IR.run jo.t1 C N O K (jo.fr a b d e f i l q) h nx =
 zI 1 d fun v1=>zH v1 h fun v2=>zi .eql (.nil .sl) v2 .zf fun v3=>sG v3 true (fun k=>zI 1 e k) fun v4=>sG v3 true (fun k=>zH v4 h k) fun v5=>sG v3 true (fun k=>zi .eql (.nil .sl) v5 .zf k) fun v6=>yT v3 v6 (.bool false) fun v7=>K (jo.fr a b d e f v7 l q) h nx:=by kernel_rfl
theorem jo.qh:IR.run jo.t2 C N O K (jo.fr a b d e f i l q) h nx =
 zI 0 d fun v1=>zH v1 h fun v2=>zI 0 e fun v3=>zH v3 h fun v4=>zi .lss .int v2 v4 fun v5=>K (jo.fr a b d e f i v5 q) h nx:=by kernel_rfl
theorem jo.rC:IR.run jo.t3 C N O K (jo.fr a b d e f i l q) h nx =
 K (jo.fr a b d e (I (-1)) i l q) h nx:=by kernel_rfl
theorem jo.bJ:IR.run jo.t5 C N O K (jo.fr a b d e f i l q) h nx =
 zI 0 d fun v1=>zH v1 h fun v2=>zI 0 e fun v3=>zH v3 h fun v4=>zi .gtr .int v2 v4 fun v5=>K (jo.fr a b d e f i l v5) h nx:=by kernel_rfl
theorem jo.mg:IR.run jo.t6 C N O K (jo.fr a b d e f i l q) h nx =
 K (jo.fr a b d e (I 1) i l q) h nx:=by kernel_rfl
theorem jo.v7:Arg.ev (.t (.of 7)) ⟨(jo.fr a b d e f i l q),[]⟩=q:=by kernel_rfl
theorem jo.v6:Arg.ev (.t (.of 6)) ⟨(jo.fr a b d e f i l q),[]⟩=l:=by kernel_rfl
theorem jo.fM:IR.run jo.t13 C N O K (jo.fr a b d e f i l q) h nx =
 K (jo.fr a b d e (I 0) i l q) h nx:=by kernel_rfl
theorem jo.v5:Arg.ev (.t (.of 5)) ⟨(jo.fr a b d e f i l q),[]⟩=i:=by kernel_rfl
theorem jo.ah:IR.run jo.t18 C N O K (jo.fr a b d e f i l q) h nx =
 zE 2 d h fun v1=>zE 2 e h fun v2=>C.fn 266 (.of 266) [v1,v2] h nx fun v3 h4 n5=>C.fn 194 (.of 194) [v3] h4 n5 fun v6 h7 n8=>K (jo.fr a b d e v6 i l q) h7 n8:=by kernel_rfl
theorem jo.go:zR tbl N C (.of 229) [a0,a1] h nx K0=IR.run jo.t21 C N (fnO jo.res K0) (yx jo.res K0) (jo.fr a0 a1 .u .u .u .u .u .u) h nx:=yZ (F:=jo) (by kernel_rfl) (fun _=>by kernel_rfl) (by kernel_rfl)
theorem jo.ret:yx jo.res K0 (jo.fr a b d e f i l q) h nx=K0 f h nx:=by kernel_rfl
theorem yt.jm:IR.run yt.t0 C N O K (yt.fr a b d e f i l q v z c g p o s u w y) h nx =
 ql a h nx fun v1 h2 n3=>ql b h2 n3 fun v4 h5 n6=>yV [(I 0),.zf] h5 n6 fun v7 h8 n9=>yV [(I 0),.zf] h8 n9 fun vA hC nD=>K (yt.fr a b v1 v4 v7 vA l q v z c g p o s u w y) hC nD:=by kernel_rfl
theorem yt.jl:IR.run yt.t1 C N O K tm h nx=zN yt.eF C ⟨tm,[]⟩ h nx (fun tm h nx=>K tm.v h nx):=jC ..
theorem yt.eG:zN (yt.aH r) C ⟨(yt.fr a b d e f i l q v z c g p o s u w y),[]⟩ h nx Kt =
 zI 1 d fun v1=>zH v1 h fun v2=>zi .eql (.nil .sl) v2 .zf fun v3=>sG v3 true (fun k=>zI 1 e k) fun v4=>sG v3 true (fun k=>zH v4 h k) fun v5=>sG v3 true (fun k=>zi .eql (.nil .sl) v5 .zf k) fun v6=>yT v3 v6 (.bool false) fun v7=>zN r C ⟨(yt.fr a b d e f i l q v z c g p o s u w y),v7::v6::v5::v4::v3::v3::v2::v1::[]⟩ h nx Kt:=by kernel_rfl
theorem yt.tu:zN (yt.aI []) C ⟨(yt.fr a b d e f i l q v z c g p o s u w y),s0::sT⟩ h nx Kt =
 sG s0 true (fun k=>zI 0 d k) fun v1=>sG s0 true (fun k=>zH v1 h k) fun v2=>sG s0 true (fun k=>zi .neq .int v2 (I (-9223372036854775808)) k) fun v3=>yT s0 v3 (.bool false) fun v4=>Kt ⟨(yt.fr a b d e f i l q v z c g p o s v4 w y),v3::v2::v1::s0::s0::sT⟩ h nx:=by kernel_rfl
theorem yt.qh:IR.run yt.t2 C N O K (yt.fr a b d e f i l q v z c g p o s u w y) h nx =
 zI 0 d fun v1=>zH v1 h fun v2=>zI 0 e fun v3=>zH v3 h fun v4=>zi .quo .int v2 v4 fun v5=>zI 0 d fun v6=>zH v6 h fun v7=>zI 0 e fun v8=>zH v8 h fun v9=>zi .rem .int v7 v9 fun vA=>K (yt.fr a b d e f i v5 vA v z c g p o s u w y) h nx:=by kernel_rfl
theorem yt.rC:IR.run yt.t3 C N O K (yt.fr a b d e f i l q v z c g p o s u w y) h nx =
 zi .lss .int q (I 0) fun v1=>K (yt.fr a b d e f i l q v z c g p o s u v1 y) h nx:=by kernel_rfl
theorem yt.rD:IR.run yt.t4 C N O K (yt.fr a b d e f i l q v z c g p o s u w y) h nx =
 zi .sub .int l (I 1) fun v1=>zI 0 e fun v2=>zH v2 h fun v3=>zi .add .int q v3 fun v4=>K (yt.fr a b d e f i v1 v4 v z c g p o s u w y) h nx:=by kernel_rfl
theorem yt.v16:Arg.ev (.t (.of 16)) ⟨(yt.fr a b d e f i l q v z c g p o s u w y),[]⟩=w:=by kernel_rfl
theorem yt.rq:IR.run yt.t7 C N O K (yt.fr a b d e f i l q v z c g p o s u w y) h nx =
 gC [(I 0),.zf] [(0,1,l)] fun v1=>gC [(I 0),.zf] [(0,1,q)] fun v2=>zW 2 f v1 h nx fun v3 h4 n5=>zW 2 i v2 h4 n5 fun v6 h7 n8=>K (yt.fr a b d e f i l q v z c g p o s u w y) h7 n8:=by kernel_rfl
theorem yt.v15:Arg.ev (.t (.of 15)) ⟨(yt.fr a b d e f i l q v z c g p o s u w y),[]⟩=u:=by kernel_rfl
theorem yt.fM:IR.run yt.t13 C N O K (yt.fr a b d e f i l q v z c g p o s u w y) h nx =
 zE 2 d h fun v1=>C.fn 249 (.of 249) [v1] h nx fun v2 h3 n4=>uo 0 v2 fun v5=>uo 1 v2 fun v6=>K (yt.fr a b d e f i l q v5 v6 c g p o s u w y) h3 n4:=by kernel_rfl
theorem yt.nP:IR.run yt.t14 C N O K (yt.fr a b d e f i l q v z c g p o s u w y) h nx =
 zE 2 e h fun v1=>C.fn 249 (.of 249) [v1] h nx fun v2 h3 n4=>uo 0 v2 fun v5=>uo 1 v2 fun v6=>K (yt.fr a b d e f i l q v z v6 g p o s u w y) h3 n4:=by kernel_rfl
theorem yt.sJ:IR.run yt.t15 C N O K (yt.fr a b d e f i l q v z c g p o s u w y) h nx =
 C.fn 250 (.of 250) [z,c] h nx fun v1 h2 n3=>uo 0 v1 fun v4=>uo 1 v1 fun v5=>K (yt.fr a b d e f i l q v z c v4 v5 o s u w y) h2 n3:=by kernel_rfl
theorem yt.ru:IR.run yt.t16 C N O K (yt.fr a b d e f i l q v z c g p o s u w y) h nx =
 C.fn 257 (.of 257) [v,g] h nx fun v1 h2 n3=>C.fn 257 (.of 257) [v,p] h2 n3 fun v4 h5 n6=>yV [(I 0),.zf] h5 n6 fun v7 h8 n9=>yV [(I 0),.zf] h8 n9 fun vA hC nD=>zW 2 v7 v1 hC nD fun vH hD nE=>zW 2 vA v4 hD nE fun vE hE nF=>K (yt.fr a b d e f i l q v z c g p v7 vA u w y) hE nF:=by kernel_rfl
theorem yt.rV:IR.run yt.t17 C N O K (yt.fr a b d e f i l q v z c g p o s u w y) h nx =
 zE 2 s h fun v1=>C.fn 194 (.of 194) [v1] h nx fun v2 h3 n4=>zi .lss .int v2 (I 0) fun v5=>K (yt.fr a b d e f i l q v z c g p o s u w v5) h3 n4:=by kernel_rfl
theorem yt.ah:IR.run yt.t18 C N O K (yt.fr a b d e f i l q v z c g p o s u w y) h nx =
 zE 2 o h fun v1=>zE 2 s h fun v2=>zE 2 e h fun v3=>C.fn 187 (.of 187) [(I 1)] h nx fun v4 h5 n6=>(zE 2 e h5 fun vJ=>zV vJ v3 ((zE 2 s h5 fun vK=>zV vK v2 ((zE 2 o h5 fun vL=>zV vL v1 (C.fn 266 (.of 266) [v1,v4] h5 n6 fun v7 h8 n9=>(zE 2 e h8 fun vM=>zV vM v3 ((zE 2 s h8 fun vN=>zV vN v2 (C.fn 197 (.of 197) [v2,v3] h8 n9 fun vA hC nD=>zW 2 o v7 hC nD fun vH hD nE=>zW 2 s vA hD nE fun vE hE nF=>K (yt.fr a b d e f i l q v z c g p o s u w y) hE nF)))))))))):=by kernel_rfl
theorem yt.v17:Arg.ev (.t (.of 17)) ⟨(yt.fr a b d e f i l q v z c g p o s u w y),[]⟩=y:=by kernel_rfl
theorem yt.sV:IR.run yt.t21 C N O K (yt.fr a b d e f i l q v z c g p o s u w y) h nx =
 zE 2 o h fun v1=>zE 2 s h fun v2=>zW 2 f v1 h nx fun v3 h4 n5=>(zE 2 s h4 fun v9=>zV v9 v2 (zW 2 i v2 h4 n5 fun v6 h7 n8=>K (yt.fr a b d e f i l q v z c g p o s u w y) h7 n8)):=by kernel_rfl
theorem yt.go:zR tbl N C (.of 201) [a0,a1] h nx K0=IR.run yt.t29 C N (fnO yt.res K0) (yx yt.res K0) (yt.fr a0 a1 .u .u .u .u .u .u .u .u .u .u .u .u .u .u .u .u) h nx:=yZ (F:=yt) (by kernel_rfl) (fun _=>by kernel_rfl) (by kernel_rfl)
theorem yt.ret:yx yt.res K0 (yt.fr a b d e f i l q v z c g p o s u w y) h nx=zE 2 f h fun v1=>zE 2 i h fun v2=>K0 (.tup [v1,v2]) h nx:=by kernel_rfl
theorem kz.jm:IR.run kz.t0 C N O K (kz.fr a b d e f i l) h nx =
 ql a h nx fun v1 h2 n3=>ql b h2 n3 fun v4 h5 n6=>yV [(I 0),.zf] h5 n6 fun v7 h8 n9=>K (kz.fr a b v1 v4 v7 i l) h8 n9:=by kernel_rfl
theorem kz.jl:IR.run kz.t1 C N O K (kz.fr a b d e f i l) h nx =
 zE 2 e h fun v1=>C.fn 194 (.of 194) [v1] h nx fun v2 h3 n4=>zi .lss .int v2 (I 0) fun v5=>K (kz.fr a b d e f i v5) h3 n4:=by kernel_rfl
theorem kz.qh:IR.run kz.t2 C N O K (kz.fr a b d e f i l) h nx =
 zE 2 d h fun v1=>zE 2 e h fun v2=>C.fn 193 (.of 193) [v1] h nx fun v3 h4 n5=>(zE 2 e h4 fun vG=>zV vG v2 (C.fn 193 (.of 193) [v2] h4 n5 fun v6 h7 n8=>zW 2 d v3 h7 n8 fun v9 hB nB=>zW 2 e v6 hB nB fun vI hF nG=>K (kz.fr a b d e f i l) hF nG)):=by kernel_rfl
theorem kz.v6:Arg.ev (.t (.of 6)) ⟨(kz.fr a b d e f i l),[]⟩=l:=by kernel_rfl
theorem kz.bJ:IR.run kz.t5 C N O K (kz.fr a b d e f i l) h nx =
 zE 2 d h fun v1=>zE 2 e h fun v2=>C.fn 201 (.of 201) [v1,v2] h nx fun v3 h4 n5=>uo 0 v3 fun v6=>uo 1 v3 fun v7=>yV [(I 0),.zf] h4 n5 fun v8 h9 nC=>yV [(I 0),.zf] h9 nC fun vB hA nA=>zW 2 v8 v6 hA nA fun vC hG nH=>zW 2 vB v7 hG nH fun vD hH nI=>K (kz.fr a b d e f v8 l) hH nI:=by kernel_rfl
theorem kz.mg:IR.run kz.t6 C N O K (kz.fr a b d e f i l) h nx =
 zE 2 i h fun v1=>zW 2 f v1 h nx fun v2 h3 n4=>K (kz.fr a b d e f i l) h3 n4:=by kernel_rfl
theorem kz.go:zR tbl N C (.of 259) [a0,a1] h nx K0=IR.run kz.t10 C N (fnO kz.res K0) (yx kz.res K0) (kz.fr a0 a1 .u .u .u .u .u) h nx:=yZ (F:=kz) (by kernel_rfl) (fun _=>by kernel_rfl) (by kernel_rfl)
theorem kz.ret:yx kz.res K0 (kz.fr a b d e f i l) h nx=zE 2 f h fun v1=>K0 v1 h nx:=by kernel_rfl
theorem xu.jm:IR.run xu.t0 C N O K (xu.fr a b d e) h nx =
 ql a h nx fun v1 h2 n3=>yV [(I 0),.zf] h2 n3 fun v4 h5 n6=>K (xu.fr a v1 v4 e) h5 n6:=by kernel_rfl
theorem xu.jl:IR.run xu.t1 C N O K (xu.fr a b d e) h nx =
 zI 0 b fun v1=>zH v1 h fun v2=>zi .lss .int v2 (I 0) fun v3=>K (xu.fr a b d v3) h nx:=by kernel_rfl
theorem xu.qh:IR.run xu.t2 C N O K (xu.fr a b d e) h nx =
 zE 2 b h fun v1=>C.fn 193 (.of 193) [v1] h nx fun v2 h3 n4=>zW 2 d v2 h3 n4 fun v5 h6 n7=>K (xu.fr a b d e) h6 n7:=by kernel_rfl
theorem xu.v3:Arg.ev (.t (.of 3)) ⟨(xu.fr a b d e),[]⟩=e:=by kernel_rfl
theorem xu.mg:IR.run xu.t6 C N O K (xu.fr a b d e) h nx =
 zE 2 b h fun v1=>zW 2 d v1 h nx fun v2 h3 n4=>K (xu.fr a b d e) h3 n4:=by kernel_rfl
theorem xu.go:zR tbl N C (.of 299) [a0] h nx K0=IR.run xu.t9 C N (fnO xu.res K0) (yx xu.res K0) (xu.fr a0 .u .u .u) h nx:=yZ (F:=xu) (by kernel_rfl) (fun _=>by kernel_rfl) (by kernel_rfl)
theorem xu.ret:yx xu.res K0 (xu.fr a b d e) h nx=zE 2 d h fun v1=>K0 v1 h nx:=by kernel_rfl
theorem uh.jm:IR.run uh.t0 C N O K (uh.fr a b d e f i l) h nx =
 ql a h nx fun v1 h2 n3=>ql b h2 n3 fun v4 h5 n6=>yV [(I 0),.zf] h5 n6 fun v7 h8 n9=>K (uh.fr a b v1 v4 v7 i l) h8 n9:=by kernel_rfl
theorem uh.jl:IR.run uh.t1 C N O K (uh.fr a b d e f i l) h nx =
 zE 2 d h fun v1=>zE 2 e h fun v2=>C.fn 299 (.of 299) [v1] h nx fun v3 h4 n5=>(zE 2 e h4 fun vG=>zV vG v2 (C.fn 299 (.of 299) [v2] h4 n5 fun v6 h7 n8=>zW 2 d v3 h7 n8 fun v9 hB nB=>zW 2 e v6 hB nB fun vI hF nG=>K (uh.fr a b d e f i l) hF nG)):=by kernel_rfl
theorem uh.qh:IR.run uh.t2 C N O K (uh.fr a b d e f i l) h nx =
 zE 2 e h fun v1=>C.fn 194 (.of 194) [v1] h nx fun v2 h3 n4=>zi .neq .int v2 (I 0) fun v5=>K (uh.fr a b d e f i v5) h3 n4:=by kernel_rfl
theorem uh.v6:Arg.ev (.t (.of 6)) ⟨(uh.fr a b d e f i l),[]⟩=l:=by kernel_rfl
theorem uh.bJ:IR.run uh.t5 C N O K (uh.fr a b d e f i l) h nx =
 zE 2 d h fun v1=>zE 2 e h fun v2=>C.fn 201 (.of 201) [v1,v2] h nx fun v3 h4 n5=>uo 0 v3 fun v6=>uo 1 v3 fun v7=>yV [(I 0),.zf] h4 n5 fun v8 h9 nC=>yV [(I 0),.zf] h9 nC fun vB hA nA=>zW 2 v8 v6 hA nA fun vC hG nH=>zW 2 vB v7 hG nH fun vD hH nI=>K (uh.fr a b d e f vB l) hH nI:=by kernel_rfl
theorem uh.mg:IR.run uh.t6 C N O K (uh.fr a b d e f i l) h nx =
 zE 2 e h fun v1=>zE 2 i h fun v2=>zW 2 d v1 h nx fun v3 h4 n5=>(zE 2 i h4 fun v9=>zV v9 v2 (zW 2 e v2 h4 n5 fun v6 h7 n8=>K (uh.fr a b d e f i l) h7 n8)):=by kernel_rfl
theorem uh.zzq (Inv:Nat->T Blk->Pa->Prop) {m:Nat} (hm:m<N) (hi:Inv m h nx)
  (step:∀ (m:Nat) (z5 z6:AV) (h:T Blk) (nx:Pa) (R:Ks Prop),Inv m h nx->(∀ (m':Nat) (w5 w6:AV) (h':T Blk) (nx':Pa),m'<m->Inv m' h' nx'->R (uh.fr a b d e f w5 w6) h' nx'=.ok True)->IR.run uh.t9 C N O R (uh.fr a b d e f z5 z6) h nx=.ok True) :
  IR.run uh.t10 C N O K (uh.fr a b d e f i l) h nx=.ok True:=by
 rw [uh.t10];refine yE (fun m tm h nx=>∃ z5 z6,tm=(uh.fr a b d e f z5 z6)/\Inv m h nx) ?_ hm ⟨_,_,rfl,hi⟩;rintro m tm h nx R ⟨z5,z6,rfl,hi⟩ hR;exact step m z5 z6 h nx R hi fun m' w5 w6 h' nx' hlt hi'=>hR m' _ h' nx' hlt ⟨_,_,rfl,hi'⟩
theorem uh.ng:IR.run uh.t12 C N O K (uh.fr a b d e f i l) h nx =
 zE 2 d h fun v1=>zW 2 f v1 h nx fun v2 h3 n4=>K (uh.fr a b d e f i l) h3 n4:=by kernel_rfl
theorem uh.go:zR tbl N C (.of 258) [a0,a1] h nx K0=IR.run uh.t16 C N (fnO uh.res K0) (yx uh.res K0) (uh.fr a0 a1 .u .u .u .u .u) h nx:=yZ (F:=uh) (by kernel_rfl) (fun _=>by kernel_rfl) (by kernel_rfl)
theorem uh.ret:yx uh.res K0 (uh.fr a b d e f i l) h nx=zE 2 f h fun v1=>K0 v1 h nx:=by kernel_rfl
theorem qx.jm:IR.run qx.t0 C N O K (qx.fr a b d) h nx =
 ql a h nx fun v1 h2 n3=>K (qx.fr a v1 (.bool false)) h2 n3:=by kernel_rfl
theorem qx.jl:IR.run qx.t1 C N O K tm h nx=zN qx.eF C ⟨tm,[]⟩ h nx (fun tm h nx=>K tm.v h nx):=jC ..
theorem qx.eG:zN (qx.aH r) C ⟨(qx.fr a b d),[]⟩ h nx Kt =
 zI 2 b fun v1=>zI 1 v1 fun v2=>zH v2 h fun v3=>zi .eql (.nil .sl) v3 .zf fun v4=>sG v4 true (fun k=>zI 2 b k) fun v5=>sG v4 true (fun k=>zI 0 v5 k) fun v6=>sG v4 true (fun k=>zH v6 h k) fun v7=>zN r C ⟨(qx.fr a b d),v7::v6::v5::v4::v4::v3::v2::v1::[]⟩ h nx Kt:=by kernel_rfl
theorem qx.tu:zN (qx.aI []) C ⟨(qx.fr a b d),s0::s1::s2::s3::sT⟩ h nx Kt =
 sG s3 true (fun k=>zi .eql .int s0 (I 1) k) fun v1=>yT s3 v1 (.bool false) fun v2=>Kt ⟨(qx.fr a b v2),v2::v1::s0::s1::s2::s3::sT⟩ h nx:=by kernel_rfl
theorem qx.go:zR tbl N C (.of 122) [a0] h nx K0=IR.run qx.t3 C N (fnO qx.res K0) (yx qx.res K0) (qx.fr a0 .u .u) h nx:=yZ (F:=qx) (by kernel_rfl) (fun _=>by kernel_rfl) (by kernel_rfl)
theorem qx.ret:yx qx.res K0 (qx.fr a b d) h nx=K0 d h nx:=by kernel_rfl
theorem bW.jm:IR.run bW.t0 C N O K (bW.fr a b d) h nx =
 ql a h nx fun v1 h2 n3=>yV [(I 0),.zf,(I 0),.zf] h2 n3 fun v4 h5 n6=>K (bW.fr a v1 v4) h5 n6:=by kernel_rfl
theorem bW.jl:IR.run bW.t1 C N O K (bW.fr a b d) h nx =
 zE 2 b h fun v1=>C.fn 187 (.of 187) [(I 1)] h nx fun v2 h3 n4=>(zE 2 b h3 fun v9=>zV v9 v1 (gC [(I 0),.zf,(I 0),.zf] [(0,2,v1),(2,2,v2)] fun v5=>zW 4 d v5 h3 n4 fun v6 h7 n8=>K (bW.fr a b d) h7 n8)):=by kernel_rfl
theorem bW.go:zR tbl N C (.of 186) [a0] h nx K0=IR.run bW.t3 C N (fnO bW.res K0) (yx bW.res K0) (bW.fr a0 .u .u) h nx:=yZ (F:=bW) (by kernel_rfl) (fun _=>by kernel_rfl) (by kernel_rfl)
theorem bW.ret:yx bW.res K0 (bW.fr a b d) h nx=zE 4 d h fun v1=>K0 v1 h nx:=by kernel_rfl
theorem F96.jm:IR.run F96.t0 C N O K (F96.fr a b) h nx =
 yV [(I 0),.zf,(I 0),.zf] h nx fun v1 h2 n3=>K (F96.fr a v1) h2 n3:=by kernel_rfl
theorem F96.jl:IR.run F96.t1 C N O K (F96.fr a b) h nx =
 C.fn 187 (.of 187) [a] h nx fun v1 h2 n3=>C.fn 186 (.of 186) [v1] h2 n3 fun v4 h5 n6=>zW 4 b v4 h5 n6 fun v7 h8 n9=>K (F96.fr a b) h8 n9:=by kernel_rfl
theorem F96.go:zR tbl N C (.of 96) [a0] h nx K0=IR.run F96.t3 C N (fnO F96.res K0) (yx F96.res K0) (F96.fr a0 .u) h nx:=yZ (F:=F96) (by kernel_rfl) (fun _=>by kernel_rfl) (by kernel_rfl)
theorem F96.ret:yx F96.res K0 (F96.fr a b) h nx=zE 4 b h fun v1=>K0 v1 h nx:=by kernel_rfl
theorem gu.jm:IR.run gu.t0 C N O K (gu.fr a b d e f i l q) h nx =
 ql a h nx fun v1 h2 n3=>ql b h2 n3 fun v4 h5 n6=>yV [(I 0),.zf,(I 0),.zf] h5 n6 fun v7 h8 n9=>K (gu.fr a b v1 v4 v7 i l q) h8 n9:=by kernel_rfl
theorem gu.jl:IR.run gu.t1 C N O K (gu.fr a b d e f i l q) h nx =
 zE 2 e h fun v1=>C.fn 194 (.of 194) [v1] h nx fun v2 h3 n4=>zi .lss .int v2 (I 0) fun v5=>K (gu.fr a b d e f i v5 q) h3 n4:=by kernel_rfl
theorem gu.qh:IR.run gu.t2 C N O K (gu.fr a b d e f i l q) h nx =
 zE 2 d h fun v1=>zE 2 e h fun v2=>C.fn 193 (.of 193) [v1] h nx fun v3 h4 n5=>(zE 2 e h4 fun vG=>zV vG v2 (C.fn 193 (.of 193) [v2] h4 n5 fun v6 h7 n8=>zW 2 d v3 h7 n8 fun v9 hB nB=>zW 2 e v6 hB nB fun vI hF nG=>K (gu.fr a b d e f i l q) hF nG)):=by kernel_rfl
theorem gu.v6:Arg.ev (.t (.of 6)) ⟨(gu.fr a b d e f i l q),[]⟩=l:=by kernel_rfl
theorem gu.bJ:IR.run gu.t5 C N O K (gu.fr a b d e f i l q) h nx =
 zI 1 e fun v1=>zH v1 h fun v2=>zi .eql (.nil .sl) v2 .zf fun v3=>sG v3 true (fun k=>zI 0 e k) fun v4=>sG v3 true (fun k=>zH v4 h k) fun v5=>sG v3 true (fun k=>zi .eql .int v5 (I 1) k) fun v6=>yT v3 v6 (.bool false) fun v7=>K (gu.fr a b d e f i l v7) h nx:=by kernel_rfl
theorem gu.mg:IR.run gu.t6 C N O K (gu.fr a b d e f i l q) h nx =
 zE 2 d h fun v1=>zE 2 e h fun v2=>gC [(I 0),.zf,(I 0),.zf] [(0,2,v1),(2,2,v2)] fun v3=>zW 4 f v3 h nx fun v4 h5 n6=>K (gu.fr a b d e f i l q) h5 n6:=by kernel_rfl
theorem gu.v7:Arg.ev (.t (.of 7)) ⟨(gu.fr a b d e f i l q),[]⟩=q:=by kernel_rfl
theorem gu.rG:IR.run gu.t10 C N O K (gu.fr a b d e f i l q) h nx =
 zE 2 d h fun v1=>zE 2 e h fun v2=>C.fn 258 (.of 258) [v1,v2] h nx fun v3 h4 n5=>yV [(I 0),.zf] h4 n5 fun v6 h7 n8=>zW 2 v6 v3 h7 n8 fun v9 hB nB=>K (gu.fr a b d e f v6 l q) hB nB:=by kernel_rfl
theorem gu.fZ:IR.run gu.t11 C N O K (gu.fr a b d e f i l q) h nx =
 zE 2 d h fun v1=>zE 2 i h fun v2=>zE 2 e h fun v3=>zE 2 i h fun v4=>C.fn 259 (.of 259) [v1,v2] h nx fun v5 h6 n7=>(zE 2 i h6 fun vE=>zV vE v4 ((zE 2 e h6 fun vG=>zV vG v3 (C.fn 259 (.of 259) [v3,v4] h6 n7 fun v8 h9 nC=>gC [(I 0),.zf,(I 0),.zf] [(0,2,v5),(2,2,v8)] fun vB=>zW 4 f vB h9 nC fun vI hF nG=>K (gu.fr a b d e f i l q) hF nG)))):=by kernel_rfl
theorem gu.go:zR tbl N C (.of 195) [a0,a1] h nx K0=IR.run gu.t16 C N (fnO gu.res K0) (yx gu.res K0) (gu.fr a0 a1 .u .u .u .u .u .u) h nx:=yZ (F:=gu) (by kernel_rfl) (fun _=>by kernel_rfl) (by kernel_rfl)
theorem gu.ret:yx gu.res K0 (gu.fr a b d e f i l q) h nx=zE 4 f h fun v1=>K0 v1 h nx:=by kernel_rfl
theorem bY.jm:IR.run bY.t0 C N O K (bY.fr a b d) h nx =
 ql a h nx fun v1 h2 n3=>K (bY.fr a v1 (I 0)) h2 n3:=by kernel_rfl
theorem bY.jl:IR.run bY.t1 C N O K (bY.fr a b d) h nx =
 zI 0 b fun v1=>zE 2 v1 h fun v2=>C.fn 194 (.of 194) [v2] h nx fun v3 h4 n5=>K (bY.fr a b v3) h4 n5:=by kernel_rfl
theorem bY.go:zR tbl N C (.of 110) [a0] h nx K0=IR.run bY.t3 C N (fnO bY.res K0) (yx bY.res K0) (bY.fr a0 .u .u) h nx:=yZ (F:=bY) (by kernel_rfl) (fun _=>by kernel_rfl) (by kernel_rfl)
theorem bY.ret:yx bY.res K0 (bY.fr a b d) h nx=K0 d h nx:=by kernel_rfl
theorem bZ.jm:IR.run bZ.t0 C N O K (bZ.fr a b d) h nx =
 ql a h nx fun v1 h2 n3=>yV [(I 0),.zf,(I 0),.zf] h2 n3 fun v4 h5 n6=>K (bZ.fr a v1 v4) h5 n6:=by kernel_rfl
theorem bZ.jl:IR.run bZ.t1 C N O K (bZ.fr a b d) h nx =
 zI 0 b fun v1=>zE 2 v1 h fun v2=>zI 2 b fun v3=>zE 2 v3 h fun v4=>C.fn 193 (.of 193) [v2] h nx fun v5 h6 n7=>(zE 2 v3 h6 fun vH=>zV vH v4 ((zI 2 b fun vI=>zV vI v3 (gC [(I 0),.zf,(I 0),.zf] [(0,2,v5),(2,2,v4)] fun v8=>zW 4 d v8 h6 n7 fun v9 hB nB=>K (bZ.fr a b d) hB nB)))):=by kernel_rfl
theorem bZ.go:zR tbl N C (.of 107) [a0] h nx K0=IR.run bZ.t3 C N (fnO bZ.res K0) (yx bZ.res K0) (bZ.fr a0 .u .u) h nx:=yZ (F:=bZ) (by kernel_rfl) (fun _=>by kernel_rfl) (by kernel_rfl)
theorem bZ.ret:yx bZ.res K0 (bZ.fr a b d) h nx=zE 4 d h fun v1=>K0 v1 h nx:=by kernel_rfl
theorem cu.jm:IR.run cu.t0 C N O K (cu.fr a b d) h nx =
 ql a h nx fun v1 h2 n3=>yV [(I 0),.zf,(I 0),.zf] h2 n3 fun v4 h5 n6=>K (cu.fr a v1 v4) h5 n6:=by kernel_rfl
theorem cu.jl:IR.run cu.t1 C N O K (cu.fr a b d) h nx =
 zI 2 b fun v1=>zE 2 v1 h fun v2=>zI 0 b fun v3=>zE 2 v3 h fun v4=>C.fn 195 (.of 195) [v2,v4] h nx fun v5 h6 n7=>zW 4 d v5 h6 n7 fun v8 h9 nC=>K (cu.fr a b d) h9 nC:=by kernel_rfl
theorem cu.go:zR tbl N C (.of 112) [a0] h nx K0=IR.run cu.t3 C N (fnO cu.res K0) (yx cu.res K0) (cu.fr a0 .u .u) h nx:=yZ (F:=cu) (by kernel_rfl) (fun _=>by kernel_rfl) (by kernel_rfl)
theorem cu.ret:yx cu.res K0 (cu.fr a b d) h nx=zE 4 d h fun v1=>K0 v1 h nx:=by kernel_rfl
theorem cO.jm:IR.run cO.t0 C N O K (cO.fr a b d e f) h nx =
 ql a h nx fun v1 h2 n3=>ql b h2 n3 fun v4 h5 n6=>yV [(I 0),.zf,(I 0),.zf] h5 n6 fun v7 h8 n9=>K (cO.fr a b v1 v4 v7) h8 n9:=by kernel_rfl
theorem cO.jl:IR.run cO.t1 C N O K (cO.fr a b d e f) h nx =
 zI 0 d fun v1=>zE 2 v1 h fun v2=>zI 0 e fun v3=>zE 2 v3 h fun v4=>zI 2 d fun v5=>zE 2 v5 h fun v6=>zI 2 e fun v7=>zE 2 v7 h fun v8=>C.fn 198 (.of 198) [v2,v4] h nx fun v9 hB nB=>(zE 2 v7 hB fun vO=>zV vO v8 ((zI 2 e fun vJ=>zV vJ v7 ((zE 2 v5 hB fun vK=>zV vK v6 ((zI 2 d fun vL=>zV vL v5 (C.fn 198 (.of 198) [v6,v8] hB nB fun vI hF nG=>C.fn 195 (.of 195) [v9,vI] hF nG fun vG hI nJ=>zW 4 f vG hI nJ fun vP hJ nK=>K (cO.fr a b d e f) hJ nK)))))))):=by kernel_rfl
theorem cO.go:zR tbl N C (.of 119) [a0,a1] h nx K0=IR.run cO.t3 C N (fnO cO.res K0) (yx cO.res K0) (cO.fr a0 a1 .u .u .u) h nx:=yZ (F:=cO) (by kernel_rfl) (fun _=>by kernel_rfl) (by kernel_rfl)
theorem cO.ret:yx cO.res K0 (cO.fr a b d e f) h nx=zE 4 f h fun v1=>K0 v1 h nx:=by kernel_rfl
theorem qi.jm:IR.run qi.t0 C N O K (qi.fr a b d e f i) h nx =
 ql a h nx fun v1 h2 n3=>ql b h2 n3 fun v4 h5 n6=>yV [(I 0),.zf,(I 0),.zf] h5 n6 fun v7 h8 n9=>K (qi.fr a b v1 v4 v7 i) h8 n9:=by kernel_rfl
theorem qi.jl:IR.run qi.t1 C N O K (qi.fr a b d e f i) h nx =
 zE 4 d h fun v1=>C.fn 122 (.of 122) [v1] h nx fun v2 h3 n4=>sG v2 true (fun k=>zE 4 e h3 k) fun v5=>sGW v2 true (fun k=>C.fn 122 (.of 122) [v5] h3 n4 k) h3 n4 fun v6 h7 n8=>yT v2 v6 (.bool false) fun v9=>K (qi.fr a b d e f v9) h7 n8:=by kernel_rfl
theorem qi.qh:IR.run qi.t2 C N O K (qi.fr a b d e f i) h nx =
 zI 0 d fun v1=>zE 2 v1 h fun v2=>zI 0 e fun v3=>zE 2 v3 h fun v4=>C.fn 197 (.of 197) [v2,v4] h nx fun v5 h6 n7=>C.fn 186 (.of 186) [v5] h6 n7 fun v8 h9 nC=>zW 4 f v8 h9 nC fun vB hA nA=>K (qi.fr a b d e f i) hA nA:=by kernel_rfl
theorem qi.v5:Arg.ev (.t (.of 5)) ⟨(qi.fr a b d e f i),[]⟩=i:=by kernel_rfl
theorem qi.mg:IR.run qi.t6 C N O K (qi.fr a b d e f i) h nx =
 zI 0 d fun v1=>zE 2 v1 h fun v2=>zI 2 e fun v3=>zE 2 v3 h fun v4=>zI 0 e fun v5=>zE 2 v5 h fun v6=>zI 2 d fun v7=>zE 2 v7 h fun v8=>zI 2 d fun v9=>zE 2 v9 h fun vA=>zI 2 e fun vB=>zE 2 vB h fun vI=>C.fn 198 (.of 198) [v2,v4] h nx fun vH hD nE=>(zE 2 vB hD fun vQ=>zV vQ vI ((zI 2 e fun vR=>zV vR vB ((zE 2 v9 hD fun vS=>zV vS vA ((zI 2 d fun vT=>zV vT v9 ((zE 2 v7 hD fun vU=>zV vU v8 ((zI 2 d fun vV=>zV vV v7 ((zE 2 v5 hD fun vW=>zV vW v6 ((zI 0 e fun vX=>zV vX v5 (C.fn 198 (.of 198) [v6,v8] hD nE fun vE hE nF=>(zE 2 vB hE fun vY=>zV vY vI ((zI 2 e fun vZ=>zV vZ vB ((zE 2 v9 hE fun v36=>zV v36 vA ((zI 2 d fun v35=>zV v35 v9 (C.fn 197 (.of 197) [vH,vE] hE nF fun vN hK nL=>(zE 2 vB hK fun v34=>zV v34 vI ((zI 2 e fun v33=>zV v33 vB ((zE 2 v9 hK fun v32=>zV v32 vA ((zI 2 d fun v31=>zV v31 v9 (C.fn 198 (.of 198) [vA,vI] hK nL fun vK hL nM=>C.fn 195 (.of 195) [vN,vK] hL nM fun v25 hM nN=>zW 4 f v25 hM nN fun v28 hN nO=>K (qi.fr a b d e f i) hN nO)))))))))))))))))))))))))))))))):=by kernel_rfl
theorem qi.go:zR tbl N C (.of 114) [a0,a1] h nx K0=IR.run qi.t9 C N (fnO qi.res K0) (yx qi.res K0) (qi.fr a0 a1 .u .u .u .u) h nx:=yZ (F:=qi) (by kernel_rfl) (fun _=>by kernel_rfl) (by kernel_rfl)
theorem qi.ret:yx qi.res K0 (qi.fr a b d e f i) h nx=zE 4 f h fun v1=>K0 v1 h nx:=by kernel_rfl
theorem cZ.jm:IR.run cZ.t0 C N O K (cZ.fr a b d e f) h nx =
 ql a h nx fun v1 h2 n3=>ql b h2 n3 fun v4 h5 n6=>yV [(I 0),.zf,(I 0),.zf] h5 n6 fun v7 h8 n9=>K (cZ.fr a b v1 v4 v7) h8 n9:=by kernel_rfl
theorem cZ.jl:IR.run cZ.t1 C N O K (cZ.fr a b d e f) h nx =
 zE 4 d h fun v1=>zE 4 e h fun v2=>C.fn 107 (.of 107) [v2] h nx fun v3 h4 n5=>(zE 4 d h4 fun vI=>zV vI v1 (C.fn 114 (.of 114) [v1,v3] h4 n5 fun v6 h7 n8=>zW 4 f v6 h7 n8 fun v9 hB nB=>K (cZ.fr a b d e f) hB nB)):=by kernel_rfl
theorem cZ.go:zR tbl N C (.of 192) [a0,a1] h nx K0=IR.run cZ.t3 C N (fnO cZ.res K0) (yx cZ.res K0) (cZ.fr a0 a1 .u .u .u) h nx:=yZ (F:=cZ) (by kernel_rfl) (fun _=>by kernel_rfl) (by kernel_rfl)
theorem cZ.ret:yx cZ.res K0 (cZ.fr a b d e f) h nx=zE 4 f h fun v1=>K0 v1 h nx:=by kernel_rfl
theorem fA.jm:IR.run fA.t0 C N O K (fA.fr a b d e f) h nx =
 ql a h nx fun v1 h2 n3=>ql b h2 n3 fun v4 h5 n6=>yV [(I 0),.zf,(I 0),.zf] h5 n6 fun v7 h8 n9=>K (fA.fr a b v1 v4 v7) h8 n9:=by kernel_rfl
theorem fA.jl:IR.run fA.t1 C N O K (fA.fr a b d e f) h nx =
 zE 4 d h fun v1=>zE 4 e h fun v2=>C.fn 112 (.of 112) [v2] h nx fun v3 h4 n5=>(zE 4 d h4 fun vI=>zV vI v1 (C.fn 119 (.of 119) [v1,v3] h4 n5 fun v6 h7 n8=>zW 4 f v6 h7 n8 fun v9 hB nB=>K (fA.fr a b d e f) hB nB)):=by kernel_rfl
theorem fA.go:zR tbl N C (.of 115) [a0,a1] h nx K0=IR.run fA.t3 C N (fnO fA.res K0) (yx fA.res K0) (fA.fr a0 a1 .u .u .u) h nx:=yZ (F:=fA) (by kernel_rfl) (fun _=>by kernel_rfl) (by kernel_rfl)
theorem fA.ret:yx fA.res K0 (fA.fr a b d e f) h nx=zE 4 f h fun v1=>K0 v1 h nx:=by kernel_rfl
theorem fB.jm:IR.run fB.t0 C N O K (fB.fr a b d e f) h nx =
 ql a h nx fun v1 h2 n3=>ql b h2 n3 fun v4 h5 n6=>K (fB.fr a b v1 v4 (I 0)) h5 n6:=by kernel_rfl
theorem fB.jl:IR.run fB.t1 C N O K (fB.fr a b d e f) h nx =
 zI 0 d fun v1=>zE 2 v1 h fun v2=>zI 2 e fun v3=>zE 2 v3 h fun v4=>zI 0 e fun v5=>zE 2 v5 h fun v6=>zI 2 d fun v7=>zE 2 v7 h fun v8=>C.fn 198 (.of 198) [v2,v4] h nx fun v9 hB nB=>(zE 2 v7 hB fun vL=>zV vL v8 ((zI 2 d fun vM=>zV vM v7 ((zE 2 v5 hB fun vN=>zV vN v6 ((zI 0 e fun vP=>zV vP v5 (C.fn 198 (.of 198) [v6,v8] hB nB fun vI hF nG=>C.fn 229 (.of 229) [v9,vI] hF nG fun vG hI nJ=>K (fB.fr a b d e vG) hI nJ)))))))):=by kernel_rfl
theorem fB.go:zR tbl N C (.of 200) [a0,a1] h nx K0=IR.run fB.t3 C N (fnO fB.res K0) (yx fB.res K0) (fB.fr a0 a1 .u .u .u) h nx:=yZ (F:=fB) (by kernel_rfl) (fun _=>by kernel_rfl) (by kernel_rfl)
theorem fB.ret:yx fB.res K0 (fB.fr a b d e f) h nx=K0 f h nx:=by kernel_rfl
theorem fC.jm:IR.run fC.t0 C N O K (fC.fr a b d e f) h nx =
 ql a h nx fun v1 h2 n3=>ql b h2 n3 fun v4 h5 n6=>K (fC.fr a b v1 v4 (.bool false)) h5 n6:=by kernel_rfl
theorem fC.jl:IR.run fC.t1 C N O K (fC.fr a b d e f) h nx =
 zE 4 d h fun v1=>zE 4 e h fun v2=>C.fn 200 (.of 200) [v1,v2] h nx fun v3 h4 n5=>zi .eql .int v3 (I 0) fun v6=>K (fC.fr a b d e v6) h4 n5:=by kernel_rfl
theorem fC.go:zR tbl N C (.of 118) [a0,a1] h nx K0=IR.run fC.t3 C N (fnO fC.res K0) (yx fC.res K0) (fC.fr a0 a1 .u .u .u) h nx:=yZ (F:=fC) (by kernel_rfl) (fun _=>by kernel_rfl) (by kernel_rfl)
theorem fC.ret:yx fC.res K0 (fC.fr a b d e f) h nx=K0 f h nx:=by kernel_rfl
theorem pq.jm:IR.run pq.t0 C N O K (pq.fr a b d e) h nx =
 ql a h nx fun v1 h2 n3=>yV [(I 0),.zf] h2 n3 fun v4 h5 n6=>K (pq.fr a v1 v4 e) h5 n6:=by kernel_rfl
theorem pq.jl:IR.run pq.t1 C N O K (pq.fr a b d e) h nx =
 zI 0 b fun v1=>zE 2 v1 h fun v2=>zI 2 b fun v3=>zE 2 v3 h fun v4=>C.fn 201 (.of 201) [v2,v4] h nx fun v5 h6 n7=>uo 0 v5 fun v8=>uo 1 v5 fun v9=>yV [(I 0),.zf] h6 n7 fun vA hC nD=>yV [(I 0),.zf] hC nD fun vH hD nE=>zW 2 vA v8 hD nE fun vE hE nF=>zW 2 vH v9 hE nF fun vN hK nL=>K (pq.fr a b d vA) hK nL:=by kernel_rfl
theorem pq.qh:IR.run pq.t2 C N O K (pq.fr a b d e) h nx =
 zE 2 e h fun v1=>zW 2 d v1 h nx fun v2 h3 n4=>K (pq.fr a b d e) h3 n4:=by kernel_rfl
theorem pq.go:zR tbl N C (.of 120) [a0] h nx K0=IR.run pq.t5 C N (fnO pq.res K0) (yx pq.res K0) (pq.fr a0 .u .u .u) h nx:=yZ (F:=pq) (by kernel_rfl) (fun _=>by kernel_rfl) (by kernel_rfl)
theorem pq.ret:yx pq.res K0 (pq.fr a b d e) h nx=zE 2 d h fun v1=>K0 v1 h nx:=by kernel_rfl
theorem gm.jm:IR.run gm.t0 C N O K (gm.fr a b d e f i l q v) h nx =
 K (gm.fr a b .zf e f i l q v) h nx:=by kernel_rfl
theorem gm.jl:IR.run gm.t1 C N O K (gm.fr a b d e f i l q v) h nx =
 C.fn 105 (.of 105) [a] h nx fun v1 h2 n3=>K (gm.fr a b d v1 f i l q v) h2 n3:=by kernel_rfl
theorem gm.qh:IR.run gm.t2 C N O K (gm.fr a b d e f i l q v) h nx =
 sLen b fun v1=>K (gm.fr a b d e f b v1 (I 0) v) h nx:=by kernel_rfl
theorem gm.rC:IR.run gm.t3 C N O K (gm.fr a b d e f i l q v) h nx =
 zi .lss .int q l fun v1=>K (gm.fr a b d e f i l q v1) h nx:=by kernel_rfl
theorem gm.v8:Arg.ev (.t (.of 8)) ⟨(gm.fr a b d e f i l q v),[]⟩=v:=by kernel_rfl
theorem gm.bJ:IR.run gm.t5 C N O K (gm.fr a b d e f i l q v) h nx =
 zL 1 i q fun v1=>zH v1 h fun v2=>K (gm.fr a b d e v2 i l q v) h nx:=by kernel_rfl
theorem gm.mg:IR.run gm.t6 C N O K (gm.fr a b d e f i l q v) h nx =
 C.fn 96 (.of 96) [(I 1)] h nx fun v1 h2 n3=>zL 4 e f fun v4=>zW 4 v4 v1 h2 n3 fun v5 h6 n7=>K (gm.fr a b d e f i l q v) h6 n7:=by kernel_rfl
theorem gm.ay:IR.run gm.t9 C N O K (gm.fr a b d e f i l q v) h nx =
 zi .add .int q (I 1) fun v1=>K (gm.fr a b d e f i l v1 v) h nx:=by kernel_rfl
theorem gm.znr (Inv:Nat->AV->T Blk->Pa->Prop) {m:Nat} (hm:m<N) (hi:Inv m q h nx)
  (step:∀ (m:Nat) (z4 z7 z8:AV) (h:T Blk) (nx:Pa) (R:Ks Prop),Inv m z7 h nx->(∀ (m':Nat) (w4 w7 w8:AV) (h':T Blk) (nx':Pa),m'<m->Inv m' w7 h' nx'->R (gm.fr a b d e w4 i l w7 w8) h' nx'=.ok True)->IR.run gm.t12 C N O R (gm.fr a b d e z4 i l z7 z8) h nx=.ok True) :
  IR.run gm.t13 C N O K (gm.fr a b d e f i l q v) h nx=.ok True:=by
 rw [gm.t13];refine yE (fun m tm h nx=>∃ z4 z7 z8,tm=(gm.fr a b d e z4 i l z7 z8)/\Inv m z7 h nx) ?_ hm ⟨_,_,_,rfl,hi⟩;rintro m tm h nx R ⟨z4,z7,z8,rfl,hi⟩ hR;exact step m z4 z7 z8 h nx R hi fun m' w4 w7 w8 h' nx' hlt hi'=>hR m' _ h' nx' hlt ⟨_,_,_,rfl,hi'⟩
theorem gm.ru:IR.run gm.t16 C N O K (gm.fr a b d e f i l q v) h nx =
 K (gm.fr a b e e f i l q v) h nx:=by kernel_rfl
theorem gm.go:zR tbl N C (.of 104) [a0,a1] h nx K0=IR.run gm.t20 C N (fnO gm.res K0) (yx gm.res K0) (gm.fr a0 a1 .u .u .u .u .u .u .u) h nx:=yZ (F:=gm) (by kernel_rfl) (fun _=>by kernel_rfl) (by kernel_rfl)
theorem gm.ret:yx gm.res K0 (gm.fr a b d e f i l q v) h nx=K0 d h nx:=by kernel_rfl
theorem gq.jm:IR.run gq.t0 C N O K (gq.fr a b d e f i l) h nx =
 K (gq.fr a .zf d e f i l) h nx:=by kernel_rfl
theorem gq.jl:IR.run gq.t1 C N O K (gq.fr a b d e f i l) h nx =
 uD 4 64 [(I 0),.zf,(I 0),.zf] a a h nx fun v1 h2 n3=>K (gq.fr a b v1 e f i l) h2 n3:=by kernel_rfl
theorem gq.qh:IR.run gq.t2 C N O K (gq.fr a b d e f i l) h nx =
 sLen d fun v1=>K (gq.fr a b d e v1 (I 0) l) h nx:=by kernel_rfl
theorem gq.rC:IR.run gq.t3 C N O K (gq.fr a b d e f i l) h nx =
 zi .lss .int i f fun v1=>K (gq.fr a b d e f i v1) h nx:=by kernel_rfl
theorem gq.v6:Arg.ev (.t (.of 6)) ⟨(gq.fr a b d e f i l),[]⟩=l:=by kernel_rfl
theorem gq.bJ:IR.run gq.t5 C N O K (gq.fr a b d e f i l) h nx =
 K (gq.fr a b d i f i l) h nx:=by kernel_rfl
theorem gq.mg:IR.run gq.t6 C N O K (gq.fr a b d e f i l) h nx =
 C.fn 96 (.of 96) [(I 0)] h nx fun v1 h2 n3=>zL 4 d e fun v4=>zW 4 v4 v1 h2 n3 fun v5 h6 n7=>K (gq.fr a b d e f i l) h6 n7:=by kernel_rfl
theorem gq.ay:IR.run gq.t9 C N O K (gq.fr a b d e f i l) h nx =
 zi .add .int i (I 1) fun v1=>K (gq.fr a b d e f v1 l) h nx:=by kernel_rfl
theorem gq.znr (Inv:Nat->AV->T Blk->Pa->Prop) {m:Nat} (hm:m<N) (hi:Inv m i h nx)
  (step:∀ (m:Nat) (z3 z5 z6:AV) (h:T Blk) (nx:Pa) (R:Ks Prop),Inv m z5 h nx->(∀ (m':Nat) (w3 w5 w6:AV) (h':T Blk) (nx':Pa),m'<m->Inv m' w5 h' nx'->R (gq.fr a b d w3 f w5 w6) h' nx'=.ok True)->IR.run gq.t12 C N O R (gq.fr a b d z3 f z5 z6) h nx=.ok True) :
  IR.run gq.t13 C N O K (gq.fr a b d e f i l) h nx=.ok True:=by
 rw [gq.t13];refine yE (fun m tm h nx=>∃ z3 z5 z6,tm=(gq.fr a b d z3 f z5 z6)/\Inv m z5 h nx) ?_ hm ⟨_,_,_,rfl,hi⟩;rintro m tm h nx R ⟨z3,z5,z6,rfl,hi⟩ hR;exact step m z3 z5 z6 h nx R hi fun m' w3 w5 w6 h' nx' hlt hi'=>hR m' _ h' nx' hlt ⟨_,_,_,rfl,hi'⟩
theorem gq.ru:IR.run gq.t16 C N O K (gq.fr a b d e f i l) h nx =
 K (gq.fr a d d e f i l) h nx:=by kernel_rfl
theorem gq.go:zR tbl N C (.of 105) [a0] h nx K0=IR.run gq.t20 C N (fnO gq.res K0) (yx gq.res K0) (gq.fr a0 .u .u .u .u .u .u) h nx:=yZ (F:=gq) (by kernel_rfl) (fun _=>by kernel_rfl) (by kernel_rfl)
theorem gq.ret:yx gq.res K0 (gq.fr a b d e f i l) h nx=K0 b h nx:=by kernel_rfl
theorem gy.jm:IR.run gy.t0 C N O K (gy.fr a b d e f i l q v z c) h nx =
 ql b h nx fun v1 h2 n3=>K (gy.fr a b d v1 f i l q v z c) h2 n3:=by kernel_rfl
theorem gy.jl:IR.run gy.t1 C N O K (gy.fr a b d e f i l q v z c) h nx =
 sLen d fun v1=>K (gy.fr a b d e f i d v1 (I 0) z c) h nx:=by kernel_rfl
theorem gy.qh:IR.run gy.t2 C N O K (gy.fr a b d e f i l q v z c) h nx =
 zi .lss .int v q fun v1=>K (gy.fr a b d e f i l q v v1 c) h nx:=by kernel_rfl
theorem gy.v9:Arg.ev (.t (.of 9)) ⟨(gy.fr a b d e f i l q v z c),[]⟩=z:=by kernel_rfl
theorem gy.rD:IR.run gy.t4 C N O K (gy.fr a b d e f i l q v z c) h nx =
 zL 4 l v fun v1=>zE 4 v1 h fun v2=>yV [(I 0),.zf,(I 0),.zf] h nx fun v3 h4 n5=>zW 4 v3 v2 h4 n5 fun v6 h7 n8=>K (gy.fr a b d e v v3 l q v z c) h7 n8:=by kernel_rfl
theorem gy.bJ:IR.run gy.t5 C N O K (gy.fr a b d e f i l q v z c) h nx =
 zE 4 i h fun v1=>C.fn 110 (.of 110) [v1] h nx fun v2 h3 n4=>zi .neq .int v2 (I 0) fun v5=>K (gy.fr a b d e f i l q v z v5) h3 n4:=by kernel_rfl
theorem gy.mg:IR.run gy.t6 C N O K (gy.fr a b d e f i l q v z c) h nx =
 zL 4 a f fun v1=>zE 4 v1 h fun v2=>zE 4 e h fun v3=>zE 4 i h fun v4=>C.fn 119 (.of 119) [v3,v4] h nx fun v5 h6 n7=>(zE 4 v1 h6 fun vE=>zV vE v2 ((zL 4 a f fun vG=>zV vG v1 (zV f f (zV a a (zV f f (zV a a (C.fn 192 (.of 192) [v2,v5] h6 n7 fun v8 h9 nC=>zV f f (zV a a (zL 4 a f fun vB=>zW 4 vB v8 h9 nC fun vI hF nG=>K (gy.fr a b d e f i l q v z c) hF nG)))))))))):=by kernel_rfl
theorem gy.v10:Arg.ev (.t (.of 10)) ⟨(gy.fr a b d e f i l q v z c),[]⟩=c:=by kernel_rfl
theorem gy.fZ:IR.run gy.t11 C N O K (gy.fr a b d e f i l q v z c) h nx =
 zi .add .int v (I 1) fun v1=>K (gy.fr a b d e f i l q v1 z c) h nx:=by kernel_rfl
theorem gy.zns (Inv:Nat->AV->T Blk->Pa->Prop) {m:Nat} (hm:m<N) (hi:Inv m v h nx)
  (step:∀ (m:Nat) (z4 z5 z8 z9 zA:AV) (h:T Blk) (nx:Pa) (R:Ks Prop),Inv m z8 h nx->(∀ (m':Nat) (w4 w5 w8 w9 wA:AV) (h':T Blk) (nx':Pa),m'<m->Inv m' w8 h' nx'->R (gy.fr a b d e w4 w5 l q w8 w9 wA) h' nx'=.ok True)->IR.run gy.t14 C N O R (gy.fr a b d e z4 z5 l q z8 z9 zA) h nx=.ok True) :
  IR.run gy.t15 C N O K (gy.fr a b d e f i l q v z c) h nx=.ok True:=by
 rw [gy.t15];refine yE (fun m tm h nx=>∃ z4 z5 z8 z9 zA,tm=(gy.fr a b d e z4 z5 l q z8 z9 zA)/\Inv m z8 h nx) ?_ hm ⟨_,_,_,_,_,rfl,hi⟩;rintro m tm h nx R ⟨z4,z5,z8,z9,zA,rfl,hi⟩ hR;exact step m z4 z5 z8 z9 zA h nx R hi fun m' w4 w5 w8 w9 wA h' nx' hlt hi'=>hR m' _ h' nx' hlt ⟨_,_,_,_,_,rfl,hi'⟩
theorem gy.go:zR tbl N C (.of 106) [a0,a1,a2] h nx K0=IR.run gy.t18 C N (fnO gy.res K0) (yx gy.res K0) (gy.fr a0 a1 a2 .u .u .u .u .u .u .u .u) h nx:=yZ (F:=gy) (by kernel_rfl) (fun _=>by kernel_rfl) (by kernel_rfl)
theorem gy.ret:yx gy.res K0 (gy.fr a b d e f i l q v z c) h nx=K0 (.tup []) h nx:=by kernel_rfl
theorem uf.jm:IR.run uf.t0 C N O K (uf.fr a b d e f i l q v z) h nx =
 ql b h nx fun v1 h2 n3=>K (uf.fr a b v1 e f i l q v z) h2 n3:=by kernel_rfl
theorem uf.jl:IR.run uf.t1 C N O K (uf.fr a b d e f i l q v z) h nx =
 sLen a fun v1=>K (uf.fr a b d e f a v1 (I 0) v z) h nx:=by kernel_rfl
theorem uf.qh:IR.run uf.t2 C N O K (uf.fr a b d e f i l q v z) h nx =
 zi .lss .int q l fun v1=>K (uf.fr a b d e f i l q v1 z) h nx:=by kernel_rfl
theorem uf.v8:Arg.ev (.t (.of 8)) ⟨(uf.fr a b d e f i l q v z),[]⟩=v:=by kernel_rfl
theorem uf.rD:IR.run uf.t4 C N O K (uf.fr a b d e f i l q v z) h nx =
 zL 4 i q fun v1=>zE 4 v1 h fun v2=>yV [(I 0),.zf,(I 0),.zf] h nx fun v3 h4 n5=>zW 4 v3 v2 h4 n5 fun v6 h7 n8=>K (uf.fr a b d q v3 i l q v z) h7 n8:=by kernel_rfl
theorem uf.bJ:IR.run uf.t5 C N O K (uf.fr a b d e f i l q v z) h nx =
 zE 4 f h fun v1=>C.fn 110 (.of 110) [v1] h nx fun v2 h3 n4=>zi .neq .int v2 (I 0) fun v5=>K (uf.fr a b d e f i l q v v5) h3 n4:=by kernel_rfl
theorem uf.mg:IR.run uf.t6 C N O K (uf.fr a b d e f i l q v z) h nx =
 zE 4 f h fun v1=>zE 4 d h fun v2=>C.fn 119 (.of 119) [v1,v2] h nx fun v3 h4 n5=>zL 4 a e fun v6=>zW 4 v6 v3 h4 n5 fun v7 h8 n9=>K (uf.fr a b d e f i l q v z) h8 n9:=by kernel_rfl
theorem uf.v9:Arg.ev (.t (.of 9)) ⟨(uf.fr a b d e f i l q v z),[]⟩=z:=by kernel_rfl
theorem uf.fZ:IR.run uf.t11 C N O K (uf.fr a b d e f i l q v z) h nx =
 zi .add .int q (I 1) fun v1=>K (uf.fr a b d e f i l v1 v z) h nx:=by kernel_rfl
theorem uf.zns (Inv:Nat->AV->T Blk->Pa->Prop) {m:Nat} (hm:m<N) (hi:Inv m q h nx)
  (step:∀ (m:Nat) (z3 z4 z7 z8 z9:AV) (h:T Blk) (nx:Pa) (R:Ks Prop),Inv m z7 h nx->(∀ (m':Nat) (w3 w4 w7 w8 w9:AV) (h':T Blk) (nx':Pa),m'<m->Inv m' w7 h' nx'->R (uf.fr a b d w3 w4 i l w7 w8 w9) h' nx'=.ok True)->IR.run uf.t14 C N O R (uf.fr a b d z3 z4 i l z7 z8 z9) h nx=.ok True) :
  IR.run uf.t15 C N O K (uf.fr a b d e f i l q v z) h nx=.ok True:=by
 rw [uf.t15];refine yE (fun m tm h nx=>∃ z3 z4 z7 z8 z9,tm=(uf.fr a b d z3 z4 i l z7 z8 z9)/\Inv m z7 h nx) ?_ hm ⟨_,_,_,_,_,rfl,hi⟩;rintro m tm h nx R ⟨z3,z4,z7,z8,z9,rfl,hi⟩ hR;exact step m z3 z4 z7 z8 z9 h nx R hi fun m' w3 w4 w7 w8 w9 h' nx' hlt hi'=>hR m' _ h' nx' hlt ⟨_,_,_,_,_,rfl,hi'⟩
theorem uf.go:zR tbl N C (.of 111) [a0,a1] h nx K0=IR.run uf.t18 C N (fnO uf.res K0) (yx uf.res K0) (uf.fr a0 a1 .u .u .u .u .u .u .u .u) h nx:=yZ (F:=uf) (by kernel_rfl) (fun _=>by kernel_rfl) (by kernel_rfl)
theorem uf.ret:yx uf.res K0 (uf.fr a b d e f i l q v z) h nx=K0 (.tup []) h nx:=by kernel_rfl
theorem fD.jm:IR.run fD.t0 C N O K (fD.fr a b d) h nx =
 K (fD.fr a b (.bool false)) h nx:=by kernel_rfl
theorem fD.jl:IR.run fD.t1 C N O K (fD.fr a b d) h nx =
 C.fn 247 (.of 247) [a,b] h nx fun v1 h2 n3=>zi .geq .int v1 (I 0) fun v4=>K (fD.fr a b v4) h2 n3:=by kernel_rfl
theorem fD.go:zR tbl N C (.of 182) [a0,a1] h nx K0=IR.run fD.t3 C N (fnO fD.res K0) (yx fD.res K0) (fD.fr a0 a1 .u) h nx:=yZ (F:=fD) (by kernel_rfl) (fun _=>by kernel_rfl) (by kernel_rfl)
theorem fD.ret:yx fD.res K0 (fD.fr a b d) h nx=K0 d h nx:=by kernel_rfl
theorem jq.jm:IR.run jq.t0 C N O K (jq.fr a b d e f i l q) h nx =
 K (jq.fr a b (I 0) e f i l q) h nx:=by kernel_rfl
theorem jq.jl:IR.run jq.t1 C N O K (jq.fr a b d e f i l q) h nx =
 sLen a fun v1=>K (jq.fr a b d e v1 (I 0) l q) h nx:=by kernel_rfl
theorem jq.qh:IR.run jq.t2 C N O K (jq.fr a b d e f i l q) h nx =
 zi .lss .int i f fun v1=>K (jq.fr a b d e f i v1 q) h nx:=by kernel_rfl
theorem jq.v6:Arg.ev (.t (.of 6)) ⟨(jq.fr a b d e f i l q),[]⟩=l:=by kernel_rfl
theorem jq.rD:IR.run jq.t4 C N O K (jq.fr a b d e f i l q) h nx =
 K (jq.fr a b d i f i l q) h nx:=by kernel_rfl
theorem jq.bJ:IR.run jq.t5 C N O K (jq.fr a b d e f i l q) h nx =
 zL 1 a e fun v1=>zH v1 h fun v2=>zi .eql .int b v2 fun v3=>K (jq.fr a b d e f i l v3) h nx:=by kernel_rfl
theorem jq.mg:IR.run jq.t6 C N O K (jq.fr a b d e f i l q) h nx =
 K (jq.fr a b e e f i l q) h nx:=by kernel_rfl
theorem jq.v7:Arg.ev (.t (.of 7)) ⟨(jq.fr a b d e f i l q),[]⟩=q:=by kernel_rfl
theorem jq.ng:IR.run jq.t12 C N O K (jq.fr a b d e f i l q) h nx =
 zi .add .int i (I 1) fun v1=>K (jq.fr a b d e f v1 l q) h nx:=by kernel_rfl
theorem jq.znt (Inv:Nat->AV->T Blk->Pa->Prop) {m:Nat} (hm:m<N) (hi:Inv m i h nx)
  (step:∀ (m:Nat) (z2 z3 z5 z6 z7:AV) (h:T Blk) (nx:Pa) (R:Ks Prop),Inv m z5 h nx->(∀ (m':Nat) (w2 w3 w5 w6 w7:AV) (h':T Blk) (nx':Pa),m'<m->Inv m' w5 h' nx'->R (jq.fr a b w2 w3 f w5 w6 w7) h' nx'=.ok True)->IR.run jq.t15 C N O R (jq.fr a b z2 z3 f z5 z6 z7) h nx=.ok True) :
  IR.run jq.t16 C N O K (jq.fr a b d e f i l q) h nx=.ok True:=by
 rw [jq.t16];refine yE (fun m tm h nx=>∃ z2 z3 z5 z6 z7,tm=(jq.fr a b z2 z3 f z5 z6 z7)/\Inv m z5 h nx) ?_ hm ⟨_,_,_,_,_,rfl,hi⟩;rintro m tm h nx R ⟨z2,z3,z5,z6,z7,rfl,hi⟩ hR;exact step m z2 z3 z5 z6 z7 h nx R hi fun m' w2 w3 w5 w6 w7 h' nx' hlt hi'=>hR m' _ h' nx' hlt ⟨_,_,_,_,_,rfl,hi'⟩
theorem jq.sW:IR.run jq.t19 C N O K (jq.fr a b d e f i l q) h nx =
 K (jq.fr a b (I (-1)) e f i l q) h nx:=by kernel_rfl
theorem jq.go:zR tbl N C (.of 247) [a0,a1] h nx K0=IR.run jq.t22 C N (fnO jq.res K0) (yx jq.res K0) (jq.fr a0 a1 .u .u .u .u .u .u) h nx:=yZ (F:=jq) (by kernel_rfl) (fun _=>by kernel_rfl) (by kernel_rfl)
theorem jq.ret:yx jq.res K0 (jq.fr a b d e f i l q) h nx=K0 d h nx:=by kernel_rfl
theorem F49.zab (X3:IR) (C:Calls Prop) (N:Nat) (O:dw Prop) (K:Ks Prop) (a b d e f i l:AV) (h:T Blk) (nx:Pa):IR.run (F49.g2 X3) C N O K (F49.fr a b d e f i l) h nx =
 IR.run X3 C N (O.blk 0 K) K (F49.fr a b d e f i l) h nx:=by kernel_rfl
theorem F49.tab:T.get none (.of 49) tbl=some F49:=by kernel_rfl
theorem F49.go:zR tbl N C (.of 49) [a0,a1] h nx K0 =
 sLen a0 fun v1=>sLen a1 fun v2=>zi .neq .int v1 v2 fun v3=>yF v3 (K0 (.bool false) h nx) (IR.run F49.b2 C N (fnO F49.res K0) (IR.run F49.b9 C N (fnO F49.res K0) (yx F49.res K0)) (F49.fr a0 a1 (.bool false) (I 0) v3 .u .u) h nx):=by
 rw [yD F49.tab];kernel_rfl
theorem F49.e2:IR.run F49.b4 C N ((fnO F49.res K0).blk 0 K) R (F49.fr a b d e f i l) h nx =
 sLen a fun v1=>zi .lss .int e v1 fun v2=>yF v2 (zL 1 a e fun v3=>zH v3 h fun v4=>zL 1 b e fun v5=>zH v5 h fun v6=>zi .neq .int v4 v6 fun v7=>yF v7 (K0 (.bool false) h nx) (zi .add .int e (I 1) fun v8=>R (F49.fr a b d v8 f v2 v7) h nx)) (K (F49.fr a b d e f v2 l) h nx):=by kernel_rfl
theorem F49.L2 (Inv:Nat->AV->T Blk->Pa->Prop) {m:Nat} (hm:m<N) (hi:Inv m e h nx)
  (step:∀ (m:Nat) (z2 z3 z5 z6:AV) (h:T Blk) (nx:Pa) (R:Ks Prop),Inv m z3 h nx->(∀ (m':Nat) (w2 w3 w5 w6:AV) (h':T Blk) (nx':Pa),m'<m->Inv m' w3 h' nx'->R (F49.fr a b w2 w3 f w5 w6) h' nx'=.ok True) ->
   (sLen a fun v1=>zi .lss .int z3 v1 fun v2=>yF v2 (zL 1 a z3 fun v3=>zH v3 h fun v4=>zL 1 b z3 fun v5=>zH v5 h fun v6=>zi .neq .int v4 v6 fun v7=>yF v7 (K0 (.bool false) h nx) (zi .add .int z3 (I 1) fun v8=>R (F49.fr a b z2 v8 f v2 v7) h nx)) (K (F49.fr a b z2 z3 f v2 z6) h nx))=.ok True) :
  IR.run F49.b2 C N (fnO F49.res K0) K (F49.fr a b d e f i l) h nx=.ok True:=by
 rw [F49.b2,F49.zab,F49.b3];refine yE (fun m tm h nx=>∃ z2 z3 z5 z6,tm=(F49.fr a b z2 z3 f z5 z6)/\Inv m z3 h nx) ?_ hm ⟨_,_,_,_,rfl,hi⟩;rintro m tm h nx R ⟨z2,z3,z5,z6,rfl,hi⟩ hR;rw [F49.e2];exact step m z2 z3 z5 z6 h nx R hi fun m' w2 w3 w5 w6 h' nx' hlt hi'=>hR m' _ h' nx' hlt ⟨_,_,_,_,rfl,hi'⟩
theorem F49.k9:IR.run F49.b9 C N (fnO F49.res K0) K (F49.fr a b d e f i l) h nx =
 K0 (.bool true) h nx:=by kernel_rfl
theorem eH.tab:T.get none (.of 176) tbl=some eH:=by kernel_rfl
theorem eH.go:zR tbl N C (.of 176) [a0,a1] h nx K0 =
 zH a1 h fun v1=>C.fn 177 (.of 177) [a0,v1] h nx fun v2 h3 n4=>K0 v2 h3 n4:=by
 rw [yD eH.tab];kernel_rfl
theorem eY.tab:T.get none (.of 175) tbl=some eY:=by kernel_rfl
theorem eY.go:zR tbl N C (.of 175) [a0,a1] h nx K0 =
 C.fn 245 (.of 245) [a0,a1] h nx fun v1 h2 n3=>zi .geq .int v1 (I 0) fun v4=>K0 v4 h2 n3:=by
 rw [yD eY.tab];kernel_rfl
theorem qy.nY (X2:IR) (C:Calls Prop) (N:Nat) (O:dw Prop) (K:Ks Prop) (a b d e f i l q:AV) (h:T Blk) (nx:Pa):IR.run (qy.g1 X2) C N O K (qy.fr a b d e f i l q) h nx =
 IR.run X2 C N (O.blk 0 K) K (qy.fr a b d e f i l q) h nx:=by kernel_rfl
theorem qy.tab:T.get none (.of 245) tbl=some qy:=by kernel_rfl
theorem qy.go:zR tbl N C (.of 245) [a0,a1] h nx K0 =
 sLen a0 fun v1=>IR.run qy.b1 C N (fnO qy.res K0) (IR.run qy.b8 C N (fnO qy.res K0) (yx qy.res K0)) (qy.fr a0 a1 (I 0) .u v1 (I 0) .u .u) h nx:=by
 rw [yD qy.tab];kernel_rfl
theorem qy.e1:IR.run qy.b3 C N ((fnO qy.res K0).blk 0 K) R (qy.fr a b d e f i l q) h nx =
 zi .lss .int i f fun v1=>yF v1 (zL 1 a i fun v2=>zH v2 h fun v3=>vF C b [v3] h nx fun v4 h5 n6=>yF v4 (K0 i h5 n6) (zi .add .int i (I 1) fun v7=>R (qy.fr a b d i f v7 v1 v4) h5 n6)) (K (qy.fr a b d e f i v1 q) h nx):=by kernel_rfl
theorem qy.L1 (Inv:Nat->AV->T Blk->Pa->Prop) {m:Nat} (hm:m<N) (hi:Inv m i h nx)
  (step:∀ (m:Nat) (z2 z3 z5 z6 z7:AV) (h:T Blk) (nx:Pa) (R:Ks Prop),Inv m z5 h nx->(∀ (m':Nat) (w2 w3 w5 w6 w7:AV) (h':T Blk) (nx':Pa),m'<m->Inv m' w5 h' nx'->R (qy.fr a b w2 w3 f w5 w6 w7) h' nx'=.ok True) ->
   (zi .lss .int z5 f fun v1=>yF v1 (zL 1 a z5 fun v2=>zH v2 h fun v3=>vF C b [v3] h nx fun v4 h5 n6=>yF v4 (K0 z5 h5 n6) (zi .add .int z5 (I 1) fun v7=>R (qy.fr a b z2 z5 f v7 v1 v4) h5 n6)) (K (qy.fr a b z2 z3 f z5 v1 z7) h nx))=.ok True) :
  IR.run qy.b1 C N (fnO qy.res K0) K (qy.fr a b d e f i l q) h nx=.ok True:=by
 rw [qy.b1,qy.nY,qy.b2];refine yE (fun m tm h nx=>∃ z2 z3 z5 z6 z7,tm=(qy.fr a b z2 z3 f z5 z6 z7)/\Inv m z5 h nx) ?_ hm ⟨_,_,_,_,_,rfl,hi⟩;rintro m tm h nx R ⟨z2,z3,z5,z6,z7,rfl,hi⟩ hR;rw [qy.e1];exact step m z2 z3 z5 z6 z7 h nx R hi fun m' w2 w3 w5 w6 w7 h' nx' hlt hi'=>hR m' _ h' nx' hlt ⟨_,_,_,_,_,rfl,hi'⟩
theorem qy.k8:IR.run qy.b8 C N (fnO qy.res K0) K (qy.fr a b d e f i l q) h nx =
 K0 (I (-1)) h nx:=by kernel_rfl
theorem wu.zab (X3:IR) (C:Calls Prop) (N:Nat) (O:dw Prop) (K:Ks Prop) (a b d e f i l q v:AV) (h:T Blk) (nx:Pa):IR.run (wu.g2 X3) C N O K (wu.fr a b d e f i l q v) h nx =
 IR.run X3 C N (O.blk 0 K) K (wu.fr a b d e f i l q v) h nx:=by kernel_rfl
theorem wu.tab:T.get none (.of 177) tbl=some wu:=by kernel_rfl
theorem wu.go:zR tbl N C (.of 177) [a0,a1] h nx K0 =
 sLen a0 fun v1=>sLen a1 fun v2=>zi .neq .int v1 v2 fun v3=>yF v3 (K0 (.bool false) h nx) (sLen a0 fun v4=>IR.run wu.b2 C N (fnO wu.res K0) (IR.run wu.b9 C N (fnO wu.res K0) (yx wu.res K0)) (wu.fr a0 a1 (.bool false) .u v3 v4 (I 0) .u .u) h nx):=by
 rw [yD wu.tab];kernel_rfl
theorem wu.e2:IR.run wu.b4 C N ((fnO wu.res K0).blk 0 K) R (wu.fr a b d e f i l q v) h nx =
 zi .lss .int l i fun v1=>yF v1 (zL 1 a l fun v2=>zH v2 h fun v3=>zL 1 b l fun v4=>zH v4 h fun v5=>zi .neq .int v3 v5 fun v6=>yF v6 (K0 (.bool false) h nx) (zi .add .int l (I 1) fun v7=>R (wu.fr a b d l f i v7 v1 v6) h nx)) (K (wu.fr a b d e f i l v1 v) h nx):=by kernel_rfl
theorem wu.L2 (Inv:Nat->AV->T Blk->Pa->Prop) {m:Nat} (hm:m<N) (hi:Inv m l h nx)
  (step:∀ (m:Nat) (z2 z3 z6 z7 z8:AV) (h:T Blk) (nx:Pa) (R:Ks Prop),Inv m z6 h nx->(∀ (m':Nat) (w2 w3 w6 w7 w8:AV) (h':T Blk) (nx':Pa),m'<m->Inv m' w6 h' nx'->R (wu.fr a b w2 w3 f i w6 w7 w8) h' nx'=.ok True) ->
   (zi .lss .int z6 i fun v1=>yF v1 (zL 1 a z6 fun v2=>zH v2 h fun v3=>zL 1 b z6 fun v4=>zH v4 h fun v5=>zi .neq .int v3 v5 fun v6=>yF v6 (K0 (.bool false) h nx) (zi .add .int z6 (I 1) fun v7=>R (wu.fr a b z2 z6 f i v7 v1 v6) h nx)) (K (wu.fr a b z2 z3 f i z6 v1 z8) h nx))=.ok True) :
  IR.run wu.b2 C N (fnO wu.res K0) K (wu.fr a b d e f i l q v) h nx=.ok True:=by
 rw [wu.b2,wu.zab,wu.b3];refine yE (fun m tm h nx=>∃ z2 z3 z6 z7 z8,tm=(wu.fr a b z2 z3 f i z6 z7 z8)/\Inv m z6 h nx) ?_ hm ⟨_,_,_,_,_,rfl,hi⟩;rintro m tm h nx R ⟨z2,z3,z6,z7,z8,rfl,hi⟩ hR;rw [wu.e2];exact step m z2 z3 z6 z7 z8 h nx R hi fun m' w2 w3 w6 w7 w8 h' nx' hlt hi'=>hR m' _ h' nx' hlt ⟨_,_,_,_,_,rfl,hi'⟩
theorem wu.k9:IR.run wu.b9 C N (fnO wu.res K0) K (wu.fr a b d e f i l q v) h nx =
 K0 (.bool true) h nx:=by kernel_rfl
theorem F90.nY (X2:IR) (C:Calls Prop) (N:Nat) (O:dw Prop) (K:Ks Prop) (a b d e f i:AV) (h:T Blk) (nx:Pa):IR.run (F90.g1 X2) C N O K (F90.fr a b d e f i) h nx =
 IR.run X2 C N (O.blk 0 K) K (F90.fr a b d e f i) h nx:=by kernel_rfl
theorem F90.tab:T.get none (.of 90) tbl=some F90:=by kernel_rfl
theorem F90.go:zR tbl N C (.of 90) [a0,a1] h nx K0 =
 IR.run F90.b1 C N (fnO F90.res K0) (IR.run F90.b8 C N (fnO F90.res K0) (yx F90.res K0)) (F90.fr a0 a1 (.bool false) (I 0) .u .u) h nx:=by
 rw [yD F90.tab];kernel_rfl
theorem F90.e1:IR.run F90.b3 C N ((fnO F90.res K0).blk 0 K) R (F90.fr a b d e f i) h nx =
 sLen a fun v1=>zi .lss .int e v1 fun v2=>yF v2 (zL 1 a e fun v3=>zH v3 h fun v4=>C.fn 49 (.of 49) [v4,b] h nx fun v5 h6 n7=>yF v5 (K0 (.bool true) h6 n7) (zi .add .int e (I 1) fun v8=>R (F90.fr a b d v8 v2 v5) h6 n7)) (K (F90.fr a b d e v2 i) h nx):=by kernel_rfl
theorem F90.L1 (Inv:Nat->AV->T Blk->Pa->Prop) {m:Nat} (hm:m<N) (hi:Inv m e h nx)
  (step:∀ (m:Nat) (z2 z3 z4 z5:AV) (h:T Blk) (nx:Pa) (R:Ks Prop),Inv m z3 h nx->(∀ (m':Nat) (w2 w3 w4 w5:AV) (h':T Blk) (nx':Pa),m'<m->Inv m' w3 h' nx'->R (F90.fr a b w2 w3 w4 w5) h' nx'=.ok True) ->
   (sLen a fun v1=>zi .lss .int z3 v1 fun v2=>yF v2 (zL 1 a z3 fun v3=>zH v3 h fun v4=>C.fn 49 (.of 49) [v4,b] h nx fun v5 h6 n7=>yF v5 (K0 (.bool true) h6 n7) (zi .add .int z3 (I 1) fun v8=>R (F90.fr a b z2 v8 v2 v5) h6 n7)) (K (F90.fr a b z2 z3 v2 z5) h nx))=.ok True) :
  IR.run F90.b1 C N (fnO F90.res K0) K (F90.fr a b d e f i) h nx=.ok True:=by
 rw [F90.b1,F90.nY,F90.b2];refine yE (fun m tm h nx=>∃ z2 z3 z4 z5,tm=(F90.fr a b z2 z3 z4 z5)/\Inv m z3 h nx) ?_ hm ⟨_,_,_,_,rfl,hi⟩;rintro m tm h nx R ⟨z2,z3,z4,z5,rfl,hi⟩ hR;rw [F90.e1];exact step m z2 z3 z4 z5 h nx R hi fun m' w2 w3 w4 w5 h' nx' hlt hi'=>hR m' _ h' nx' hlt ⟨_,_,_,_,rfl,hi'⟩
theorem F90.k8:IR.run F90.b8 C N (fnO F90.res K0) K (F90.fr a b d e f i) h nx =
 K0 (.bool false) h nx:=by kernel_rfl
theorem F86.nY (X2:IR) (C:Calls Prop) (N:Nat) (O:dw Prop) (K:Ks Prop) (a b d e f i l q:AV) (h:T Blk) (nx:Pa):IR.run (F86.g1 X2) C N O K (F86.fr a b d e f i l q) h nx =
 IR.run X2 C N (O.blk 0 K) K (F86.fr a b d e f i l q) h nx:=by kernel_rfl
theorem F86.tab:T.get none (.of 86) tbl=some F86:=by kernel_rfl
theorem F86.go:zR tbl N C (.of 86) [a0] h nx K0 =
 sLen a0 fun v1=>IR.run F86.b1 C N (fnO F86.res K0) (IR.run F86.b8 C N (fnO F86.res K0) (yx F86.res K0)) (F86.fr a0 (I 0) .u a0 v1 (I 0) .u .u) h nx:=by
 rw [yD F86.tab];kernel_rfl
theorem F86.e1:IR.run F86.b3 C N ((fnO F86.res K0).blk 0 K) R (F86.fr a b d e f i l q) h nx =
 zi .lss .int i f fun v1=>yF v1 (zL 1 e i fun v2=>zH v2 h fun v3=>zi .neq .int v3 (I 0) fun v4=>yF v4 (K0 v3 h nx) (zi .add .int i (I 1) fun v5=>R (F86.fr a b v3 e f v5 v1 v4) h nx)) (K (F86.fr a b d e f i v1 q) h nx):=by kernel_rfl
theorem F86.L1 (Inv:Nat->AV->T Blk->Pa->Prop) {m:Nat} (hm:m<N) (hi:Inv m i h nx)
  (step:∀ (m:Nat) (z1 z2 z5 z6 z7:AV) (h:T Blk) (nx:Pa) (R:Ks Prop),Inv m z5 h nx->(∀ (m':Nat) (w1 w2 w5 w6 w7:AV) (h':T Blk) (nx':Pa),m'<m->Inv m' w5 h' nx'->R (F86.fr a w1 w2 e f w5 w6 w7) h' nx'=.ok True) ->
   (zi .lss .int z5 f fun v1=>yF v1 (zL 1 e z5 fun v2=>zH v2 h fun v3=>zi .neq .int v3 (I 0) fun v4=>yF v4 (K0 v3 h nx) (zi .add .int z5 (I 1) fun v5=>R (F86.fr a z1 v3 e f v5 v1 v4) h nx)) (K (F86.fr a z1 z2 e f z5 v1 z7) h nx))=.ok True) :
  IR.run F86.b1 C N (fnO F86.res K0) K (F86.fr a b d e f i l q) h nx=.ok True:=by
 rw [F86.b1,F86.nY,F86.b2];refine yE (fun m tm h nx=>∃ z1 z2 z5 z6 z7,tm=(F86.fr a z1 z2 e f z5 z6 z7)/\Inv m z5 h nx) ?_ hm ⟨_,_,_,_,_,rfl,hi⟩;rintro m tm h nx R ⟨z1,z2,z5,z6,z7,rfl,hi⟩ hR;rw [F86.e1];exact step m z1 z2 z5 z6 z7 h nx R hi fun m' w1 w2 w5 w6 w7 h' nx' hlt hi'=>hR m' _ h' nx' hlt ⟨_,_,_,_,_,rfl,hi'⟩
theorem F86.k8:IR.run F86.b8 C N (fnO F86.res K0) K (F86.fr a b d e f i l q) h nx =
 K0 (I 0) h nx:=by kernel_rfl
theorem F88.tab:T.get none (.of 88) tbl=some F88:=by kernel_rfl
theorem F88.go:zR tbl N C (.of 88) [a0,a1] h nx K0 =
 yF a0 (K0 a1 h nx) (K0 (I 0) h nx):=by
 rw [yD F88.tab];kernel_rfl
theorem F16.zab (X3:IR) (C:Calls Prop) (N:Nat) (O:dw Prop) (K:Ks Prop) (a b d e f i l q v:AV) (h:T Blk) (nx:Pa):IR.run (F16.g2 X3) C N O K (F16.fr a b d e f i l q v) h nx =
 IR.run X3 C N (O.blk 0 K) K (F16.fr a b d e f i l q v) h nx:=by kernel_rfl
theorem F16.tab:T.get none (.of 16) tbl=some F16:=by kernel_rfl
theorem F16.go:zR tbl N C (.of 16) [a0,a1,a2] h nx K0 =
 ql a0 h nx fun v1 h2 n3=>zI 1 v1 fun v4=>zH v4 h2 fun v5=>sLen v5 fun v6=>zi .gtr .int v6 a2 fun v7=>yF v7 (K0 (.bool false) h2 n3) (IR.run F16.b2 C N (fnO F16.res K0) (IR.run F16.b9 C N (fnO F16.res K0) (yx F16.res K0)) (F16.fr a0 a1 a2 v1 (.bool false) (I 0) v7 .u .u) h2 n3):=by
 rw [yD F16.tab];kernel_rfl
theorem F16.e2:IR.run F16.b4 C N ((fnO F16.res K0).blk 0 K) R (F16.fr a b d e f i l q v) h nx =
 zI 1 e fun v1=>zH v1 h fun v2=>sLen v2 fun v3=>zi .lss .int i v3 fun v4=>yF v4 (zI 1 e fun v5=>zH v5 h fun v6=>zL 1 v6 i fun v7=>zH v7 h fun v8=>sLen v8 fun v9=>zi .gtr .int v9 b fun vA=>yF vA (K0 (.bool false) h nx) (zi .add .int i (I 1) fun vB=>R (F16.fr a b d e f vB l v4 vA) h nx)) (K (F16.fr a b d e f i l v4 v) h nx):=by kernel_rfl
theorem F16.L2 (Inv:Nat->AV->T Blk->Pa->Prop) {m:Nat} (hm:m<N) (hi:Inv m i h nx)
  (step:∀ (m:Nat) (z4 z5 z7 z8:AV) (h:T Blk) (nx:Pa) (R:Ks Prop),Inv m z5 h nx->(∀ (m':Nat) (w4 w5 w7 w8:AV) (h':T Blk) (nx':Pa),m'<m->Inv m' w5 h' nx'->R (F16.fr a b d e w4 w5 l w7 w8) h' nx'=.ok True) ->
   (zI 1 e fun v1=>zH v1 h fun v2=>sLen v2 fun v3=>zi .lss .int z5 v3 fun v4=>yF v4 (zI 1 e fun v5=>zH v5 h fun v6=>zL 1 v6 z5 fun v7=>zH v7 h fun v8=>sLen v8 fun v9=>zi .gtr .int v9 b fun vA=>yF vA (K0 (.bool false) h nx) (zi .add .int z5 (I 1) fun vB=>R (F16.fr a b d e z4 vB l v4 vA) h nx)) (K (F16.fr a b d e z4 z5 l v4 z8) h nx))=.ok True) :
  IR.run F16.b2 C N (fnO F16.res K0) K (F16.fr a b d e f i l q v) h nx=.ok True:=by
 rw [F16.b2,F16.zab,F16.b3];refine yE (fun m tm h nx=>∃ z4 z5 z7 z8,tm=(F16.fr a b d e z4 z5 l z7 z8)/\Inv m z5 h nx) ?_ hm ⟨_,_,_,_,rfl,hi⟩;rintro m tm h nx R ⟨z4,z5,z7,z8,rfl,hi⟩ hR;rw [F16.e2];exact step m z4 z5 z7 z8 h nx R hi fun m' w4 w5 w7 w8 h' nx' hlt hi'=>hR m' _ h' nx' hlt ⟨_,_,_,_,rfl,hi'⟩
theorem F16.k9:IR.run F16.b9 C N (fnO F16.res K0) K (F16.fr a b d e f i l q v) h nx =
 K0 (.bool true) h nx:=by kernel_rfl
theorem F19.zxa (X11:IR) (C:Calls Prop) (N:Nat) (O:dw Prop) (K:Ks Prop) (a b d e f i l q v z c g p o:AV) (h:T Blk) (nx:Pa):IR.run (F19.g10 X11) C N O K (F19.fr a b d e f i l q v z c g p o) h nx =
 IR.run X11 C N (O.blk 2 K) K (F19.fr a b d e f i l q v z c g p o) h nx:=by kernel_rfl
theorem F19.zzr (X4:IR) (C:Calls Prop) (N:Nat) (O:dw Prop) (K:Ks Prop) (a b d e f i l q v z c g p o:AV) (h:T Blk) (nx:Pa):IR.run (F19.g3 X4) C N O K (F19.fr a b d e f i l q v z c g p o) h nx =
 IR.run X4 C N (O.blk 0 K) K (F19.fr a b d e f i l q v z c g p o) h nx:=by kernel_rfl
theorem F19.tab:T.get none (.of 19) tbl=some F19:=by kernel_rfl
theorem F19.go:zR tbl N C (.of 19) [a0] h nx K0 =
 ql a0 h nx fun v1 h2 n3=>zI 0 v1 fun v4=>zH v4 h2 fun v5=>zi .lss .int v5 (I 1) fun v6=>sG v6 false (fun k=>zI 0 v1 k) fun v7=>sG v6 false (fun k=>zH v7 h2 k) fun v8=>sG v6 false (fun k=>zi .gtr .int v8 (I 256) k) fun v9=>yT v6 (.bool true) v9 fun vA=>yF vA (K0 (I 3) h2 n3) (zI 1 v1 fun vB=>zH vB h2 fun vI=>sLen vI fun vH=>zi .gtr .int vH (I 128) fun vC=>yF vC (K0 (I 5) h2 n3) (IR.run F19.b3 C N (fnO F19.res K0) (IR.run F19.b20 C N (fnO F19.res K0) (yx F19.res K0)) (F19.fr a0 v1 (I 0) (I 0) .u .u vA vC .u .u .u .u .u .u) h2 n3)):=by
 rw [yD F19.tab];kernel_rfl
theorem F19.e3:IR.run F19.b5 C N ((fnO F19.res K0).blk 0 K) R (F19.fr a b d e f i l q v z c g p o) h nx =
 zI 1 b fun v1=>zH v1 h fun v2=>sLen v2 fun v3=>zi .lss .int e v3 fun v4=>yF v4 (zI 1 b fun v5=>zH v5 h fun v6=>zL 1 v6 e fun v7=>zH v7 h fun v8=>sLen v8 fun v9=>zi .eql .int v9 (I 0) fun vA=>yF vA (K0 (I 12) h nx) (IR.run F19.b10 C N (((fnO F19.res K0).blk 0 K).blk 1 (IR.run F19.b19 C N ((fnO F19.res K0).blk 0 K) R)) (IR.run F19.b18 C N (((fnO F19.res K0).blk 0 K).blk 1 (IR.run F19.b19 C N ((fnO F19.res K0).blk 0 K) R)) (IR.run F19.b19 C N ((fnO F19.res K0).blk 0 K) R)) (F19.fr a b d e v8 (I 0) l q v4 vA c g p o) h nx)) (K (F19.fr a b d e f i l q v4 z c g p o) h nx):=by kernel_rfl
theorem F19.L3 (Inv:Nat->AV->T Blk->Pa->Prop) {m:Nat} (hm:m<N) (hi:Inv m e h nx)
  (step:∀ (m:Nat) (z2 z3 z4 z5 z8 z9 zA zB zM zO:AV) (h:T Blk) (nx:Pa) (R:Ks Prop),Inv m z3 h nx->(∀ (m':Nat) (w2 w3 w4 w5 w8 w9 wA wB wJ wK:AV) (h':T Blk) (nx':Pa),m'<m->Inv m' w3 h' nx'->R (F19.fr a b w2 w3 w4 w5 l q w8 w9 wA wB wJ wK) h' nx'=.ok True) ->
   (zI 1 b fun v1=>zH v1 h fun v2=>sLen v2 fun v3=>zi .lss .int z3 v3 fun v4=>yF v4 (zI 1 b fun v5=>zH v5 h fun v6=>zL 1 v6 z3 fun v7=>zH v7 h fun v8=>sLen v8 fun v9=>zi .eql .int v9 (I 0) fun vA=>yF vA (K0 (I 12) h nx) (IR.run F19.b10 C N (((fnO F19.res K0).blk 0 K).blk 1 (IR.run F19.b19 C N ((fnO F19.res K0).blk 0 K) R)) (IR.run F19.b18 C N (((fnO F19.res K0).blk 0 K).blk 1 (IR.run F19.b19 C N ((fnO F19.res K0).blk 0 K) R)) (IR.run F19.b19 C N ((fnO F19.res K0).blk 0 K) R)) (F19.fr a b z2 z3 v8 (I 0) l q v4 vA zA zB zM zO) h nx)) (K (F19.fr a b z2 z3 z4 z5 l q v4 z9 zA zB zM zO) h nx))=.ok True) :
  IR.run F19.b3 C N (fnO F19.res K0) K (F19.fr a b d e f i l q v z c g p o) h nx=.ok True:=by
 rw [F19.b3,F19.zzr,F19.b4];refine yE (fun m tm h nx=>∃ z2 z3 z4 z5 z8 z9 zA zB zM zO,tm=(F19.fr a b z2 z3 z4 z5 l q z8 z9 zA zB zM zO)/\Inv m z3 h nx) ?_ hm ⟨_,_,_,_,_,_,_,_,_,_,rfl,hi⟩;rintro m tm h nx R ⟨z2,z3,z4,z5,z8,z9,zA,zB,zM,zO,rfl,hi⟩ hR;rw [F19.e3];exact step m z2 z3 z4 z5 z8 z9 zA zB zM zO h nx R hi fun m' w2 w3 w4 w5 w8 w9 wA wB wJ wK h' nx' hlt hi'=>hR m' _ h' nx' hlt ⟨_,_,_,_,_,_,_,_,_,_,rfl,hi'⟩
theorem F19.k20:IR.run F19.b20 C N (fnO F19.res K0) K (F19.fr a b d e f i l q v z c g p o) h nx =
 K0 (I 0) h nx:=by kernel_rfl
theorem F19.k19 {E0:Ks Prop}:IR.run F19.b19 C N ((fnO F19.res K0).blk 0 E0) K (F19.fr a b d e f i l q v z c g p o) h nx =
 zi .add .int e (I 1) fun v1=>K (F19.fr a b d v1 f i l q v z c g p o) h nx:=by kernel_rfl
theorem F19.e10 {E0 E1:Ks Prop}:IR.run F19.b12 C N ((((fnO F19.res K0).blk 0 E0).blk 1 E1).blk 2 K) R (F19.fr a b d e f i l q v z c g p o) h nx =
 sLen f fun v1=>zi .lss .int i v1 fun v2=>yF v2 (zL 1 f i fun v3=>zH v3 h fun v4=>zi .lss .int v4 (I 0) fun v5=>sG v5 false (fun k=>k f) fun v6=>sG v5 false (fun k=>k i) fun v7=>sG v5 false (fun k=>zL 1 v6 v7 k) fun v8=>sG v5 false (fun k=>zH v8 h k) fun v9=>sG v5 false (fun k=>zI 0 b k) fun vA=>sG v5 false (fun k=>zH vA h k) fun vB=>sG v5 false (fun k=>zi .geq .int v9 vB k) fun vI=>yT v5 (.bool true) vI fun vH=>yF vH (K0 (I 10) h nx) ((IR.run F19.b16 C N (((((fnO F19.res K0).blk 0 E0).blk 1 E1).blk 2 K).blk 3 (IR.run F19.b17 C N ((((fnO F19.res K0).blk 0 E0).blk 1 E1).blk 2 K) R)) (IR.run F19.b17 C N ((((fnO F19.res K0).blk 0 E0).blk 1 E1).blk 2 K) R)) (F19.fr a b d e f i l q v z v2 vH p o) h nx)) (K (F19.fr a b d e f i l q v z v2 g p o) h nx):=by kernel_rfl
theorem F19.L10 {E0 E1:Ks Prop} (Inv:Nat->AV->T Blk->Pa->Prop) {m:Nat} (hm:m<N) (hi:Inv m i h nx)
  (step:∀ (m:Nat) (z2 z5 zA zB zM:AV) (h:T Blk) (nx:Pa) (R:Ks Prop),Inv m z5 h nx->(∀ (m':Nat) (w2 w5 wA wB wJ:AV) (h':T Blk) (nx':Pa),m'<m->Inv m' w5 h' nx'->R (F19.fr a b w2 e f w5 l q v z wA wB wJ o) h' nx'=.ok True) ->
   (sLen f fun v1=>zi .lss .int z5 v1 fun v2=>yF v2 (zL 1 f z5 fun v3=>zH v3 h fun v4=>zi .lss .int v4 (I 0) fun v5=>sG v5 false (fun k=>k f) fun v6=>sG v5 false (fun k=>k z5) fun v7=>sG v5 false (fun k=>zL 1 v6 v7 k) fun v8=>sG v5 false (fun k=>zH v8 h k) fun v9=>sG v5 false (fun k=>zI 0 b k) fun vA=>sG v5 false (fun k=>zH vA h k) fun vB=>sG v5 false (fun k=>zi .geq .int v9 vB k) fun vI=>yT v5 (.bool true) vI fun vH=>yF vH (K0 (I 10) h nx) ((IR.run F19.b16 C N (((((fnO F19.res K0).blk 0 E0).blk 1 E1).blk 2 K).blk 3 (IR.run F19.b17 C N ((((fnO F19.res K0).blk 0 E0).blk 1 E1).blk 2 K) R)) (IR.run F19.b17 C N ((((fnO F19.res K0).blk 0 E0).blk 1 E1).blk 2 K) R)) (F19.fr a b z2 e f z5 l q v z v2 vH zM o) h nx)) (K (F19.fr a b z2 e f z5 l q v z v2 zB zM o) h nx))=.ok True) :
  IR.run F19.b10 C N (((fnO F19.res K0).blk 0 E0).blk 1 E1) K (F19.fr a b d e f i l q v z c g p o) h nx=.ok True:=by
 rw [F19.b10,F19.zxa,F19.b11];refine yE (fun m tm h nx=>∃ z2 z5 zA zB zM,tm=(F19.fr a b z2 e f z5 l q v z zA zB zM o)/\Inv m z5 h nx) ?_ hm ⟨_,_,_,_,_,rfl,hi⟩;rintro m tm h nx R ⟨z2,z5,zA,zB,zM,rfl,hi⟩ hR;rw [F19.e10];exact step m z2 z5 zA zB zM h nx R hi fun m' w2 w5 wA wB wJ h' nx' hlt hi'=>hR m' _ h' nx' hlt ⟨_,_,_,_,_,rfl,hi'⟩
theorem F19.k18 {E0 E1:Ks Prop}:IR.run F19.b18 C N (((fnO F19.res K0).blk 0 E0).blk 1 E1) K (F19.fr a b d e f i l q v z c g p o) h nx =
 zI 1 b fun v1=>zH v1 h fun v2=>kZ 1 v2 none (some e) none fun v3=>C.fn 90 (.of 90) [v3,f] h nx fun v4 h5 n6=>yF v4 (K0 (I 9) h5 n6) (K (F19.fr a b d e f i l q v z c g p v4) h5 n6):=by kernel_rfl
theorem F19.k17 {E0 E1 E2:Ks Prop}:IR.run F19.b17 C N ((((fnO F19.res K0).blk 0 E0).blk 1 E1).blk 2 E2) K (F19.fr a b d e f i l q v z c g p o) h nx =
 zi .add .int i (I 1) fun v1=>K (F19.fr a b d e f v1 l q v z c g p o) h nx:=by kernel_rfl
theorem F19.k16 {E0 E1 E2 E3:Ks Prop}:IR.run F19.b16 C N (((((fnO F19.res K0).blk 0 E0).blk 1 E1).blk 2 E2).blk 3 E3) K (F19.fr a b d e f i l q v z c g p o) h nx =
 zi .gtr .int i (I 0) fun v1=>sG v1 true (fun k=>k f) fun v2=>sG v1 true (fun k=>k i) fun v3=>sG v1 true (fun k=>zL 1 v2 v3 k) fun v4=>sG v1 true (fun k=>zH v4 h k) fun v5=>sG v1 true (fun k=>k f) fun v6=>sG v1 true (fun k=>k i) fun v7=>sG v1 true (fun k=>zi .sub .int v7 (I 1) k) fun v8=>sG v1 true (fun k=>zL 1 v6 v8 k) fun v9=>sG v1 true (fun k=>zH v9 h k) fun vA=>sG v1 true (fun k=>zi .leq .int v5 vA k) fun vB=>yT v1 vB (.bool false) fun vI=>yF vI (K0 (I 11) h nx) (K (F19.fr a b d e f i l q v z c g vI o) h nx):=by kernel_rfl
theorem F87.tab:T.get none (.of 87) tbl=some F87:=by kernel_rfl
theorem F87.go:zR tbl N C (.of 87) [a0,a1,a2] h nx K0 =
 ql a0 h nx fun v1 h2 n3=>ql a1 h2 n3 fun v4 h5 n6=>C.fn 173 (.of 173) [a2,(.fn 174 (.of 174) [v1,v4])] h5 n6 fun v7 h8 n9=>C.fn 88 (.of 88) [v7,(I 3)] h8 n9 fun vA hC nD=>K0 vA hC nD:=by
 rw [yD F87.tab];kernel_rfl
theorem oh.tab:T.get none (.of 174) tbl=some oh:=by kernel_rfl
theorem oh.go:zR tbl N C (.of 174) [a0,a1,a2] h nx K0 =
 zH a1 h fun v1=>zi .lss .int a0 v1 fun v2=>sG v2 false (fun k=>k a0) fun v3=>sG v2 false (fun k=>zH a2 h k) fun v4=>sG v2 false (fun k=>zi .gtr .int v3 v4 k) fun v5=>yT v2 (.bool true) v5 fun v6=>K0 v6 h nx:=by
 rw [yD oh.tab];kernel_rfl
theorem oq.tab:T.get none (.of 173) tbl=some oq:=by kernel_rfl
theorem oq.go:zR tbl N C (.of 173) [a0,a1] h nx K0 =
 C.fn 184 (.of 184) [a0,a1] h nx fun v1 h2 n3=>zi .geq .int v1 (I 0) fun v4=>K0 v4 h2 n3:=by
 rw [yD oq.tab];kernel_rfl
theorem qm.nY (X2:IR) (C:Calls Prop) (N:Nat) (O:dw Prop) (K:Ks Prop) (a b d e f i l q:AV) (h:T Blk) (nx:Pa):IR.run (qm.g1 X2) C N O K (qm.fr a b d e f i l q) h nx =
 IR.run X2 C N (O.blk 0 K) K (qm.fr a b d e f i l q) h nx:=by kernel_rfl
theorem qm.tab:T.get none (.of 184) tbl=some qm:=by kernel_rfl
theorem qm.go:zR tbl N C (.of 184) [a0,a1] h nx K0 =
 sLen a0 fun v1=>IR.run qm.b1 C N (fnO qm.res K0) (IR.run qm.b8 C N (fnO qm.res K0) (yx qm.res K0)) (qm.fr a0 a1 (I 0) .u v1 (I 0) .u .u) h nx:=by
 rw [yD qm.tab];kernel_rfl
theorem qm.e1:IR.run qm.b3 C N ((fnO qm.res K0).blk 0 K) R (qm.fr a b d e f i l q) h nx =
 zi .lss .int i f fun v1=>yF v1 (zL 1 a i fun v2=>zH v2 h fun v3=>vF C b [v3] h nx fun v4 h5 n6=>yF v4 (K0 i h5 n6) (zi .add .int i (I 1) fun v7=>R (qm.fr a b d i f v7 v1 v4) h5 n6)) (K (qm.fr a b d e f i v1 q) h nx):=by kernel_rfl
theorem qm.L1 (Inv:Nat->AV->T Blk->Pa->Prop) {m:Nat} (hm:m<N) (hi:Inv m i h nx)
  (step:∀ (m:Nat) (z2 z3 z5 z6 z7:AV) (h:T Blk) (nx:Pa) (R:Ks Prop),Inv m z5 h nx->(∀ (m':Nat) (w2 w3 w5 w6 w7:AV) (h':T Blk) (nx':Pa),m'<m->Inv m' w5 h' nx'->R (qm.fr a b w2 w3 f w5 w6 w7) h' nx'=.ok True) ->
   (zi .lss .int z5 f fun v1=>yF v1 (zL 1 a z5 fun v2=>zH v2 h fun v3=>vF C b [v3] h nx fun v4 h5 n6=>yF v4 (K0 z5 h5 n6) (zi .add .int z5 (I 1) fun v7=>R (qm.fr a b z2 z5 f v7 v1 v4) h5 n6)) (K (qm.fr a b z2 z3 f z5 v1 z7) h nx))=.ok True) :
  IR.run qm.b1 C N (fnO qm.res K0) K (qm.fr a b d e f i l q) h nx=.ok True:=by
 rw [qm.b1,qm.nY,qm.b2];refine yE (fun m tm h nx=>∃ z2 z3 z5 z6 z7,tm=(qm.fr a b z2 z3 f z5 z6 z7)/\Inv m z5 h nx) ?_ hm ⟨_,_,_,_,_,rfl,hi⟩;rintro m tm h nx R ⟨z2,z3,z5,z6,z7,rfl,hi⟩ hR;rw [qm.e1];exact step m z2 z3 z5 z6 z7 h nx R hi fun m' w2 w3 w5 w6 w7 h' nx' hlt hi'=>hR m' _ h' nx' hlt ⟨_,_,_,_,_,rfl,hi'⟩
theorem qm.k8:IR.run qm.b8 C N (fnO qm.res K0) K (qm.fr a b d e f i l q) h nx =
 K0 (I (-1)) h nx:=by kernel_rfl
theorem F18.zab (X3:IR) (C:Calls Prop) (N:Nat) (O:dw Prop) (K:Ks Prop) (a b d e f i l q v z c:AV) (h:T Blk) (nx:Pa):IR.run (F18.g2 X3) C N O K (F18.fr a b d e f i l q v z c) h nx =
 IR.run X3 C N (O.blk 0 K) K (F18.fr a b d e f i l q v z c) h nx:=by kernel_rfl
theorem F18.tab:T.get none (.of 18) tbl=some F18:=by kernel_rfl
theorem F18.go:zR tbl N C (.of 18) [a0] h nx K0 =
 ql a0 h nx fun v1 h2 n3=>zI 0 v1 fun v4=>zH v4 h2 fun v5=>zI 1 v1 fun v6=>zH v6 h2 fun v7=>sLen v7 fun v8=>zi .gtr .int v8 (I 128) fun v9=>jU 1 1 [(I 0)] [(0,1,v5)] h2 n3 fun vA hC nD=>(zi .gtr .int v8 (I 128) fun v36=>zV v36 v9 ((sLen v7 fun v35=>zV v35 v8 ((zH v6 hC fun v34=>zV v34 v7 ((zI 1 v1 fun v33=>zV v33 v6 (C.fn 87 (.of 87) [(I 1),(I 256),vA] hC nD fun vH hD nE=>(zi .gtr .int v8 (I 128) fun v32=>zV v32 v9 ((sLen v7 fun v31=>zV v31 v8 ((zH v6 hD fun v30=>zV v30 v7 ((zI 1 v1 fun v29=>zV v29 v6 (C.fn 88 (.of 88) [v9,(I 5)] hD nE fun vE hE nF=>jU 1 2 [(I 0)] [(0,1,vH),(1,1,vE)] hE nF fun vN hK nL=>C.fn 86 (.of 86) [vN] hK nL fun vK hL nM=>zi .neq .int vK (I 0) fun v25=>yF v25 (K0 vK hL nM) (zI 1 v1 fun v26=>zH v26 hL fun v27=>sLen v27 fun v28=>IR.run F18.b2 C N (fnO F18.res K0) (IR.run F18.b9 C N (fnO F18.res K0) (yx F18.res K0)) (F18.fr a0 v1 (I 0) vK .u .u v25 v28 (I 0) .u .u) hL nM))))))))))))))))):=by
 rw [yD F18.tab];kernel_rfl
theorem F18.e2:IR.run F18.b4 C N ((fnO F18.res K0).blk 0 K) R (F18.fr a b d e f i l q v z c) h nx =
 zi .lss .int v q fun v1=>yF v1 (zE 2 b h fun v2=>C.fn 89 (.of 89) [v2,v] h nx fun v3 h4 n5=>zi .neq .int v3 (I 0) fun v6=>yF v6 (K0 v3 h4 n5) (zi .add .int v (I 1) fun v7=>R (F18.fr a b d e v v3 l q v7 v1 v6) h4 n5)) (K (F18.fr a b d e f i l q v v1 c) h nx):=by kernel_rfl
theorem F18.L2 (Inv:Nat->AV->T Blk->Pa->Prop) {m:Nat} (hm:m<N) (hi:Inv m v h nx)
  (step:∀ (m:Nat) (z2 z4 z5 z8 z9 zA:AV) (h:T Blk) (nx:Pa) (R:Ks Prop),Inv m z8 h nx->(∀ (m':Nat) (w2 w4 w5 w8 w9 wA:AV) (h':T Blk) (nx':Pa),m'<m->Inv m' w8 h' nx'->R (F18.fr a b w2 e w4 w5 l q w8 w9 wA) h' nx'=.ok True) ->
   (zi .lss .int z8 q fun v1=>yF v1 (zE 2 b h fun v2=>C.fn 89 (.of 89) [v2,z8] h nx fun v3 h4 n5=>zi .neq .int v3 (I 0) fun v6=>yF v6 (K0 v3 h4 n5) (zi .add .int z8 (I 1) fun v7=>R (F18.fr a b z2 e z8 v3 l q v7 v1 v6) h4 n5)) (K (F18.fr a b z2 e z4 z5 l q z8 v1 zA) h nx))=.ok True) :
  IR.run F18.b2 C N (fnO F18.res K0) K (F18.fr a b d e f i l q v z c) h nx=.ok True:=by
 rw [F18.b2,F18.zab,F18.b3];refine yE (fun m tm h nx=>∃ z2 z4 z5 z8 z9 zA,tm=(F18.fr a b z2 e z4 z5 l q z8 z9 zA)/\Inv m z8 h nx) ?_ hm ⟨_,_,_,_,_,_,rfl,hi⟩;rintro m tm h nx R ⟨z2,z4,z5,z8,z9,zA,rfl,hi⟩ hR;rw [F18.e2];exact step m z2 z4 z5 z8 z9 zA h nx R hi fun m' w2 w4 w5 w8 w9 wA h' nx' hlt hi'=>hR m' _ h' nx' hlt ⟨_,_,_,_,_,_,rfl,hi'⟩
theorem F18.k9:IR.run F18.b9 C N (fnO F18.res K0) K (F18.fr a b d e f i l q v z c) h nx =
 K0 (I 0) h nx:=by kernel_rfl
theorem F89.zab (X3:IR) (C:Calls Prop) (N:Nat) (O:dw Prop) (K:Ks Prop) (a b d e f i l q v z c g p o:AV) (h:T Blk) (nx:Pa):IR.run (F89.g2 X3) C N O K (F89.fr a b d e f i l q v z c g p o) h nx =
 IR.run X3 C N (O.blk 0 K) K (F89.fr a b d e f i l q v z c g p o) h nx:=by kernel_rfl
theorem F89.tab:T.get none (.of 89) tbl=some F89:=by kernel_rfl
theorem F89.go:zR tbl N C (.of 89) [a0,a1] h nx K0 =
 ql a0 h nx fun v1 h2 n3=>zI 1 v1 fun v4=>zH v4 h2 fun v5=>zL 1 v5 a1 fun v6=>zH v6 h2 fun v7=>yV [.zf] h2 n3 fun v8 h9 nC=>zW 1 v8 v7 h9 nC fun vB hA nA=>zH v8 hA fun vC=>sLen vC fun vG=>zi .eql .int vG (I 0) fun vE=>yF vE (K0 (I 12) hA nA) (zH v8 hA fun vD=>sLen vD fun vP=>IR.run F89.b2 C N (fnO F89.res K0) (IR.run F89.b9 C N (fnO F89.res K0) (yx F89.res K0)) (F89.fr a0 a1 v1 (I 0) v8 .u .u .u vE vD vP (I 0) .u .u) hA nA):=by
 rw [yD F89.tab];kernel_rfl
theorem F89.e2:IR.run F89.b4 C N ((fnO F89.res K0).blk 0 K) R (F89.fr a b d e f i l q v z c g p o) h nx =
 zi .lss .int g c fun v1=>yF v1 (zL 1 z g fun v2=>zH v2 h fun v3=>zi .lss .int v3 (I 0) fun v4=>sG v4 false (fun k=>k v3) fun v5=>sG v4 false (fun k=>zI 0 d k) fun v6=>sG v4 false (fun k=>zH v6 h k) fun v7=>sG v4 false (fun k=>zi .geq .int v5 v7 k) fun v8=>yT v4 (.bool true) v8 fun v9=>C.fn 88 (.of 88) [v9,(I 10)] h nx fun vA hC nD=>zi .gtr .int g (I 0) fun vH=>sG vH true (fun k=>zH f hC k) fun vC=>sG vH true (fun k=>k g) fun vG=>sG vH true (fun k=>zi .sub .int vG (I 1) k) fun vE=>sG vH true (fun k=>zL 1 vC vE k) fun vD=>sG vH true (fun k=>zH vD hC k) fun vP=>sG vH true (fun k=>k v3) fun vN=>sG vH true (fun k=>zi .geq .int vP vN k) fun vM=>yT vH vM (.bool false) fun vL=>C.fn 88 (.of 88) [vL,(I 11)] hC nD fun vK hL nM=>jU 1 2 [(I 0)] [(0,1,vA),(1,1,vK)] hL nM fun v25 hM nN=>C.fn 86 (.of 86) [v25] hM nN fun v28 hN nO=>zi .neq .int v28 (I 0) fun v31=>yF v31 (K0 v28 hN nO) (zi .add .int g (I 1) fun v32=>R (F89.fr a b d e f g v3 v28 v z c v32 v1 v31) hN nO)) (K (F89.fr a b d e f i l q v z c g v1 o) h nx):=by kernel_rfl
theorem F89.L2 (Inv:Nat->AV->T Blk->Pa->Prop) {m:Nat} (hm:m<N) (hi:Inv m g h nx)
  (step:∀ (m:Nat) (z3 z5 z6 z7 zB zM zO:AV) (h:T Blk) (nx:Pa) (R:Ks Prop),Inv m zB h nx->(∀ (m':Nat) (w3 w5 w6 w7 wB wJ wK:AV) (h':T Blk) (nx':Pa),m'<m->Inv m' wB h' nx'->R (F89.fr a b d w3 f w5 w6 w7 v z c wB wJ wK) h' nx'=.ok True) ->
   (zi .lss .int zB c fun v1=>yF v1 (zL 1 z zB fun v2=>zH v2 h fun v3=>zi .lss .int v3 (I 0) fun v4=>sG v4 false (fun k=>k v3) fun v5=>sG v4 false (fun k=>zI 0 d k) fun v6=>sG v4 false (fun k=>zH v6 h k) fun v7=>sG v4 false (fun k=>zi .geq .int v5 v7 k) fun v8=>yT v4 (.bool true) v8 fun v9=>C.fn 88 (.of 88) [v9,(I 10)] h nx fun vA hC nD=>zi .gtr .int zB (I 0) fun vH=>sG vH true (fun k=>zH f hC k) fun vC=>sG vH true (fun k=>k zB) fun vG=>sG vH true (fun k=>zi .sub .int vG (I 1) k) fun vE=>sG vH true (fun k=>zL 1 vC vE k) fun vD=>sG vH true (fun k=>zH vD hC k) fun vP=>sG vH true (fun k=>k v3) fun vN=>sG vH true (fun k=>zi .geq .int vP vN k) fun vM=>yT vH vM (.bool false) fun vL=>C.fn 88 (.of 88) [vL,(I 11)] hC nD fun vK hL nM=>jU 1 2 [(I 0)] [(0,1,vA),(1,1,vK)] hL nM fun v25 hM nN=>C.fn 86 (.of 86) [v25] hM nN fun v28 hN nO=>zi .neq .int v28 (I 0) fun v31=>yF v31 (K0 v28 hN nO) (zi .add .int zB (I 1) fun v32=>R (F89.fr a b d z3 f zB v3 v28 v z c v32 v1 v31) hN nO)) (K (F89.fr a b d z3 f z5 z6 z7 v z c zB v1 zO) h nx))=.ok True) :
  IR.run F89.b2 C N (fnO F89.res K0) K (F89.fr a b d e f i l q v z c g p o) h nx=.ok True:=by
 rw [F89.b2,F89.zab,F89.b3];refine yE (fun m tm h nx=>∃ z3 z5 z6 z7 zB zM zO,tm=(F89.fr a b d z3 f z5 z6 z7 v z c zB zM zO)/\Inv m zB h nx) ?_ hm ⟨_,_,_,_,_,_,_,rfl,hi⟩;rintro m tm h nx R ⟨z3,z5,z6,z7,zB,zM,zO,rfl,hi⟩ hR;rw [F89.e2];exact step m z3 z5 z6 z7 zB zM zO h nx R hi fun m' w3 w5 w6 w7 wB wJ wK h' nx' hlt hi'=>hR m' _ h' nx' hlt ⟨_,_,_,_,_,_,_,rfl,hi'⟩
theorem F89.k9:IR.run F89.b9 C N (fnO F89.res K0) K (F89.fr a b d e f i l q v z c g p o) h nx =
 zI 1 d fun v1=>zH v1 h fun v2=>kZ 1 v2 none (some b) none fun v3=>C.fn 175 (.of 175) [v3,(.fn 176 (.of 176) [f])] h nx fun v4 h5 n6=>C.fn 88 (.of 88) [v4,(I 9)] h5 n6 fun v7 h8 n9=>K0 v7 h8 n9:=by kernel_rfl
theorem ou.tab:T.get none (.of 171) tbl=some ou:=by kernel_rfl
theorem ou.go:zR tbl N C (.of 171) [a0] h nx K0 =
 ql a0 h nx fun v1 h2 n3=>K0 (.fn 244 (.of 244) [v1]) h2 n3:=by
 rw [yD ou.tab];kernel_rfl
theorem oz.tab:T.get none (.of 170) tbl=some oz:=by kernel_rfl
theorem oz.go:zR tbl N C (.of 170) [a0] h nx K0 =
 C.fn 242 (.of 242) [a0] h nx fun v1 h2 n3=>C.fn 243 (.of 243) [v1] h2 n3 fun v4 h5 n6=>K0 v1 h5 n6:=by
 rw [yD oz.tab];kernel_rfl
theorem oC.tab:T.get none (.of 242) tbl=some oC:=by kernel_rfl
theorem oC.go:zR tbl N C (.of 242) [a0] h nx K0 =
 C.fn 282 (.of 282) [.zf,a0] h nx fun v1 h2 n3=>K0 v1 h2 n3:=by
 rw [yD oC.tab];kernel_rfl
theorem di.nY (X2:IR) (C:Calls Prop) (N:Nat) (O:dw Prop) (K:Ks Prop) (a b d e f i l q:AV) (h:T Blk) (nx:Pa):IR.run (di.g1 X2) C N O K (di.fr a b d e f i l q) h nx =
 IR.run X2 C N (O.blk 0 K) K (di.fr a b d e f i l q) h nx:=by kernel_rfl
theorem di.tab:T.get none (.of 244) tbl=some di:=by kernel_rfl
theorem di.go:zR tbl N C (.of 244) [a0,a1] h nx K0 =
 zH a1 h fun v1=>sLen v1 fun v2=>IR.run di.b1 C N (fnO di.res K0) (yx di.res K0) (di.fr a0 a1 .u v1 v2 (I 0) .u .u) h nx:=by
 rw [yD di.tab];kernel_rfl
theorem di.e1:IR.run di.b3 C N ((fnO di.res K0).blk 0 K) R (di.fr a b d e f i l q) h nx =
 zi .lss .int i f fun v1=>yF v1 (zL 1 e i fun v2=>zH v2 h fun v3=>vF C a [v3] h nx fun v4 h5 n6=>aG v4 fun v7=>yF v7 (K0 (.tup []) h5 n6) (zi .add .int i (I 1) fun v8=>R (di.fr a b v3 e f v8 v1 v7) h5 n6)) (K (di.fr a b d e f i v1 q) h nx):=by kernel_rfl
theorem di.L1 (Inv:Nat->AV->T Blk->Pa->Prop) {m:Nat} (hm:m<N) (hi:Inv m i h nx)
  (step:∀ (m:Nat) (z2 z5 z6 z7:AV) (h:T Blk) (nx:Pa) (R:Ks Prop),Inv m z5 h nx->(∀ (m':Nat) (w2 w5 w6 w7:AV) (h':T Blk) (nx':Pa),m'<m->Inv m' w5 h' nx'->R (di.fr a b w2 e f w5 w6 w7) h' nx'=.ok True) ->
   (zi .lss .int z5 f fun v1=>yF v1 (zL 1 e z5 fun v2=>zH v2 h fun v3=>vF C a [v3] h nx fun v4 h5 n6=>aG v4 fun v7=>yF v7 (K0 (.tup []) h5 n6) (zi .add .int z5 (I 1) fun v8=>R (di.fr a b v3 e f v8 v1 v7) h5 n6)) (K (di.fr a b z2 e f z5 v1 z7) h nx))=.ok True) :
  IR.run di.b1 C N (fnO di.res K0) K (di.fr a b d e f i l q) h nx=.ok True:=by
 rw [di.b1,di.nY,di.b2];refine yE (fun m tm h nx=>∃ z2 z5 z6 z7,tm=(di.fr a b z2 e f z5 z6 z7)/\Inv m z5 h nx) ?_ hm ⟨_,_,_,_,rfl,hi⟩;rintro m tm h nx R ⟨z2,z5,z6,z7,rfl,hi⟩ hR;rw [di.e1];exact step m z2 z5 z6 z7 h nx R hi fun m' w2 w5 w6 w7 h' nx' hlt hi'=>hR m' _ h' nx' hlt ⟨_,_,_,_,rfl,hi'⟩
theorem dh.tab:T.get none (.of 282) tbl=some dh:=by kernel_rfl
theorem dh.go:zR tbl N C (.of 282) [a0,a1] h nx K0 =
 ql a0 h nx fun v1 h2 n3=>IR.run (.rf (.t (.of 5)) [(.of 6)] dh.b3 dh.b4) C N ((fnO dh.res K0).blk 0 (IR.run dh.b6 C N (fnO dh.res K0) (yx dh.res K0))) (IR.run dh.b6 C N (fnO dh.res K0) (yx dh.res K0)) (dh.fr a0 a1 v1 .zf .u a1 .u) h2 n3:=by
 rw [yD dh.tab];kernel_rfl
theorem dh.k6:IR.run dh.b6 C N (fnO dh.res K0) K (dh.fr a b d e f i l) h nx =
 zH d h fun v1=>K0 v1 h nx:=by kernel_rfl
theorem dh.y4 {N:Nat} {C:Calls Prop} {K0:Kw Prop} {id nx:Pa} {j:Jump} {h h1:T Blk} {a b d e f i l z0:AV} (hl:T.get .no id h=.loop .ready j (dh.fr a b d e f i l) [.of 6] dh.b3 dh.b4) (he:h1=T.set .no (.loop .busy j (dh.fr a b d e f i l) [.of 6] dh.b3 dh.b4) id h) :
 xY N C id [z0] h nx K0 =
 zH d h1 fun v1=>jU 1 1 [(I 0)] [(0,1,z0)] h1 nx fun v2 h3 n4=>sApp 1 8 v1 v2 h3 n4 fun v5 h6 n7=>zW 1 d v5 h6 n7 fun v8 h9 nC=>uN id K0 .none true .e h9 nC:=by
 subst he;rw [zxb hl (tm1:=(dh.fr a b d e f i z0)) (tm2:=(dh.fr a b d e z0 i z0)) (by intro k;kernel_rfl) (by intro O K h nx;kernel_rfl)];kernel_rfl
end
end Go.Ev
