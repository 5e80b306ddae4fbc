import Derived.Test.YtlfhlkknakiafaaGreatDoorIrT
import Derived.Test.YtlfhlkknakiafaaGreatDoorEvD
import Derived.KernelRfl
set_option linter.unusedSimpArgs false
set_option linter.unusedVariables false
namespace Go.Ev
open Go Go.Proofs
set_option maxRecDepth 100000
section
variable {N:Nat} {C:Calls Prop} {K0:Kw Prop} {K R:Ks Prop} {h:T Blk} {nx:Pa} {a b d e f i o q y z c g a0 a1 s0 s1 s2 s3 s4 s5 s6 s7 s8 s9 s10 s11 s12 s13 s14 s15 s16 s17 s18 s19 s20 s21 s22 s23 s24 s25 s26 s27 s28 s29 s30 s31 s32 s33 s34 s35 s36 s37 s38 s39 s40 s41 s42 s43 s44 s45 s46 s47 s48 s49 s50 s51 s52 s53 s54 s55 s56 s57 s58 s59 p l s u v w A B D E G a2 H L M P:AV} {O:dw Prop} {tm:T AV} {Kt:KTm} {r:List RO} {sT:List AV}
theorem jh.jk:IR.run jh.t0 C N O K (jh.fr a b d e f i o q y z c g) h nx =
 K (jh.fr a b (.int .u64 0) (.int .u64 0) f i o q y z c g) h nx:=by kernel_rfl
theorem jh.ji:IR.run jh.t1 C N O K (jh.fr a b d e f i o q y z c g) h nx =
 zh .and .int a (.int .u64 4294967295) fun v1=>K (jh.fr a b d e v1 i o q y z c g) h nx:=by kernel_rfl
theorem jh.qh:IR.run jh.t2 C N O K (jh.fr a b d e f i o q y z c g) h nx =
 zh .shr .int a (.int .u64 32) fun v1=>K (jh.fr a b d e f v1 o q y z c g) h nx:=by kernel_rfl
theorem jh.nU:IR.run jh.t3 C N O K (jh.fr a b d e f i o q y z c g) h nx =
 zh .and .int b (.int .u64 4294967295) fun v1=>K (jh.fr a b d e f i v1 q y z c g) h nx:=by kernel_rfl
theorem jh.ny:IR.run jh.t4 C N O K (jh.fr a b d e f i o q y z c g) h nx =
 zh .shr .int b (.int .u64 32) fun v1=>K (jh.fr a b d e f i o v1 y z c g) h nx:=by kernel_rfl
theorem jh.bV:IR.run jh.t5 C N O K (jh.fr a b d e f i o q y z c g) h nx =
 zh .mul .int f o fun v1=>K (jh.fr a b d e f i o q v1 z c g) h nx:=by kernel_rfl
theorem jh.bf:IR.run jh.t6 C N O K (jh.fr a b d e f i o q y z c g) h nx =
 zh .mul .int i o fun v1=>zh .shr .int y (.int .u64 32) fun v2=>zh .add .int v1 v2 fun v3=>K (jh.fr a b d e f i o q y v3 c g) h nx:=by kernel_rfl
theorem jh.rD:IR.run jh.t7 C N O K (jh.fr a b d e f i o q y z c g) h nx =
 zh .and .int z (.int .u64 4294967295) fun v1=>K (jh.fr a b d e f i o q y z v1 g) h nx:=by kernel_rfl
theorem jh.sD:IR.run jh.t8 C N O K (jh.fr a b d e f i o q y z c g) h nx =
 zh .shr .int z (.int .u64 32) fun v1=>K (jh.fr a b d e f i o q y z c v1) h nx:=by kernel_rfl
theorem jh.ax:IR.run jh.t9 C N O K (jh.fr a b d e f i o q y z c g) h nx =
 zh .mul .int f q fun v1=>zh .add .int c v1 fun v2=>K (jh.fr a b d e f i o q y z v2 g) h nx:=by kernel_rfl
theorem jh.nR:IR.run jh.t10 C N O K (jh.fr a b d e f i o q y z c g) h nx =
 zh .mul .int i q fun v1=>zh .add .int v1 g fun v2=>zh .shr .int c (.int .u64 32) fun v3=>zh .add .int v2 v3 fun v4=>K (jh.fr a b v4 e f i o q y z c g) h nx:=by kernel_rfl
theorem jh.fM:IR.run jh.t11 C N O K (jh.fr a b d e f i o q y z c g) h nx =
 zh .mul .int a b fun v1=>K (jh.fr a b d v1 f i o q y z c g) h nx:=by kernel_rfl
theorem jh.go:zS tbl N C (.of 274) [a0,a1] h nx K0=IR.run jh.t23 C N (fnO jh.res K0) (yu jh.res K0) (jh.fr a0 a1 .u .u .u .u .u .u .u .u .u .u) h nx:=yW (F:=jh) (by kernel_rfl) (fun _=>by kernel_rfl) (by kernel_rfl)
theorem jh.ret:yu jh.res K0 (jh.fr a b d e f i o q y z c g) h nx=K0 (.tup [d,e]) h nx:=by kernel_rfl
theorem xh.jk:IR.run xh.t0 C N O K (xh.fr a b d) h nx =
 K (xh.fr a (.int .u64 0) d) h nx:=by kernel_rfl
theorem xh.ji:IR.run xh.t1 C N O K (xh.fr a b d) h nx =
 zh .lss .int a (I 0) fun v1=>K (xh.fr a b v1) h nx:=by kernel_rfl
theorem xh.qh:IR.run xh.t2 C N O K (xh.fr a b d) h nx =
 sNeg a fun v1=>qN .u64 v1 fun v2=>K (xh.fr a v2 d) h nx:=by kernel_rfl
theorem xh.v2:Arg.ev (.t (.of 2)) ⟨(xh.fr a b d),[]⟩=d:=by kernel_rfl
theorem xh.bf:IR.run xh.t6 C N O K (xh.fr a b d) h nx =
 qN .u64 a fun v1=>K (xh.fr a v1 d) h nx:=by kernel_rfl
theorem xh.go:zS tbl N C (.of 275) [a0] h nx K0=IR.run xh.t9 C N (fnO xh.res K0) (yu xh.res K0) (xh.fr a0 .u .u) h nx:=yW (F:=xh) (by kernel_rfl) (fun _=>by kernel_rfl) (by kernel_rfl)
theorem xh.ret:yu xh.res K0 (xh.fr a b d) h nx=K0 b h nx:=by kernel_rfl
theorem jq.jk:IR.run jq.t0 C N O K (jq.fr a b d e) h nx =
 K (jq.fr a .zn d e) h nx:=by kernel_rfl
theorem jq.ji:IR.run jq.t1 C N O K (jq.fr a b d e) h nx =
 sLen a fun v1=>K (jq.fr a b v1 e) h nx:=by kernel_rfl
theorem jq.qh:IR.run jq.t2 C N O K tm h nx=zN jq.r2_0 C ⟨tm,[]⟩ h nx (fun tm h nx=>K tm.v h nx):=jG ..
theorem jq.zyf:zN (jq.zwf r) C ⟨(jq.fr a b d e),[]⟩ h nx Kt =
 zh .gtr .int d (I 0) fun v1=>sG v1 true (fun k=>k a) fun v2=>sG v1 true (fun k=>k d) fun v3=>sG v1 true (fun k=>zh .sub .int v3 (I 1) k) fun v4=>sG v1 true (fun k=>zM 1 v2 v4 k) fun v5=>sG v1 true (fun k=>zH v5 h k) fun v6=>zN r C ⟨(jq.fr a b d e),v6::v5::v4::v3::v2::v1::v1::d::[]⟩ h nx Kt:=by kernel_rfl
theorem jq.zne:zN (jq.zwg []) C ⟨(jq.fr a b d e),s0::s1::s2::s3::s4::s5::sT⟩ h nx Kt =
 sG s5 true (fun k=>zh .eql .int s0 (.int .u64 0) k) fun v1=>jD s5 v1 (.bool false) fun v2=>Kt ⟨(jq.fr a b d v2),v1::s0::s1::s2::s3::s4::s5::sT⟩ h nx:=by kernel_rfl
theorem jq.v3:Arg.ev (.t (.of 3)) ⟨(jq.fr a b d e),[]⟩=e:=by kernel_rfl
theorem jq.bV:IR.run jq.t5 C N O K (jq.fr a b d e) h nx =
 zh .sub .int d (I 1) fun v1=>K (jq.fr a b v1 e) h nx:=by kernel_rfl
theorem jq.t8_L (Inv:Nat->AV->T Blk->Pa->Prop) {m:Nat} (hm:m<N) (hi:Inv m d h nx)
  (step:∀ (m:Nat) (z2 z3:AV) (h:T Blk) (nx:Pa) (R:Ks Prop),Inv m z2 h nx->(∀ (m':Nat) (w2 w3:AV) (h':T Blk) (nx':Pa),m'<m->Inv m' w2 h' nx'->R (jq.fr a b w2 w3) h' nx'=.ok True)->IR.run jq.t7 C N O R (jq.fr a b z2 z3) h nx=.ok True) :
  IR.run jq.t8 C N O K (jq.fr a b d e) h nx=.ok True:=by
 rw [jq.t8];refine yD (fun m tm h nx=>∃ z2 z3,tm=(jq.fr a b z2 z3)/\Inv m z2 h nx) ?_ hm ⟨_,_,rfl,hi⟩;rintro m tm h nx R ⟨z2,z3,rfl,hi⟩ hR;exact step m z2 z3 h nx R hi fun m' w2 w3 h' nx' hlt hi'=>hR m' _ h' nx' hlt ⟨_,_,rfl,hi'⟩
theorem jq.nR:IR.run jq.t10 C N O K (jq.fr a b d e) h nx =
 kX 1 a none (some d) none fun v1=>K (jq.fr a v1 d e) h nx:=by kernel_rfl
theorem jq.go:zS tbl N C (.of 332) [a0] h nx K0=IR.run jq.t14 C N (fnO jq.res K0) (yu jq.res K0) (jq.fr a0 .u .u .u) h nx:=yW (F:=jq) (by kernel_rfl) (fun _=>by kernel_rfl) (by kernel_rfl)
theorem jq.ret:yu jq.res K0 (jq.fr a b d e) h nx=K0 b h nx:=by kernel_rfl
theorem yw.jk:IR.run yw.t0 C N O K (yw.fr a b d e f i o q y) h nx =
 K (yw.fr a b (I 0) e f i o q y) h nx:=by kernel_rfl
theorem yw.ji:IR.run yw.t1 C N O K (yw.fr a b d e f i o q y) h nx =
 sLen a fun v1=>sLen b fun v2=>zh .neq .int v1 v2 fun v3=>K (yw.fr a b d e v3 i o q y) h nx:=by kernel_rfl
theorem yw.qh:IR.run yw.t2 C N O K (yw.fr a b d e f i o q y) h nx =
 sLen a fun v1=>sLen b fun v2=>zh .lss .int v1 v2 fun v3=>K (yw.fr a b d e f v3 o q y) h nx:=by kernel_rfl
theorem yw.nU:IR.run yw.t3 C N O K (yw.fr a b d e f i o q y) h nx =
 K (yw.fr a b (I (-1)) e f i o q y) h nx:=by kernel_rfl
theorem yw.v5:Arg.ev (.t (.of 5)) ⟨(yw.fr a b d e f i o q y),[]⟩=i:=by kernel_rfl
theorem yw.rD:IR.run yw.t7 C N O K (yw.fr a b d e f i o q y) h nx =
 K (yw.fr a b (I 1) e f i o q y) h nx:=by kernel_rfl
theorem yw.v4:Arg.ev (.t (.of 4)) ⟨(yw.fr a b d e f i o q y),[]⟩=f:=by kernel_rfl
theorem yw.nS:IR.run yw.t12 C N O K (yw.fr a b d e f i o q y) h nx =
 sLen a fun v1=>zh .sub .int v1 (I 1) fun v2=>K (yw.fr a b d v2 f i o q y) h nx:=by kernel_rfl
theorem yw.ng:IR.run yw.t13 C N O K (yw.fr a b d e f i o q y) h nx =
 zh .geq .int e (I 0) fun v1=>K (yw.fr a b d e f i v1 q y) h nx:=by kernel_rfl
theorem yw.v6:Arg.ev (.t (.of 6)) ⟨(yw.fr a b d e f i o q y),[]⟩=o:=by kernel_rfl
theorem yw.nZ:IR.run yw.t16 C N O K (yw.fr a b d e f i o q y) h nx =
 zM 1 a e fun v1=>zH v1 h fun v2=>zM 1 b e fun v3=>zH v3 h fun v4=>zh .neq .int v2 v4 fun v5=>K (yw.fr a b d e f i o v5 y) h nx:=by kernel_rfl
theorem yw.rV:IR.run yw.t17 C N O K (yw.fr a b d e f i o q y) h nx =
 zM 1 a e fun v1=>zH v1 h fun v2=>zM 1 b e fun v3=>zH v3 h fun v4=>zh .lss .int v2 v4 fun v5=>K (yw.fr a b d e f i o q v5) h nx:=by kernel_rfl
theorem yw.ah:IR.run yw.t18 C N O K (yw.fr a b d e f i o q y) h nx =
 K (yw.fr a b (I (-1)) e f i o q y) h nx:=by kernel_rfl
theorem yw.v8:Arg.ev (.t (.of 8)) ⟨(yw.fr a b d e f i o q y),[]⟩=y:=by kernel_rfl
theorem yw.oP:IR.run yw.t22 C N O K (yw.fr a b d e f i o q y) h nx =
 K (yw.fr a b (I 1) e f i o q y) h nx:=by kernel_rfl
theorem yw.v7:Arg.ev (.t (.of 7)) ⟨(yw.fr a b d e f i o q y),[]⟩=q:=by kernel_rfl
theorem yw.tC:IR.run yw.t28 C N O K (yw.fr a b d e f i o q y) h nx =
 zh .sub .int e (I 1) fun v1=>K (yw.fr a b d v1 f i o q y) h nx:=by kernel_rfl
theorem yw.znf (Inv:Nat->AV->T Blk->Pa->Prop) {m:Nat} (hm:m<N) (hi:Inv m e h nx)
  (step:∀ (m:Nat) (z2 z3 z6 z7 z8:AV) (h:T Blk) (nx:Pa) (R:Ks Prop),Inv m z3 h nx->(∀ (m':Nat) (w2 w3 w6 w7 w8:AV) (h':T Blk) (nx':Pa),m'<m->Inv m' w3 h' nx'->R (yw.fr a b w2 w3 f i w6 w7 w8) h' nx'=.ok True)->IR.run yw.t30 C N O R (yw.fr a b z2 z3 f i z6 z7 z8) h nx=.ok True) :
  IR.run yw.t31 C N O K (yw.fr a b d e f i o q y) h nx=.ok True:=by
 rw [yw.t31];refine yD (fun m tm h nx=>∃ z2 z3 z6 z7 z8,tm=(yw.fr a b z2 z3 f i z6 z7 z8)/\Inv m z3 h nx) ?_ hm ⟨_,_,_,_,_,rfl,hi⟩;rintro m tm h nx R ⟨z2,z3,z6,z7,z8,rfl,hi⟩ hR;exact step m z2 z3 z6 z7 z8 h nx R hi fun m' w2 w3 w6 w7 w8 h' nx' hlt hi'=>hR m' _ h' nx' hlt ⟨_,_,_,_,_,rfl,hi'⟩
theorem yw.zac:IR.run yw.t34 C N O K (yw.fr a b d e f i o q y) h nx =
 K (yw.fr a b (I 0) e f i o q y) h nx:=by kernel_rfl
theorem yw.go:zS tbl N C (.of 270) [a0,a1] h nx K0=IR.run yw.t38 C N (fnO yw.res K0) (yu yw.res K0) (yw.fr a0 a1 .u .u .u .u .u .u .u) h nx:=yW (F:=yw) (by kernel_rfl) (fun _=>by kernel_rfl) (by kernel_rfl)
theorem yw.ret:yu yw.res K0 (yw.fr a b d e f i o q y) h nx=K0 d h nx:=by kernel_rfl
theorem zu.jk:IR.run zu.t0 C N O K (zu.fr a b d e f i o q y z c g) h nx =
 K (zu.fr a b .zn e f i o q y z c g) h nx:=by kernel_rfl
theorem zu.ji:IR.run zu.t1 C N O K (zu.fr a b d e f i o q y z c g) h nx =
 sLen a fun v1=>sLen b fun v2=>zh .lss .int v1 v2 fun v3=>K (zu.fr a b d e f i o v3 y z c g) h nx:=by kernel_rfl
theorem zu.qh:IR.run zu.t2 C N O K (zu.fr a b d e f i o q y z c g) h nx =
 K (zu.fr b a d e f i o q y z c g) h nx:=by kernel_rfl
theorem zu.v7:Arg.ev (.t (.of 7)) ⟨(zu.fr a b d e f i o q y z c g),[]⟩=q:=by kernel_rfl
theorem zu.bV:IR.run zu.t5 C N O K (zu.fr a b d e f i o q y z c g) h nx =
 sLen a fun v1=>zh .add .int v1 (I 1) fun v2=>uL 1 8 [(.int .u64 0)] v2 v2 h nx fun v3 h4 n5=>K (zu.fr a b d v3 f i o q y z c g) h4 n5:=by kernel_rfl
theorem zu.bf:IR.run zu.t6 C N O K (zu.fr a b d e f i o q y z c g) h nx =
 K (zu.fr a b d e (.int .u64 0) i o q y z c g) h nx:=by kernel_rfl
theorem zu.rD:IR.run zu.t7 C N O K (zu.fr a b d e f i o q y z c g) h nx =
 sLen a fun v1=>K (zu.fr a b d e f i o q v1 (I 0) c g) h nx:=by kernel_rfl
theorem zu.sD:IR.run zu.t8 C N O K (zu.fr a b d e f i o q y z c g) h nx =
 zh .lss .int z y fun v1=>K (zu.fr a b d e f i o q y z v1 g) h nx:=by kernel_rfl
theorem zu.v10:Arg.ev (.t (.of 10)) ⟨(zu.fr a b d e f i o q y z c g),[]⟩=c:=by kernel_rfl
theorem zu.nR:IR.run zu.t10 C N O K (zu.fr a b d e f i o q y z c g) h nx =
 K (zu.fr a b d e f z o q y z c g) h nx:=by kernel_rfl
theorem zu.fM:IR.run zu.t11 C N O K (zu.fr a b d e f i o q y z c g) h nx =
 K (zu.fr a b d e f i (.int .u64 0) q y z c g) h nx:=by kernel_rfl
theorem zu.nS:IR.run zu.t12 C N O K (zu.fr a b d e f i o q y z c g) h nx =
 sLen b fun v1=>zh .lss .int i v1 fun v2=>K (zu.fr a b d e f i o q y z c v2) h nx:=by kernel_rfl
theorem zu.ng:IR.run zu.t13 C N O K (zu.fr a b d e f i o q y z c g) h nx =
 zM 1 b i fun v1=>zH v1 h fun v2=>K (zu.fr a b d e f i v2 q y z c g) h nx:=by kernel_rfl
theorem zu.v11:Arg.ev (.t (.of 11)) ⟨(zu.fr a b d e f i o q y z c g),[]⟩=g:=by kernel_rfl
theorem zu.nZ:IR.run zu.t16 C N O K tm h nx=zN zu.oQ C ⟨tm,[]⟩ h nx (fun tm h nx=>K tm.v h nx):=jG ..
theorem zu.zaa:zN (zu.zad r) C ⟨(zu.fr a b d e f i o q y z c g),[]⟩ h nx Kt =
 zM 1 a i fun v1=>zH v1 h fun v2=>zN r C ⟨(zu.fr a b d e f i o q y z c g),f::o::v2::v1::i::a::i::e::[]⟩ h nx Kt:=by kernel_rfl
theorem zu.zab:zN (zu.zae r) C ⟨(zu.fr a b d e f i o q y z c g),s0::s1::s2::sT⟩ h nx Kt =
 C.fn 331 (.of 331) [s2,s1,s0] h nx fun v1 h2 n3=>zN r C ⟨(zu.fr a b d e f i o q y z c g),v1::s0::s1::s2::sT⟩ h2 n3 Kt:=by kernel_rfl
theorem zu.zja:zN (zu.zng r) C ⟨(zu.fr a b d e f i o q y z c g),s0::s1::s2::s3::s4::s5::s6::s7::s8::[]⟩ h nx Kt =
 uq 0 s0 fun v1=>uq 1 s0 fun v2=>zM 1 s8 s7 fun v3=>zO 1 v3 v1 h nx fun v4 h5 n6=>zN r C ⟨(zu.fr a b d e f i o q y z c g),v3::v2::v1::s0::s0::s1::s2::s3::s4::s5::s6::s7::s8::[]⟩ h5 n6 Kt:=by kernel_rfl
theorem zu.zjb:zN (zu.znh []) C ⟨(zu.fr a b d e f i o q y z c g),s0::s1::sT⟩ h nx Kt =
 Kt ⟨(zu.fr a b d e s1 i o q y z c g),s0::s1::sT⟩ h nx:=by kernel_rfl
theorem zu.sU:IR.run zu.t21 C N O K (zu.fr a b d e f i o q y z c g) h nx =
 zh .add .int z (I 1) fun v1=>K (zu.fr a b d e f i o q y v1 c g) h nx:=by kernel_rfl
theorem zu.zni (Inv:Nat->AV->AV->T Blk->Pa->Prop) {m:Nat} (hm:m<N) (hi:Inv m f z h nx)
  (step:∀ (m:Nat) (z4 z5 z6 z9 zA zB:AV) (h:T Blk) (nx:Pa) (R:Ks Prop),Inv m z4 z9 h nx->(∀ (m':Nat) (w4 w5 w6 w9 wA wB:AV) (h':T Blk) (nx':Pa),m'<m->Inv m' w4 w9 h' nx'->R (zu.fr a b d e w4 w5 w6 q y w9 wA wB) h' nx'=.ok True)->IR.run zu.t24 C N O R (zu.fr a b d e z4 z5 z6 q y z9 zA zB) h nx=.ok True) :
  IR.run zu.t25 C N O K (zu.fr a b d e f i o q y z c g) h nx=.ok True:=by
 rw [zu.t25];refine yD (fun m tm h nx=>∃ z4 z5 z6 z9 zA zB,tm=(zu.fr a b d e z4 z5 z6 q y z9 zA zB)/\Inv m z4 z9 h nx) ?_ hm ⟨_,_,_,_,_,_,rfl,hi⟩;rintro m tm h nx R ⟨z4,z5,z6,z9,zA,zB,rfl,hi⟩ hR;exact step m z4 z5 z6 z9 zA zB h nx R hi fun m' w4 w5 w6 w9 wA wB h' nx' hlt hi'=>hR m' _ h' nx' hlt ⟨_,_,_,_,_,_,rfl,hi'⟩
theorem zu.tC:IR.run zu.t28 C N O K (zu.fr a b d e f i o q y z c g) h nx =
 sLen a fun v1=>zM 1 e v1 fun v2=>zO 1 v2 f h nx fun v3 h4 n5=>K (zu.fr a b d e f i o q y z c g) h4 n5:=by kernel_rfl
theorem zu.zeu:IR.run zu.t29 C N O K (zu.fr a b d e f i o q y z c g) h nx =
 C.fn 332 (.of 332) [e] h nx fun v1 h2 n3=>K (zu.fr a b v1 e f i o q y z c g) h2 n3:=by kernel_rfl
theorem zu.go:zS tbl N C (.of 269) [a0,a1] h nx K0=IR.run zu.t36 C N (fnO zu.res K0) (yu zu.res K0) (zu.fr a0 a1 .u .u .u .u .u .u .u .u .u .u) h nx:=yW (F:=zu) (by kernel_rfl) (fun _=>by kernel_rfl) (by kernel_rfl)
theorem zu.ret:yu zu.res K0 (zu.fr a b d e f i o q y z c g) h nx=K0 d h nx:=by kernel_rfl
theorem yc.jk:IR.run yc.t0 C N O K (yc.fr a b d e f i o q y z c) h nx =
 K (yc.fr a b .zn e f i o q y z c) h nx:=by kernel_rfl
theorem yc.ji:IR.run yc.t1 C N O K (yc.fr a b d e f i o q y z c) h nx =
 sLen a fun v1=>uL 1 8 [(.int .u64 0)] v1 v1 h nx fun v2 h3 n4=>K (yc.fr a b d v2 f i o q y z c) h3 n4:=by kernel_rfl
theorem yc.qh:IR.run yc.t2 C N O K (yc.fr a b d e f i o q y z c) h nx =
 K (yc.fr a b d e (.int .u64 0) i o q y z c) h nx:=by kernel_rfl
theorem yc.nU:IR.run yc.t3 C N O K (yc.fr a b d e f i o q y z c) h nx =
 sLen a fun v1=>K (yc.fr a b d e f i o v1 (I 0) z c) h nx:=by kernel_rfl
theorem yc.ny:IR.run yc.t4 C N O K (yc.fr a b d e f i o q y z c) h nx =
 zh .lss .int y q fun v1=>K (yc.fr a b d e f i o q y v1 c) h nx:=by kernel_rfl
theorem yc.v9:Arg.ev (.t (.of 9)) ⟨(yc.fr a b d e f i o q y z c),[]⟩=z:=by kernel_rfl
theorem yc.bf:IR.run yc.t6 C N O K (yc.fr a b d e f i o q y z c) h nx =
 K (yc.fr a b d e f y o q y z c) h nx:=by kernel_rfl
theorem yc.rD:IR.run yc.t7 C N O K (yc.fr a b d e f i o q y z c) h nx =
 K (yc.fr a b d e f i (.int .u64 0) q y z c) h nx:=by kernel_rfl
theorem yc.sD:IR.run yc.t8 C N O K (yc.fr a b d e f i o q y z c) h nx =
 sLen b fun v1=>zh .lss .int i v1 fun v2=>K (yc.fr a b d e f i o q y z v2) h nx:=by kernel_rfl
theorem yc.ax:IR.run yc.t9 C N O K (yc.fr a b d e f i o q y z c) h nx =
 zM 1 b i fun v1=>zH v1 h fun v2=>K (yc.fr a b d e f i v2 q y z c) h nx:=by kernel_rfl
theorem yc.v10:Arg.ev (.t (.of 10)) ⟨(yc.fr a b d e f i o q y z c),[]⟩=c:=by kernel_rfl
theorem yc.nS:IR.run yc.t12 C N O K tm h nx=zN yc.r9_0 C ⟨tm,[]⟩ h nx (fun tm h nx=>K tm.v h nx):=jG ..
theorem yc.zdk:zN (yc.zev r) C ⟨(yc.fr a b d e f i o q y z c),[]⟩ h nx Kt =
 zM 1 a i fun v1=>zH v1 h fun v2=>zN r C ⟨(yc.fr a b d e f i o q y z c),f::o::v2::v1::i::a::i::e::[]⟩ h nx Kt:=by kernel_rfl
theorem yc.oH:zN (yc.zew r) C ⟨(yc.fr a b d e f i o q y z c),s0::s1::s2::sT⟩ h nx Kt =
 C.fn 333 (.of 333) [s2,s1,s0] h nx fun v1 h2 n3=>zN r C ⟨(yc.fr a b d e f i o q y z c),v1::s0::s1::s2::sT⟩ h2 n3 Kt:=by kernel_rfl
theorem yc.oI:zN (yc.zex r) C ⟨(yc.fr a b d e f i o q y z c),s0::s1::s2::s3::s4::s5::s6::s7::s8::[]⟩ h nx Kt =
 uq 0 s0 fun v1=>uq 1 s0 fun v2=>zM 1 s8 s7 fun v3=>zO 1 v3 v1 h nx fun v4 h5 n6=>zN r C ⟨(yc.fr a b d e f i o q y z c),v3::v2::v1::s0::s0::s1::s2::s3::s4::s5::s6::s7::s8::[]⟩ h5 n6 Kt:=by kernel_rfl
theorem yc.znj:zN (yc.zwh []) C ⟨(yc.fr a b d e f i o q y z c),s0::s1::sT⟩ h nx Kt =
 Kt ⟨(yc.fr a b d e s1 i o q y z c),s0::s1::sT⟩ h nx:=by kernel_rfl
theorem yc.rV:IR.run yc.t17 C N O K (yc.fr a b d e f i o q y z c) h nx =
 zh .add .int y (I 1) fun v1=>K (yc.fr a b d e f i o q v1 z c) h nx:=by kernel_rfl
theorem yc.znk (Inv:Nat->AV->AV->T Blk->Pa->Prop) {m:Nat} (hm:m<N) (hi:Inv m f y h nx)
  (step:∀ (m:Nat) (z4 z5 z6 z8 z9 zA:AV) (h:T Blk) (nx:Pa) (R:Ks Prop),Inv m z4 z8 h nx->(∀ (m':Nat) (w4 w5 w6 w8 w9 wA:AV) (h':T Blk) (nx':Pa),m'<m->Inv m' w4 w8 h' nx'->R (yc.fr a b d e w4 w5 w6 q w8 w9 wA) h' nx'=.ok True)->IR.run yc.t20 C N O R (yc.fr a b d e z4 z5 z6 q z8 z9 zA) h nx=.ok True) :
  IR.run yc.t21 C N O K (yc.fr a b d e f i o q y z c) h nx=.ok True:=by
 rw [yc.t21];refine yD (fun m tm h nx=>∃ z4 z5 z6 z8 z9 zA,tm=(yc.fr a b d e z4 z5 z6 q z8 z9 zA)/\Inv m z4 z8 h nx) ?_ hm ⟨_,_,_,_,_,_,rfl,hi⟩;rintro m tm h nx R ⟨z4,z5,z6,z8,z9,zA,rfl,hi⟩ hR;exact step m z4 z5 z6 z8 z9 zA h nx R hi fun m' w4 w5 w6 w8 w9 wA h' nx' hlt hi'=>hR m' _ h' nx' hlt ⟨_,_,_,_,_,_,rfl,hi'⟩
theorem yc.eH:IR.run yc.t24 C N O K (yc.fr a b d e f i o q y z c) h nx =
 C.fn 332 (.of 332) [e] h nx fun v1 h2 n3=>K (yc.fr a b v1 e f i o q y z c) h2 n3:=by kernel_rfl
theorem yc.go:zS tbl N C (.of 271) [a0,a1] h nx K0=IR.run yc.t29 C N (fnO yc.res K0) (yu yc.res K0) (yc.fr a0 a1 .u .u .u .u .u .u .u .u .u) h nx:=yW (F:=yc) (by kernel_rfl) (fun _=>by kernel_rfl) (by kernel_rfl)
theorem yc.ret:yu yc.res K0 (yc.fr a b d e f i o q y z c) h nx=K0 d h nx:=by kernel_rfl
theorem zo.jk:IR.run zo.t0 C N O K (zo.fr a b d e f i o q y z c g p l s u v w A B) h nx =
 K (zo.fr a b .zn e f i o q y z c g p l s u v w A B) h nx:=by kernel_rfl
theorem zo.ji:IR.run zo.t1 C N O K (zo.fr a b d e f i o q y z c g p l s u v w A B) h nx =
 sLen a fun v1=>sLen b fun v2=>zh .add .int v1 v2 fun v3=>uL 1 8 [(.int .u64 0)] v3 v3 h nx fun v4 h5 n6=>K (zo.fr a b d v4 f i o q y z c g p l s u v w A B) h5 n6:=by kernel_rfl
theorem zo.qh:IR.run zo.t2 C N O K (zo.fr a b d e f i o q y z c g p l s u v w A B) h nx =
 sLen a fun v1=>K (zo.fr a b d e f i o q y z c g a v1 (I 0) u v w A B) h nx:=by kernel_rfl
theorem zo.nU:IR.run zo.t3 C N O K (zo.fr a b d e f i o q y z c g p l s u v w A B) h nx =
 zh .lss .int s l fun v1=>K (zo.fr a b d e f i o q y z c g p l s v1 v w A B) h nx:=by kernel_rfl
theorem zo.v15:Arg.ev (.t (.of 15)) ⟨(zo.fr a b d e f i o q y z c g p l s u v w A B),[]⟩=u:=by kernel_rfl
theorem zo.bV:IR.run zo.t5 C N O K (zo.fr a b d e f i o q y z c g p l s u v w A B) h nx =
 zM 1 p s fun v1=>zH v1 h fun v2=>K (zo.fr a b d e s v2 o q y z c g p l s u v w A B) h nx:=by kernel_rfl
theorem zo.bf:IR.run zo.t6 C N O K (zo.fr a b d e f i o q y z c g p l s u v w A B) h nx =
 K (zo.fr a b d e f i (.int .u64 0) q y z c g p l s u v w A B) h nx:=by kernel_rfl
theorem zo.rD:IR.run zo.t7 C N O K (zo.fr a b d e f i o q y z c g p l s u v w A B) h nx =
 sLen b fun v1=>K (zo.fr a b d e f i o q y z c g p l s u b v1 (I 0) B) h nx:=by kernel_rfl
theorem zo.sD:IR.run zo.t8 C N O K (zo.fr a b d e f i o q y z c g p l s u v w A B) h nx =
 zh .lss .int A w fun v1=>K (zo.fr a b d e f i o q y z c g p l s u v w A v1) h nx:=by kernel_rfl
theorem zo.v19:Arg.ev (.t (.of 19)) ⟨(zo.fr a b d e f i o q y z c g p l s u v w A B),[]⟩=B:=by kernel_rfl
theorem zo.nR:IR.run zo.t10 C N O K (zo.fr a b d e f i o q y z c g p l s u v w A B) h nx =
 zM 1 v A fun v1=>zH v1 h fun v2=>K (zo.fr a b d e f i o A v2 z c g p l s u v w A B) h nx:=by kernel_rfl
theorem zo.fM:IR.run zo.t11 C N O K (zo.fr a b d e f i o q y z c g p l s u v w A B) h nx =
 C.fn 274 (.of 274) [i,y] h nx fun v1 h2 n3=>uq 0 v1 fun v4=>uq 1 v1 fun v5=>K (zo.fr a b d e f i o q y v4 v5 g p l s u v w A B) h2 n3:=by kernel_rfl
theorem zo.nS:IR.run zo.t12 C N O K (zo.fr a b d e f i o q y z c g p l s u v w A B) h nx =
 K (zo.fr a b d e f i o q y z c (.int .u64 0) p l s u v w A B) h nx:=by kernel_rfl
theorem zo.ng:IR.run zo.t13 C N O K tm h nx=zN zo.oQ C ⟨tm,[]⟩ h nx (fun tm h nx=>K tm.v h nx):=jG ..
theorem zo.zaa:zN (zo.zad r) C ⟨(zo.fr a b d e f i o q y z c g p l s u v w A B),[]⟩ h nx Kt =
 zh .add .int f q fun v1=>zM 1 e v1 fun v2=>zH v2 h fun v3=>C.fn 331 (.of 331) [c,v3,(.int .u64 0)] h nx fun v4 h5 n6=>zN r C ⟨(zo.fr a b d e f i o q y z c g p l s u v w A B),v4::v3::v2::v1::q::f::e::c::[]⟩ h5 n6 Kt:=by kernel_rfl
theorem zo.zab:zN (zo.zae []) C ⟨(zo.fr a b d e f i o q y z c g p l s u v w A B),s0::sT⟩ h nx Kt =
 uq 0 s0 fun v1=>uq 1 s0 fun v2=>Kt ⟨(zo.fr a b d e f i o q y z v1 v2 p l s u v w A B),v2::v1::s0::s0::sT⟩ h nx:=by kernel_rfl
theorem zo.rq:IR.run zo.t14 C N O K (zo.fr a b d e f i o q y z c g p l s u v w A B) h nx =
 zh .add .int z g fun v1=>K (zo.fr a b d e f i o q y v1 c g p l s u v w A B) h nx:=by kernel_rfl
theorem zo.sF:IR.run zo.t15 C N O K (zo.fr a b d e f i o q y z c g p l s u v w A B) h nx =
 C.fn 331 (.of 331) [c,o,(.int .u64 0)] h nx fun v1 h2 n3=>uq 0 v1 fun v4=>uq 1 v1 fun v5=>K (zo.fr a b d e f i o q y z v4 v5 p l s u v w A B) h2 n3:=by kernel_rfl
theorem zo.nZ:IR.run zo.t16 C N O K (zo.fr a b d e f i o q y z c g p l s u v w A B) h nx =
 zh .add .int f q fun v1=>zh .add .int z g fun v2=>zM 1 e v1 fun v3=>zO 1 v3 c h nx fun v4 h5 n6=>K (zo.fr a b d e f i v2 q y z c g p l s u v w A B) h5 n6:=by kernel_rfl
theorem zo.eH:IR.run zo.t24 C N O K (zo.fr a b d e f i o q y z c g p l s u v w A B) h nx =
 zh .add .int A (I 1) fun v1=>K (zo.fr a b d e f i o q y z c g p l s u v w v1 B) h nx:=by kernel_rfl
theorem zo.qar (Inv:Nat->AV->AV->T Blk->Pa->Prop) {m:Nat} (hm:m<N) (hi:Inv m o A h nx)
  (step:∀ (m:Nat) (z6 z7 z8 z9 zA zB zC zE:AV) (h:T Blk) (nx:Pa) (R:Ks Prop),Inv m z6 zC h nx->(∀ (m':Nat) (w6 w7 w8 w9 wA wB wC wD:AV) (h':T Blk) (nx':Pa),m'<m->Inv m' w6 wC h' nx'->R (zo.fr a b d e f i w6 w7 w8 w9 wA wB p l s u v w wC wD) h' nx'=.ok True)->IR.run zo.t27 C N O R (zo.fr a b d e f i z6 z7 z8 z9 zA zB p l s u v w zC zE) h nx=.ok True) :
  IR.run zo.t28 C N O K (zo.fr a b d e f i o q y z c g p l s u v w A B) h nx=.ok True:=by
 rw [zo.t28];refine yD (fun m tm h nx=>∃ z6 z7 z8 z9 zA zB zC zE,tm=(zo.fr a b d e f i z6 z7 z8 z9 zA zB p l s u v w zC zE)/\Inv m z6 zC h nx) ?_ hm ⟨_,_,_,_,_,_,_,_,rfl,hi⟩;rintro m tm h nx R ⟨z6,z7,z8,z9,zA,zB,zC,zE,rfl,hi⟩ hR;exact step m z6 z7 z8 z9 zA zB zC zE h nx R hi fun m' w6 w7 w8 w9 wA wB wC wD h' nx' hlt hi'=>hR m' _ h' nx' hlt ⟨_,_,_,_,_,_,_,_,rfl,hi'⟩
theorem zo.zey:IR.run zo.t31 C N O K (zo.fr a b d e f i o q y z c g p l s u v w A B) h nx =
 sLen b fun v1=>zh .add .int f v1 fun v2=>zM 1 e v2 fun v3=>zO 1 v3 o h nx fun v4 h5 n6=>K (zo.fr a b d e f i o q y z c g p l s u v w A B) h5 n6:=by kernel_rfl
theorem zo.ay:IR.run zo.t36 C N O K (zo.fr a b d e f i o q y z c g p l s u v w A B) h nx =
 zh .add .int s (I 1) fun v1=>K (zo.fr a b d e f i o q y z c g p l v1 u v w A B) h nx:=by kernel_rfl
theorem zo.qas (Inv:Nat->AV->T Blk->Pa->Prop) {m:Nat} (hm:m<N) (hi:Inv m s h nx)
  (step:∀ (m:Nat) (z4 z5 z6 z7 z8 z9 zA zB zF zG zI zK zC zE:AV) (h:T Blk) (nx:Pa) (R:Ks Prop),Inv m zF h nx->(∀ (m':Nat) (w4 w5 w6 w7 w8 w9 wA wB wE wF wG wH wC wD:AV) (h':T Blk) (nx':Pa),m'<m->Inv m' wE h' nx'->R (zo.fr a b d e w4 w5 w6 w7 w8 w9 wA wB p l wE wF wG wH wC wD) h' nx'=.ok True)->IR.run zo.t39 C N O R (zo.fr a b d e z4 z5 z6 z7 z8 z9 zA zB p l zF zG zI zK zC zE) h nx=.ok True) :
  IR.run zo.t40 C N O K (zo.fr a b d e f i o q y z c g p l s u v w A B) h nx=.ok True:=by
 rw [zo.t40];refine yD (fun m tm h nx=>∃ z4 z5 z6 z7 z8 z9 zA zB zF zG zI zK zC zE,tm=(zo.fr a b d e z4 z5 z6 z7 z8 z9 zA zB p l zF zG zI zK zC zE)/\Inv m zF h nx) ?_ hm ⟨_,_,_,_,_,_,_,_,_,_,_,_,_,_,rfl,hi⟩;rintro m tm h nx R ⟨z4,z5,z6,z7,z8,z9,zA,zB,zF,zG,zI,zK,zC,zE,rfl,hi⟩ hR;exact step m z4 z5 z6 z7 z8 z9 zA zB zF zG zI zK zC zE h nx R hi fun m' w4 w5 w6 w7 w8 w9 wA wB wE wF wG wH wC wD h' nx' hlt hi'=>hR m' _ h' nx' hlt ⟨_,_,_,_,_,_,_,_,_,_,_,_,_,_,rfl,hi'⟩
theorem zo.zck:IR.run zo.t43 C N O K (zo.fr a b d e f i o q y z c g p l s u v w A B) h nx =
 C.fn 332 (.of 332) [e] h nx fun v1 h2 n3=>K (zo.fr a b v1 e f i o q y z c g p l s u v w A B) h2 n3:=by kernel_rfl
theorem zo.go:zS tbl N C (.of 276) [a0,a1] h nx K0=IR.run zo.t47 C N (fnO zo.res K0) (yu zo.res K0) (zo.fr a0 a1 .u .u .u .u .u .u .u .u .u .u .u .u .u .u .u .u .u .u) h nx:=yW (F:=zo) (by kernel_rfl) (fun _=>by kernel_rfl) (by kernel_rfl)
theorem zo.ret:yu zo.res K0 (zo.fr a b d e f i o q y z c g p l s u v w A B) h nx=K0 d h nx:=by kernel_rfl
theorem yx.jk:IR.run yx.t0 C N O K (yx.fr a b d e f) h nx =
 K (yx.fr a (I 0) d e f) h nx:=by kernel_rfl
theorem yx.ji:IR.run yx.t1 C N O K (yx.fr a b d e f) h nx =
 zh .geq .int a (.int .u64 4294967296) fun v1=>K (yx.fr a b v1 e f) h nx:=by kernel_rfl
theorem yx.qh:IR.run yx.t2 C N O K (yx.fr a b d e f) h nx =
 zh .shr .int a (.int .u64 32) fun v1=>K (yx.fr v1 b d e f) h nx:=by kernel_rfl
theorem yx.nU:IR.run yx.t3 C N O K (yx.fr a b d e f) h nx =
 K (yx.fr a (I 32) d e f) h nx:=by kernel_rfl
theorem yx.v2:Arg.ev (.t (.of 2)) ⟨(yx.fr a b d e f),[]⟩=d:=by kernel_rfl
theorem yx.rD:IR.run yx.t7 C N O K (yx.fr a b d e f) h nx =
 zh .geq .int a (.int .u64 65536) fun v1=>K (yx.fr a b d v1 f) h nx:=by kernel_rfl
theorem yx.sD:IR.run yx.t8 C N O K (yx.fr a b d e f) h nx =
 zh .shr .int a (.int .u64 16) fun v1=>K (yx.fr v1 b d e f) h nx:=by kernel_rfl
theorem yx.ax:IR.run yx.t9 C N O K (yx.fr a b d e f) h nx =
 zh .add .int b (I 16) fun v1=>K (yx.fr a v1 d e f) h nx:=by kernel_rfl
theorem yx.v3:Arg.ev (.t (.of 3)) ⟨(yx.fr a b d e f),[]⟩=e:=by kernel_rfl
theorem yx.ng:IR.run yx.t13 C N O K (yx.fr a b d e f) h nx =
 zh .geq .int a (.int .u64 256) fun v1=>K (yx.fr a b d e v1) h nx:=by kernel_rfl
theorem yx.rq:IR.run yx.t14 C N O K (yx.fr a b d e f) h nx =
 zh .shr .int a (.int .u64 8) fun v1=>K (yx.fr v1 b d e f) h nx:=by kernel_rfl
theorem yx.sF:IR.run yx.t15 C N O K (yx.fr a b d e f) h nx =
 zh .add .int b (I 8) fun v1=>K (yx.fr a v1 d e f) h nx:=by kernel_rfl
theorem yx.v4:Arg.ev (.t (.of 4)) ⟨(yx.fr a b d e f),[]⟩=f:=by kernel_rfl
theorem yx.sV:IR.run yx.t19 C N O K (yx.fr a b d e f) h nx =
 qN .u8 a fun v1=>znl (.str [0,1,2,2,3,3,3,3,4,4,4,4,4,4,4,4,5,5,5,5,5,5,5,5,5,5,5,5,5,5,5,5,6,6,6,6,6,6,6,6,6,6,6,6,6,6,6,6,6,6,6,6,6,6,6,6,6,6,6,6,6,6,6,6,7,7,7,7,7,7,7,7,7,7,7,7,7,7,7,7,7,7,7,7,7,7,7,7,7,7,7,7,7,7,7,7,7,7,7,7,7,7,7,7,7,7,7,7,7,7,7,7,7,7,7,7,7,7,7,7,7,7,7,7,7,7,7,7,8,8,8,8,8,8,8,8,8,8,8,8,8,8,8,8,8,8,8,8,8,8,8,8,8,8,8,8,8,8,8,8,8,8,8,8,8,8,8,8,8,8,8,8,8,8,8,8,8,8,8,8,8,8,8,8,8,8,8,8,8,8,8,8,8,8,8,8,8,8,8,8,8,8,8,8,8,8,8,8,8,8,8,8,8,8,8,8,8,8,8,8,8,8,8,8,8,8,8,8,8,8,8,8,8,8,8,8,8,8,8,8,8,8,8,8,8,8,8,8,8,8,8,8,8,8,8,8]) v1 fun v2=>qN .i64 v2 fun v3=>zh .add .int b v3 fun v4=>K (yx.fr a v4 d e f) h nx:=by kernel_rfl
theorem yx.go:zS tbl N C (.of 348) [a0] h nx K0=IR.run yx.t24 C N (fnO yx.res K0) (yu yx.res K0) (yx.fr a0 .u .u .u .u) h nx:=yW (F:=yx) (by kernel_rfl) (fun _=>by kernel_rfl) (by kernel_rfl)
theorem yx.ret:yu yx.res K0 (yx.fr a b d e f) h nx=K0 b h nx:=by kernel_rfl
theorem bZ.jk:IR.run bZ.t0 C N O K (bZ.fr a b) h nx =
 K (bZ.fr a (I 0)) h nx:=by kernel_rfl
theorem bZ.ji:IR.run bZ.t1 C N O K (bZ.fr a b) h nx =
 C.fn 348 (.of 348) [a] h nx fun v1 h2 n3=>zh .sub .int (I 64) v1 fun v4=>K (bZ.fr a v4) h2 n3:=by kernel_rfl
theorem bZ.go:zS tbl N C (.of 336) [a0] h nx K0=IR.run bZ.t3 C N (fnO bZ.res K0) (yu bZ.res K0) (bZ.fr a0 .u) h nx:=yW (F:=bZ) (by kernel_rfl) (fun _=>by kernel_rfl) (by kernel_rfl)
theorem bZ.ret:yu bZ.res K0 (bZ.fr a b) h nx=K0 b h nx:=by kernel_rfl
theorem zk.jk:IR.run zk.t0 C N O K (zk.fr a b d e f i o q y z c g p l s u v w A B D E G) h nx =
 K (zk.fr a b d (.int .u64 0) (.int .u64 0) i o q y z c g p l s u v w A B D E G) h nx:=by kernel_rfl
theorem zk.ji:IR.run zk.t1 C N O K (zk.fr a b d e f i o q y z c g p l s u v w A B D E G) h nx =
 zh .eql .int d (.int .u64 0) fun v1=>K (zk.fr a b d e f i o q y z c g p l s u v1 w A B D E G) h nx:=by kernel_rfl
theorem zk.v16:Arg.ev (.t (.of 16)) ⟨(zk.fr a b d e f i o q y z c g p l s u v w A B D E G),[]⟩=v:=by kernel_rfl
theorem zk.ny:IR.run zk.t4 C N O K (zk.fr a b d e f i o q y z c g p l s u v w A B D E G) h nx =
 zh .leq .int d a fun v1=>K (zk.fr a b d e f i o q y z c g p l s u v v1 A B D E G) h nx:=by kernel_rfl
theorem zk.v17:Arg.ev (.t (.of 17)) ⟨(zk.fr a b d e f i o q y z c g p l s u v w A B D E G),[]⟩=w:=by kernel_rfl
theorem zk.rD:IR.run zk.t7 C N O K (zk.fr a b d e f i o q y z c g p l s u v w A B D E G) h nx =
 zh .eql .int a (.int .u64 0) fun v1=>K (zk.fr a b d e f i o q y z c g p l s u v w v1 B D E G) h nx:=by kernel_rfl
theorem zk.sD:IR.run zk.t8 C N O K (zk.fr a b d e f i o q y z c g p l s u v w A B D E G) h nx =
 zh .quo .int b d fun v1=>zh .rem .int b d fun v2=>K (zk.fr a b d v1 v2 i o q y z c g p l s u v w A B D E G) h nx:=by kernel_rfl
theorem zk.v18:Arg.ev (.t (.of 18)) ⟨(zk.fr a b d e f i o q y z c g p l s u v w A B D E G),[]⟩=A:=by kernel_rfl
theorem zk.nS:IR.run zk.t12 C N O K (zk.fr a b d e f i o q y z c g p l s u v w A B D E G) h nx =
 C.fn 336 (.of 336) [d] h nx fun v1 h2 n3=>qN .u64 v1 fun v4=>K (zk.fr a b d e f v4 o q y z c g p l s u v w A B D E G) h2 n3:=by kernel_rfl
theorem zk.ng:IR.run zk.t13 C N O K (zk.fr a b d e f i o q y z c g p l s u v w A B D E G) h nx =
 zh .shl .int d i fun v1=>K (zk.fr a b v1 e f i o q y z c g p l s u v w A B D E G) h nx:=by kernel_rfl
theorem zk.rq:IR.run zk.t14 C N O K (zk.fr a b d e f i o q y z c g p l s u v w A B D E G) h nx =
 zh .shr .int d (.int .u64 32) fun v1=>K (zk.fr a b d e f i v1 q y z c g p l s u v w A B D E G) h nx:=by kernel_rfl
theorem zk.sF:IR.run zk.t15 C N O K (zk.fr a b d e f i o q y z c g p l s u v w A B D E G) h nx =
 zh .and .int d (.int .u64 4294967295) fun v1=>K (zk.fr a b d e f i o v1 y z c g p l s u v w A B D E G) h nx:=by kernel_rfl
theorem zk.nZ:IR.run zk.t16 C N O K (zk.fr a b d e f i o q y z c g p l s u v w A B D E G) h nx =
 zh .shl .int a i fun v1=>zh .sub .int (.int .u64 64) i fun v2=>zh .shr .int b v2 fun v3=>zh .or .int v1 v3 fun v4=>K (zk.fr a b d e f i o q v4 z c g p l s u v w A B D E G) h nx:=by kernel_rfl
theorem zk.rV:IR.run zk.t17 C N O K (zk.fr a b d e f i o q y z c g p l s u v w A B D E G) h nx =
 zh .shl .int b i fun v1=>K (zk.fr a b d e f i o q y v1 c g p l s u v w A B D E G) h nx:=by kernel_rfl
theorem zk.ah:IR.run zk.t18 C N O K (zk.fr a b d e f i o q y z c g p l s u v w A B D E G) h nx =
 zh .shr .int z (.int .u64 32) fun v1=>K (zk.fr a b d e f i o q y z v1 g p l s u v w A B D E G) h nx:=by kernel_rfl
theorem zk.sV:IR.run zk.t19 C N O K (zk.fr a b d e f i o q y z c g p l s u v w A B D E G) h nx =
 zh .and .int z (.int .u64 4294967295) fun v1=>K (zk.fr a b d e f i o q y z c v1 p l s u v w A B D E G) h nx:=by kernel_rfl
theorem zk.zez:IR.run zk.t20 C N O K (zk.fr a b d e f i o q y z c g p l s u v w A B D E G) h nx =
 zh .quo .int y o fun v1=>K (zk.fr a b d e f i o q y z c g v1 l s u v w A B D E G) h nx:=by kernel_rfl
theorem zk.sU:IR.run zk.t21 C N O K (zk.fr a b d e f i o q y z c g p l s u v w A B D E G) h nx =
 zh .mul .int p o fun v1=>zh .sub .int y v1 fun v2=>K (zk.fr a b d e f i o q y z c g p v2 s u v w A B D E G) h nx:=by kernel_rfl
theorem zk.oP:IR.run zk.t22 C N O K tm h nx=zN zk.znm C ⟨tm,[]⟩ h nx (fun tm h nx=>K tm.v h nx):=jG ..
theorem zk.ztd:zN (zk.znn r) C ⟨(zk.fr a b d e f i o q y z c g p l s u v w A B D E G),[]⟩ h nx Kt =
 zh .geq .int p (.int .u64 4294967296) fun v1=>sG v1 false (fun k=>k p) fun v2=>sG v1 false (fun k=>k q) fun v3=>sG v1 false (fun k=>zh .mul .int v2 v3 k) fun v4=>sG v1 false (fun k=>k l) fun v5=>sG v1 false (fun k=>zh .mul .int (.int .u64 4294967296) v5 k) fun v6=>zN r C ⟨(zk.fr a b d e f i o q y z c g p l s u v w A B D E G),v6::v5::v4::v3::v2::v1::v1::p::[]⟩ h nx Kt:=by kernel_rfl
theorem zk.zjc:zN (zk.zno []) C ⟨(zk.fr a b d e f i o q y z c g p l s u v w A B D E G),s0::s1::s2::s3::s4::s5::sT⟩ h nx Kt =
 sG s5 false (fun k=>k c) fun v1=>sG s5 false (fun k=>zh .add .int s0 v1 k) fun v2=>sG s5 false (fun k=>zh .gtr .int s2 v2 k) fun v3=>jD s5 (.bool true) v3 fun v4=>Kt ⟨(zk.fr a b d e f i o q y z c g p l s u v w A v4 D E G),v3::v2::v1::s0::s1::s2::s3::s4::s5::sT⟩ h nx:=by kernel_rfl
theorem zk.v19:Arg.ev (.t (.of 19)) ⟨(zk.fr a b d e f i o q y z c g p l s u v w A B D E G),[]⟩=B:=by kernel_rfl
theorem zk.zcl:IR.run zk.t25 C N O K (zk.fr a b d e f i o q y z c g p l s u v w A B D E G) h nx =
 zh .sub .int p (.int .u64 1) fun v1=>K (zk.fr a b d e f i o q y z c g v1 l s u v w A B D E G) h nx:=by kernel_rfl
theorem zk.zjd:IR.run zk.t26 C N O K (zk.fr a b d e f i o q y z c g p l s u v w A B D E G) h nx =
 zh .add .int l o fun v1=>K (zk.fr a b d e f i o q y z c g p v1 s u v w A B D E G) h nx:=by kernel_rfl
theorem zk.zcm:IR.run zk.t27 C N O K (zk.fr a b d e f i o q y z c g p l s u v w A B D E G) h nx =
 zh .geq .int l (.int .u64 4294967296) fun v1=>K (zk.fr a b d e f i o q y z c g p l s u v w A B v1 E G) h nx:=by kernel_rfl
theorem zk.v20:Arg.ev (.t (.of 20)) ⟨(zk.fr a b d e f i o q y z c g p l s u v w A B D E G),[]⟩=D:=by kernel_rfl
theorem zk.qat (Inv:Nat->AV->AV->T Blk->Pa->Prop) {m:Nat} (hm:m<N) (hi:Inv m p l h nx)
  (step:∀ (m:Nat) (zL zQ zE zR:AV) (h:T Blk) (nx:Pa) (R:Ks Prop),Inv m zL zQ h nx->(∀ (m':Nat) (wI wJ wD wK:AV) (h':T Blk) (nx':Pa),m'<m->Inv m' wI wJ h' nx'->R (zk.fr a b d e f i o q y z c g wI wJ s u v w A wD wK E G) h' nx'=.ok True)->IR.run zk.t33 C N O R (zk.fr a b d e f i o q y z c g zL zQ s u v w A zE zR E G) h nx=.ok True) :
  IR.run zk.t34 C N O K (zk.fr a b d e f i o q y z c g p l s u v w A B D E G) h nx=.ok True:=by
 rw [zk.t34];refine yD (fun m tm h nx=>∃ zL zQ zE zR,tm=(zk.fr a b d e f i o q y z c g zL zQ s u v w A zE zR E G)/\Inv m zL zQ h nx) ?_ hm ⟨_,_,_,_,rfl,hi⟩;rintro m tm h nx R ⟨zL,zQ,zE,zR,rfl,hi⟩ hR;exact step m zL zQ zE zR h nx R hi fun m' wI wJ wD wK h' nx' hlt hi'=>hR m' _ h' nx' hlt ⟨_,_,_,_,rfl,hi'⟩
theorem zk.ay:IR.run zk.t36 C N O K (zk.fr a b d e f i o q y z c g p l s u v w A B D E G) h nx =
 zh .mul .int y (.int .u64 4294967296) fun v1=>zh .add .int v1 c fun v2=>zh .mul .int p d fun v3=>zh .sub .int v2 v3 fun v4=>K (zk.fr a b d e f i o q y z c g p l v4 u v w A B D E G) h nx:=by kernel_rfl
theorem zk.zaf:IR.run zk.t37 C N O K (zk.fr a b d e f i o q y z c g p l s u v w A B D E G) h nx =
 zh .quo .int s o fun v1=>K (zk.fr a b d e f i o q y z c g p l s v1 v w A B D E G) h nx:=by kernel_rfl
theorem zk.ze0:IR.run zk.t38 C N O K (zk.fr a b d e f i o q y z c g p l s u v w A B D E G) h nx =
 zh .mul .int u o fun v1=>zh .sub .int s v1 fun v2=>K (zk.fr a b d e f i o q y z c g p v2 s u v w A B D E G) h nx:=by kernel_rfl
theorem zk.ze1:IR.run zk.t39 C N O K tm h nx=zN zk.znp C ⟨tm,[]⟩ h nx (fun tm h nx=>K tm.v h nx):=jG ..
theorem zk.zte:zN (zk.znq r) C ⟨(zk.fr a b d e f i o q y z c g p l s u v w A B D E G),[]⟩ h nx Kt =
 zh .geq .int u (.int .u64 4294967296) fun v1=>sG v1 false (fun k=>k u) fun v2=>sG v1 false (fun k=>k q) fun v3=>sG v1 false (fun k=>zh .mul .int v2 v3 k) fun v4=>sG v1 false (fun k=>k l) fun v5=>sG v1 false (fun k=>zh .mul .int (.int .u64 4294967296) v5 k) fun v6=>zN r C ⟨(zk.fr a b d e f i o q y z c g p l s u v w A B D E G),v6::v5::v4::v3::v2::v1::v1::u::[]⟩ h nx Kt:=by kernel_rfl
theorem zk.zje:zN (zk.znr []) C ⟨(zk.fr a b d e f i o q y z c g p l s u v w A B D E G),s0::s1::s2::s3::s4::s5::sT⟩ h nx Kt =
 sG s5 false (fun k=>k g) fun v1=>sG s5 false (fun k=>zh .add .int s0 v1 k) fun v2=>sG s5 false (fun k=>zh .gtr .int s2 v2 k) fun v3=>jD s5 (.bool true) v3 fun v4=>Kt ⟨(zk.fr a b d e f i o q y z c g p l s u v w A B D v4 G),v3::v2::v1::s0::s1::s2::s3::s4::s5::sT⟩ h nx:=by kernel_rfl
theorem zk.v21:Arg.ev (.t (.of 21)) ⟨(zk.fr a b d e f i o q y z c g p l s u v w A B D E G),[]⟩=E:=by kernel_rfl
theorem zk.zjf:IR.run zk.t42 C N O K (zk.fr a b d e f i o q y z c g p l s u v w A B D E G) h nx =
 zh .sub .int u (.int .u64 1) fun v1=>K (zk.fr a b d e f i o q y z c g p l s v1 v w A B D E G) h nx:=by kernel_rfl
theorem zk.zck:IR.run zk.t43 C N O K (zk.fr a b d e f i o q y z c g p l s u v w A B D E G) h nx =
 zh .add .int l o fun v1=>K (zk.fr a b d e f i o q y z c g p v1 s u v w A B D E G) h nx:=by kernel_rfl
theorem zk.zcn:IR.run zk.t44 C N O K (zk.fr a b d e f i o q y z c g p l s u v w A B D E G) h nx =
 zh .geq .int l (.int .u64 4294967296) fun v1=>K (zk.fr a b d e f i o q y z c g p l s u v w A B D E v1) h nx:=by kernel_rfl
theorem zk.v22:Arg.ev (.t (.of 22)) ⟨(zk.fr a b d e f i o q y z c g p l s u v w A B D E G),[]⟩=G:=by kernel_rfl
theorem zk.qau (Inv:Nat->AV->AV->T Blk->Pa->Prop) {m:Nat} (hm:m<N) (hi:Inv m l u h nx)
  (step:∀ (m:Nat) (zQ zG zT zU:AV) (h:T Blk) (nx:Pa) (R:Ks Prop),Inv m zQ zG h nx->(∀ (m':Nat) (wJ wF wL wM:AV) (h':T Blk) (nx':Pa),m'<m->Inv m' wJ wF h' nx'->R (zk.fr a b d e f i o q y z c g p wJ s wF v w A B D wL wM) h' nx'=.ok True)->IR.run zk.t50 C N O R (zk.fr a b d e f i o q y z c g p zQ s zG v w A B D zT zU) h nx=.ok True) :
  IR.run zk.t51 C N O K (zk.fr a b d e f i o q y z c g p l s u v w A B D E G) h nx=.ok True:=by
 rw [zk.t51];refine yD (fun m tm h nx=>∃ zQ zG zT zU,tm=(zk.fr a b d e f i o q y z c g p zQ s zG v w A B D zT zU)/\Inv m zQ zG h nx) ?_ hm ⟨_,_,_,_,rfl,hi⟩;rintro m tm h nx R ⟨zQ,zG,zT,zU,rfl,hi⟩ hR;exact step m zQ zG zT zU h nx R hi fun m' wJ wF wL wM h' nx' hlt hi'=>hR m' _ h' nx' hlt ⟨_,_,_,_,rfl,hi'⟩
theorem zk.ze2:IR.run zk.t53 C N O K tm h nx=zN zk.zns C ⟨tm,[]⟩ h nx (fun tm h nx=>K tm.v h nx):=jG ..
theorem zk.ztf:zN (zk.znt r) C ⟨(zk.fr a b d e f i o q y z c g p l s u v w A B D E G),[]⟩ h nx Kt =
 zh .mul .int p (.int .u64 4294967296) fun v1=>zh .add .int v1 u fun v2=>zh .mul .int s (.int .u64 4294967296) fun v3=>zh .add .int v3 g fun v4=>zN r C ⟨(zk.fr a b d e f i o q y z c g p l s u v w A B D E G),v4::g::v3::s::v2::u::v1::p::[]⟩ h nx Kt:=by kernel_rfl
theorem zk.ztg:zN (zk.znu []) C ⟨(zk.fr a b d e f i o q y z c g p l s u v w A B D E G),s0::s1::s2::s3::s4::sT⟩ h nx Kt =
 zh .mul .int u d fun v1=>zh .sub .int s0 v1 fun v2=>zh .shr .int v2 i fun v3=>Kt ⟨(zk.fr a b d s4 v3 i o q y z c g p l s u v w A B D E G),v3::i::v2::v1::d::u::s0::s1::s2::s3::s4::sT⟩ h nx:=by kernel_rfl
theorem zk.go:zS tbl N C (.of 335) [a0,a1,a2] h nx K0=IR.run zk.t73 C N (fnO zk.res K0) (yu zk.res K0) (zk.fr a0 a1 a2 .u .u .u .u .u .u .u .u .u .u .u .u .u .u .u .u .u .u .u .u) h nx:=yW (F:=zk) (by kernel_rfl) (fun _=>by kernel_rfl) (by kernel_rfl)
theorem zk.ret:yu zk.res K0 (zk.fr a b d e f i o q y z c g p l s u v w A B D E G) h nx=K0 (.tup [e,f]) h nx:=by kernel_rfl
theorem zf.jk:IR.run zf.t0 C N O K (zf.fr a b d e f i o q y z c g p l s u v w A B D E G H L M P) h nx =
 K (zf.fr a b (.int .u64 0) e f i o q y z c g p l s u v w A B D E G H L M P) h nx:=by kernel_rfl
theorem zf.ji:IR.run zf.t1 C N O K (zf.fr a b d e f i o q y z c g p l s u v w A B D E G H L M P) h nx =
 sLen b fun v1=>K (zf.fr a b d v1 f i o q y z c g p l s u v w A B D E G H L M P) h nx:=by kernel_rfl
theorem zf.qh:IR.run zf.t2 C N O K (zf.fr a b d e f i o q y z c g p l s u v w A B D E G H L M P) h nx =
 K (zf.fr a b d e (.int .u64 0) (.int .u64 0) o q y z c g p l s u v w A B D E G H L M P) h nx:=by kernel_rfl
theorem zf.nU:IR.run zf.t3 C N O K (zf.fr a b d e f i o q y z c g p l s u v w A B D E G H L M P) h nx =
 K (zf.fr a b d e f i (.int .u64 0) q y z c g p l s u v w A B D E G H L M P) h nx:=by kernel_rfl
theorem zf.ny:IR.run zf.t4 C N O K (zf.fr a b d e f i o q y z c g p l s u v w A B D E G H L M P) h nx =
 zM 1 a e fun v1=>zH v1 h fun v2=>zh .sub .int e (I 1) fun v3=>zM 1 b v3 fun v4=>zH v4 h fun v5=>zh .geq .int v2 v5 fun v6=>K (zf.fr a b d e f i o q y z c g p l s u v v6 A B D E G H L M P) h nx:=by kernel_rfl
theorem zf.bV:IR.run zf.t5 C N O K (zf.fr a b d e f i o q y z c g p l s u v w A B D E G H L M P) h nx =
 K (zf.fr a b d e (.int .u64 18446744073709551615) i o q y z c g p l s u v w A B D E G H L M P) h nx:=by kernel_rfl
theorem zf.bf:IR.run zf.t6 C N O K tm h nx=zN zf.r5_0 C ⟨tm,[]⟩ h nx (fun tm h nx=>K tm.v h nx):=dY ..
theorem zf.zah:zN (zf.ze3 r) C ⟨(zf.fr a b d e f i o q y z c g p l s u v w A B D E G H L M P),[]⟩ h nx Kt =
 zh .sub .int e (I 1) fun v1=>zM 1 a v1 fun v2=>zH v2 h fun v3=>zh .sub .int e (I 1) fun v4=>zN r C ⟨(zf.fr a b d e f i o q y z c g p l s u v w A B D E G H L M P),v4::e::b::v3::v2::v1::e::a::[]⟩ h nx Kt:=by kernel_rfl
theorem zf.zai:zN (zf.ze4 r) C ⟨(zf.fr a b d e f i o q y z c g p l s u v w A B D E G H L M P),s0::s1::s2::s3::sT⟩ h nx Kt =
 zM 1 s2 s0 fun v1=>zH v1 h fun v2=>C.fn 331 (.of 331) [s3,v2,(.int .u64 0)] h nx fun v3 h4 n5=>zN r C ⟨(zf.fr a b d e f i o q y z c g p l s u v w A B D E G H L M P),v3::v2::v1::s0::s1::s2::s3::sT⟩ h4 n5 Kt:=by kernel_rfl
theorem zf.zyg:zN (zf.zwi []) C ⟨(zf.fr a b d e f i o q y z c g p l s u v w A B D E G H L M P),s0::sT⟩ h nx Kt =
 uq 0 s0 fun v1=>uq 1 s0 fun v2=>Kt ⟨(zf.fr a b d e f v1 v2 q y z c g p l s u v w A B D E G H L M P),v2::v1::s0::s0::sT⟩ h nx:=by kernel_rfl
theorem zf.sD:IR.run zf.t8 C N O K tm h nx=zN zf.r6_0 C ⟨tm,[]⟩ h nx (fun tm h nx=>K tm.v h nx):=dY ..
theorem zf.zyh:zN (zf.zwj r) C ⟨(zf.fr a b d e f i o q y z c g p l s u v w A B D E G H L M P),[]⟩ h nx Kt =
 zM 1 a e fun v1=>zH v1 h fun v2=>zh .sub .int e (I 1) fun v3=>zM 1 a v3 fun v4=>zN r C ⟨(zf.fr a b d e f i o q y z c g p l s u v w A B D E G H L M P),v4::v3::e::a::v2::v1::e::a::[]⟩ h nx Kt:=by kernel_rfl
theorem zf.zyi:zN (zf.zwk r) C ⟨(zf.fr a b d e f i o q y z c g p l s u v w A B D E G H L M P),s0::s1::s2::s3::s4::sT⟩ h nx Kt =
 zH s0 h fun v1=>zh .sub .int e (I 1) fun v2=>zM 1 b v2 fun v3=>zH v3 h fun v4=>C.fn 335 (.of 335) [s4,v1,v4] h nx fun v5 h6 n7=>zN r C ⟨(zf.fr a b d e f i o q y z c g p l s u v w A B D E G H L M P),v5::v4::v3::v2::e::b::v1::s0::s1::s2::s3::s4::sT⟩ h6 n7 Kt:=by kernel_rfl
theorem zf.zyj:zN (zf.zwl []) C ⟨(zf.fr a b d e f i o q y z c g p l s u v w A B D E G H L M P),s0::sT⟩ h nx Kt =
 uq 0 s0 fun v1=>uq 1 s0 fun v2=>Kt ⟨(zf.fr a b d e v1 v2 o q y z c g p l s u v w A B D E G H L M P),v2::v1::s0::s0::sT⟩ h nx:=by kernel_rfl
theorem zf.v17:Arg.ev (.t (.of 17)) ⟨(zf.fr a b d e f i o q y z c g p l s u v w A B D E G H L M P),[]⟩=w:=by kernel_rfl
theorem zf.fM:IR.run zf.t11 C N O K (zf.fr a b d e f i o q y z c g p l s u v w A B D E G H L M P) h nx =
 zh .eql .int o (.int .u64 0) fun v1=>K (zf.fr a b d e f i o q y z c g p l s u v w v1 B D E G H L M P) h nx:=by kernel_rfl
theorem zf.v18:Arg.ev (.t (.of 18)) ⟨(zf.fr a b d e f i o q y z c g p l s u v w A B D E G H L M P),[]⟩=A:=by kernel_rfl
theorem zf.rq:IR.run zf.t14 C N O K (zf.fr a b d e f i o q y z c g p l s u v w A B D E G H L M P) h nx =
 zh .sub .int e (I 2) fun v1=>zM 1 b v1 fun v2=>zH v2 h fun v3=>C.fn 274 (.of 274) [f,v3] h nx fun v4 h5 n6=>uq 0 v4 fun v7=>uq 1 v4 fun v8=>K (zf.fr a b d e f i o v7 v8 z c g p l s u v w A B D E G H L M P) h5 n6:=by kernel_rfl
theorem zf.sF:IR.run zf.t15 C N O K tm h nx=zN zf.r9_0 C ⟨tm,[]⟩ h nx (fun tm h nx=>K tm.v h nx):=jG ..
theorem zf.zdk:zN (zf.zev r) C ⟨(zf.fr a b d e f i o q y z c g p l s u v w A B D E G H L M P),[]⟩ h nx Kt =
 zh .lss .int q i fun v1=>sG v1 false (fun k=>k q) fun v2=>sG v1 false (fun k=>k i) fun v3=>sG v1 false (fun k=>zh .eql .int v2 v3 k) fun v4=>sG v1 false (fun k=>k v4) fun v5=>zN r C ⟨(zf.fr a b d e f i o q y z c g p l s u v w A B D E G H L M P),v5::v4::v3::v2::v1::v1::i::q::[]⟩ h nx Kt:=by kernel_rfl
theorem zf.oH:zN (zf.zew r) C ⟨(zf.fr a b d e f i o q y z c g p l s u v w A B D E G H L M P),s0::s1::s2::s3::s4::sT⟩ h nx Kt =
 sG s0 true (fun k=>k y) fun v1=>sG s0 true (fun k=>k a) fun v2=>sG s0 true (fun k=>k e) fun v3=>sG s0 true (fun k=>zh .sub .int v3 (I 2) k) fun v4=>sG s0 true (fun k=>zM 1 v2 v4 k) fun v5=>sG s0 true (fun k=>zH v5 h k) fun v6=>sG s0 true (fun k=>zh .leq .int v1 v6 k) fun v7=>sG s4 false (fun k=>jD s0 v7 (.bool false) k) fun v8=>zN r C ⟨(zf.fr a b d e f i o q y z c g p l s u v w A B D E G H L M P),v8::v7::v6::v5::v4::v3::v2::v1::s0::s1::s2::s3::s4::sT⟩ h nx Kt:=by kernel_rfl
theorem zf.oI:zN (zf.zex []) C ⟨(zf.fr a b d e f i o q y z c g p l s u v w A B D E G H L M P),s0::s1::s2::s3::s4::s5::s6::s7::s8::s9::s10::s11::s12::sT⟩ h nx Kt =
 jD s12 (.bool true) s0 fun v1=>Kt ⟨(zf.fr a b d e f i o q y z c g p l s u v w A v1 D E G H L M P),s0::s1::s2::s3::s4::s5::s6::s7::s8::s9::s10::s11::s12::sT⟩ h nx:=by kernel_rfl
theorem zf.v19:Arg.ev (.t (.of 19)) ⟨(zf.fr a b d e f i o q y z c g p l s u v w A B D E G H L M P),[]⟩=B:=by kernel_rfl
theorem zf.ah:IR.run zf.t18 C N O K (zf.fr a b d e f i o q y z c g p l s u v w A B D E G H L M P) h nx =
 zh .sub .int f (.int .u64 1) fun v1=>K (zf.fr a b d e v1 i o q y z c g p l s u v w A B D E G H L M P) h nx:=by kernel_rfl
theorem zf.sV:IR.run zf.t19 C N O K (zf.fr a b d e f i o q y z c g p l s u v w A B D E G H L M P) h nx =
 zh .sub .int e (I 1) fun v1=>zM 1 b v1 fun v2=>zH v2 h fun v3=>C.fn 331 (.of 331) [i,v3,(.int .u64 0)] h nx fun v4 h5 n6=>uq 0 v4 fun v7=>uq 1 v4 fun v8=>K (zf.fr a b d e f v7 v8 q y z c g p l s u v w A B D E G H L M P) h5 n6:=by kernel_rfl
theorem zf.zni (Inv:Nat->AV->AV->AV->T Blk->Pa->Prop) {m:Nat} (hm:m<N) (hi:Inv m f i o h nx)
  (step:∀ (m:Nat) (z4 z5 z6 z7 z8 zC zE:AV) (h:T Blk) (nx:Pa) (R:Ks Prop),Inv m z4 z5 z6 h nx->(∀ (m':Nat) (w4 w5 w6 w7 w8 wC wD:AV) (h':T Blk) (nx':Pa),m'<m->Inv m' w4 w5 w6 h' nx'->R (zf.fr a b d e w4 w5 w6 w7 w8 z c g p l s u v w wC wD D E G H L M P) h' nx'=.ok True)->IR.run zf.t24 C N O R (zf.fr a b d e z4 z5 z6 z7 z8 z c g p l s u v w zC zE D E G H L M P) h nx=.ok True) :
  IR.run zf.t25 C N O K (zf.fr a b d e f i o q y z c g p l s u v w A B D E G H L M P) h nx=.ok True:=by
 rw [zf.t25];refine yD (fun m tm h nx=>∃ z4 z5 z6 z7 z8 zC zE,tm=(zf.fr a b d e z4 z5 z6 z7 z8 z c g p l s u v w zC zE D E G H L M P)/\Inv m z4 z5 z6 h nx) ?_ hm ⟨_,_,_,_,_,_,_,rfl,hi⟩;rintro m tm h nx R ⟨z4,z5,z6,z7,z8,zC,zE,rfl,hi⟩ hR;exact step m z4 z5 z6 z7 z8 zC zE h nx R hi fun m' w4 w5 w6 w7 w8 wC wD h' nx' hlt hi'=>hR m' _ h' nx' hlt ⟨_,_,_,_,_,_,_,rfl,hi'⟩
theorem zf.zcm:IR.run zf.t27 C N O K (zf.fr a b d e f i o q y z c g p l s u v w A B D E G H L M P) h nx =
 K (zf.fr a b d e f i o q y (.int .u64 0) (.int .u64 0) g p l s u v w A B D E G H L M P) h nx:=by kernel_rfl
theorem zf.tC:IR.run zf.t28 C N O K (zf.fr a b d e f i o q y z c g p l s u v w A B D E G H L M P) h nx =
 K (zf.fr a b d e f i o q y z c g p l s u v w A B e (I 0) G H L M P) h nx:=by kernel_rfl
theorem zf.zeu:IR.run zf.t29 C N O K (zf.fr a b d e f i o q y z c g p l s u v w A B D E G H L M P) h nx =
 zh .lss .int E D fun v1=>K (zf.fr a b d e f i o q y z c g p l s u v w A B D E v1 H L M P) h nx:=by kernel_rfl
theorem zf.v22:Arg.ev (.t (.of 22)) ⟨(zf.fr a b d e f i o q y z c g p l s u v w A B D E G H L M P),[]⟩=G:=by kernel_rfl
theorem zf.zey:IR.run zf.t31 C N O K (zf.fr a b d e f i o q y z c g p l s u v w A B D E G H L M P) h nx =
 K (zf.fr a b d e f i o q y z c E p l s u v w A B D E G H L M P) h nx:=by kernel_rfl
theorem zf.znv:IR.run zf.t32 C N O K (zf.fr a b d e f i o q y z c g p l s u v w A B D E G H L M P) h nx =
 zM 1 b g fun v1=>zH v1 h fun v2=>C.fn 274 (.of 274) [f,v2] h nx fun v3 h4 n5=>uq 0 v3 fun v6=>uq 1 v3 fun v7=>K (zf.fr a b d e f i o q y z c g v6 v7 s u v w A B D E G H L M P) h4 n5:=by kernel_rfl
theorem zf.oU:IR.run zf.t33 C N O K (zf.fr a b d e f i o q y z c g p l s u v w A B D E G H L M P) h nx =
 K (zf.fr a b d e f i o q y z c g p l (.int .u64 0) u v w A B D E G H L M P) h nx:=by kernel_rfl
theorem zf.zac:IR.run zf.t34 C N O K (zf.fr a b d e f i o q y z c g p l s u v w A B D E G H L M P) h nx =
 C.fn 331 (.of 331) [l,c,(.int .u64 0)] h nx fun v1 h2 n3=>uq 0 v1 fun v4=>uq 1 v1 fun v5=>K (zf.fr a b d e f i o q y z c g p v4 v5 u v w A B D E G H L M P) h2 n3:=by kernel_rfl
theorem zf.znw:IR.run zf.t35 C N O K (zf.fr a b d e f i o q y z c g p l s u v w A B D E G H L M P) h nx =
 zh .add .int p s fun v1=>K (zf.fr a b d e f i o q y z v1 g p l s u v w A B D E G H L M P) h nx:=by kernel_rfl
theorem zf.ay:IR.run zf.t36 C N O K tm h nx=zN zf.znx C ⟨tm,[]⟩ h nx (fun tm h nx=>K tm.v h nx):=jG ..
theorem zf.zth:zN (zf.zny r) C ⟨(zf.fr a b d e f i o q y z c g p l s u v w A B D E G H L M P),[]⟩ h nx Kt =
 zM 1 a g fun v1=>zH v1 h fun v2=>zN r C ⟨(zf.fr a b d e f i o q y z c g p l s u v w A B D E G H L M P),z::l::v2::v1::g::a::g::a::[]⟩ h nx Kt:=by kernel_rfl
theorem zf.zti:zN (zf.znz r) C ⟨(zf.fr a b d e f i o q y z c g p l s u v w A B D E G H L M P),s0::s1::s2::sT⟩ h nx Kt =
 C.fn 333 (.of 333) [s2,s1,s0] h nx fun v1 h2 n3=>zN r C ⟨(zf.fr a b d e f i o q y z c g p l s u v w A B D E G H L M P),v1::s0::s1::s2::sT⟩ h2 n3 Kt:=by kernel_rfl
theorem zf.ztj:zN (zf.zn0 r) C ⟨(zf.fr a b d e f i o q y z c g p l s u v w A B D E G H L M P),s0::s1::s2::s3::s4::s5::s6::s7::s8::[]⟩ h nx Kt =
 uq 0 s0 fun v1=>uq 1 s0 fun v2=>zM 1 s8 s7 fun v3=>zO 1 v3 v1 h nx fun v4 h5 n6=>zN r C ⟨(zf.fr a b d e f i o q y z c g p l s u v w A B D E G H L M P),v3::v2::v1::s0::s0::s1::s2::s3::s4::s5::s6::s7::s8::[]⟩ h5 n6 Kt:=by kernel_rfl
theorem zf.ztk:zN (zf.zn1 []) C ⟨(zf.fr a b d e f i o q y z c g p l s u v w A B D E G H L M P),s0::s1::sT⟩ h nx Kt =
 Kt ⟨(zf.fr a b d e f i o q y s1 c g p l s u v w A B D E G H L M P),s0::s1::sT⟩ h nx:=by kernel_rfl
theorem zf.zck:IR.run zf.t43 C N O K (zf.fr a b d e f i o q y z c g p l s u v w A B D E G H L M P) h nx =
 zh .add .int E (I 1) fun v1=>K (zf.fr a b d e f i o q y z c g p l s u v w A B D v1 G H L M P) h nx:=by kernel_rfl
theorem zf.qav (Inv:Nat->AV->AV->AV->T Blk->Pa->Prop) {m:Nat} (hm:m<N) (hi:Inv m z c E h nx)
  (step:∀ (m:Nat) (z9 zA zB zL zQ zF zT zU:AV) (h:T Blk) (nx:Pa) (R:Ks Prop),Inv m z9 zA zT h nx->(∀ (m':Nat) (w9 wA wB wI wJ wE wL wM:AV) (h':T Blk) (nx':Pa),m'<m->Inv m' w9 wA wL h' nx'->R (zf.fr a b d e f i o q y w9 wA wB wI wJ wE u v w A B D wL wM H L M P) h' nx'=.ok True)->IR.run zf.t46 C N O R (zf.fr a b d e f i o q y z9 zA zB zL zQ zF u v w A B D zT zU H L M P) h nx=.ok True) :
  IR.run zf.t47 C N O K (zf.fr a b d e f i o q y z c g p l s u v w A B D E G H L M P) h nx=.ok True:=by
 rw [zf.t47];refine yD (fun m tm h nx=>∃ z9 zA zB zL zQ zF zT zU,tm=(zf.fr a b d e f i o q y z9 zA zB zL zQ zF u v w A B D zT zU H L M P)/\Inv m z9 zA zT h nx) ?_ hm ⟨_,_,_,_,_,_,_,_,rfl,hi⟩;rintro m tm h nx R ⟨z9,zA,zB,zL,zQ,zF,zT,zU,rfl,hi⟩ hR;exact step m z9 zA zB zL zQ zF zT zU h nx R hi fun m' w9 wA wB wI wJ wE wL wM h' nx' hlt hi'=>hR m' _ h' nx' hlt ⟨_,_,_,_,_,_,_,_,rfl,hi'⟩
theorem zf.ze5:IR.run zf.t50 C N O K tm h nx=zN zf.zn2 C ⟨tm,[]⟩ h nx (fun tm h nx=>K tm.v h nx):=jG ..
theorem zf.ztl:zN (zf.zn3 r) C ⟨(zf.fr a b d e f i o q y z c g p l s u v w A B D E G H L M P),[]⟩ h nx Kt =
 zM 1 a e fun v1=>zH v1 h fun v2=>zN r C ⟨(zf.fr a b d e f i o q y z c g p l s u v w A B D E G H L M P),z::c::v2::v1::e::a::e::a::[]⟩ h nx Kt:=by kernel_rfl
theorem zf.ztm:zN (zf.zn4 r) C ⟨(zf.fr a b d e f i o q y z c g p l s u v w A B D E G H L M P),s0::s1::s2::sT⟩ h nx Kt =
 C.fn 333 (.of 333) [s2,s1,s0] h nx fun v1 h2 n3=>zN r C ⟨(zf.fr a b d e f i o q y z c g p l s u v w A B D E G H L M P),v1::s0::s1::s2::sT⟩ h2 n3 Kt:=by kernel_rfl
theorem zf.ztn:zN (zf.zn5 r) C ⟨(zf.fr a b d e f i o q y z c g p l s u v w A B D E G H L M P),s0::s1::s2::s3::s4::s5::s6::s7::s8::[]⟩ h nx Kt =
 uq 0 s0 fun v1=>uq 1 s0 fun v2=>zM 1 s8 s7 fun v3=>zO 1 v3 v1 h nx fun v4 h5 n6=>zN r C ⟨(zf.fr a b d e f i o q y z c g p l s u v w A B D E G H L M P),v3::v2::v1::s0::s0::s1::s2::s3::s4::s5::s6::s7::s8::[]⟩ h5 n6 Kt:=by kernel_rfl
theorem zf.zto:zN (zf.zn6 []) C ⟨(zf.fr a b d e f i o q y z c g p l s u v w A B D E G H L M P),s0::s1::sT⟩ h nx Kt =
 Kt ⟨(zf.fr a b d e f i o q y s1 c g p l s u v w A B D E G H L M P),s0::s1::sT⟩ h nx:=by kernel_rfl
theorem zf.zaj:IR.run zf.t51 C N O K (zf.fr a b d e f i o q y z c g p l s u v w A B D E G H L M P) h nx =
 zh .eql .int z (.int .u64 0) fun v1=>K (zf.fr a b d e f i o q y z c g p l s u v w A B D E G v1 L M P) h nx:=by kernel_rfl
theorem zf.qaw:IR.run zf.t52 C N O K (zf.fr a b d e f i o q y z c g p l s u v w A B D E G H L M P) h nx =
 K (zf.fr a b f e f i o q y z c g p l s u v w A B D E G H L M P) h nx:=by kernel_rfl
theorem zf.v23:Arg.ev (.t (.of 23)) ⟨(zf.fr a b d e f i o q y z c g p l s u v w A B D E G H L M P),[]⟩=H:=by kernel_rfl
theorem zf.qax:IR.run zf.t56 C N O K (zf.fr a b d e f i o q y z c g p l s u v w A B D E G H L M P) h nx =
 K (zf.fr a b d e f i o q y z c g p l s (.int .u64 0) v w A B D E G H L M P) h nx:=by kernel_rfl
theorem zf.zjg:IR.run zf.t57 C N O K (zf.fr a b d e f i o q y z c g p l s u v w A B D E G H L M P) h nx =
 K (zf.fr a b d e f i o q y z c g p l s u v w A B D E G H e (I 0) P) h nx:=by kernel_rfl
theorem zf.qay:IR.run zf.t58 C N O K (zf.fr a b d e f i o q y z c g p l s u v w A B D E G H L M P) h nx =
 zh .lss .int M L fun v1=>K (zf.fr a b d e f i o q y z c g p l s u v w A B D E G H L M v1) h nx:=by kernel_rfl
theorem zf.v26:Arg.ev (.t (.of 26)) ⟨(zf.fr a b d e f i o q y z c g p l s u v w A B D E G H L M P),[]⟩=P:=by kernel_rfl
theorem zf.ze6:IR.run zf.t60 C N O K (zf.fr a b d e f i o q y z c g p l s u v w A B D E G H L M P) h nx =
 K (zf.fr a b d e f i o q y z c g p l s u M w A B D E G H L M P) h nx:=by kernel_rfl
theorem zf.zjh:IR.run zf.t61 C N O K (zf.fr a b d e f i o q y z c g p l s u v w A B D E G H L M P) h nx =
 zM 1 a v fun v1=>zH v1 h fun v2=>zM 1 b v fun v3=>zH v3 h fun v4=>C.fn 331 (.of 331) [v2,v4,u] h nx fun v5 h6 n7=>zP v v (zP a a (uq 0 v5 fun v8=>uq 1 v5 fun v9=>zM 1 a v fun vA=>zO 1 vA v8 h6 n7 fun vB hA nA=>(uq 1 v5 fun vC=>zP vC v9 (K (zf.fr a b d e f i o q y z c g p l s v9 v w A B D E G H L M P) hA nA)))):=by kernel_rfl
theorem zf.zn7:IR.run zf.t64 C N O K (zf.fr a b d e f i o q y z c g p l s u v w A B D E G H L M P) h nx =
 zh .add .int M (I 1) fun v1=>K (zf.fr a b d e f i o q y z c g p l s u v w A B D E G H L v1 P) h nx:=by kernel_rfl
theorem zf.qaz (Inv:Nat->AV->AV->T Blk->Pa->Prop) {m:Nat} (hm:m<N) (hi:Inv m u M h nx)
  (step:∀ (m:Nat) (zG zI zV zW:AV) (h:T Blk) (nx:Pa) (R:Ks Prop),Inv m zG zV h nx->(∀ (m':Nat) (wF wG wN wO:AV) (h':T Blk) (nx':Pa),m'<m->Inv m' wF wN h' nx'->R (zf.fr a b d e f i o q y z c g p l s wF wG w A B D E G H L wN wO) h' nx'=.ok True)->IR.run zf.t67 C N O R (zf.fr a b d e f i o q y z c g p l s zG zI w A B D E G H L zV zW) h nx=.ok True) :
  IR.run zf.t68 C N O K (zf.fr a b d e f i o q y z c g p l s u v w A B D E G H L M P) h nx=.ok True:=by
 rw [zf.t68];refine yD (fun m tm h nx=>∃ zG zI zV zW,tm=(zf.fr a b d e f i o q y z c g p l s zG zI w A B D E G H L zV zW)/\Inv m zG zV h nx) ?_ hm ⟨_,_,_,_,rfl,hi⟩;rintro m tm h nx R ⟨zG,zI,zV,zW,rfl,hi⟩ hR;exact step m zG zI zV zW h nx R hi fun m' wF wG wN wO h' nx' hlt hi'=>hR m' _ h' nx' hlt ⟨_,_,_,_,rfl,hi'⟩
theorem zf.zn8:IR.run zf.t71 C N O K (zf.fr a b d e f i o q y z c g p l s u v w A B D E G H L M P) h nx =
 zM 1 a e fun v1=>zH v1 h fun v2=>zh .add .int v2 u fun v3=>zM 1 a e fun v4=>zO 1 v4 v3 h nx fun v5 h6 n7=>K (zf.fr a b d e f i o q y z c g p l s u v w A B D E G H L M P) h6 n7:=by kernel_rfl
theorem zf.ze7:IR.run zf.t72 C N O K (zf.fr a b d e f i o q y z c g p l s u v w A B D E G H L M P) h nx =
 zh .sub .int f (.int .u64 1) fun v1=>K (zf.fr a b v1 e f i o q y z c g p l s u v w A B D E G H L M P) h nx:=by kernel_rfl
theorem zf.go:zS tbl N C (.of 338) [a0,a1] h nx K0=IR.run zf.t86 C N (fnO zf.res K0) (yu zf.res K0) (zf.fr a0 a1 .u .u .u .u .u .u .u .u .u .u .u .u .u .u .u .u .u .u .u .u .u .u .u .u .u) h nx:=yW (F:=zf) (by kernel_rfl) (fun _=>by kernel_rfl) (by kernel_rfl)
theorem zf.ret:yu zf.res K0 (zf.fr a b d e f i o q y z c g p l s u v w A B D E G H L M P) h nx=K0 d h nx:=by kernel_rfl
theorem jd.jk:IR.run jd.t0 C N O K (jd.fr a b d e f i o q y z c) h nx =
 K (jd.fr a b .zn e f i o q y z c) h nx:=by kernel_rfl
theorem jd.ji:IR.run jd.t1 C N O K (jd.fr a b d e f i o q y z c) h nx =
 sLen a fun v1=>zh .add .int v1 (I 1) fun v2=>uL 1 8 [(.int .u64 0)] v2 v2 h nx fun v3 h4 n5=>K (jd.fr a b d v3 f i o q y z c) h4 n5:=by kernel_rfl
theorem jd.qh:IR.run jd.t2 C N O K (jd.fr a b d e f i o q y z c) h nx =
 sLen a fun v1=>K (jd.fr a b d e f i a v1 (I 0) z c) h nx:=by kernel_rfl
theorem jd.nU:IR.run jd.t3 C N O K (jd.fr a b d e f i o q y z c) h nx =
 zh .lss .int y q fun v1=>K (jd.fr a b d e f i o q y v1 c) h nx:=by kernel_rfl
theorem jd.v9:Arg.ev (.t (.of 9)) ⟨(jd.fr a b d e f i o q y z c),[]⟩=z:=by kernel_rfl
theorem jd.bV:IR.run jd.t5 C N O K (jd.fr a b d e f i o q y z c) h nx =
 zM 1 o y fun v1=>zH v1 h fun v2=>K (jd.fr a b d e y v2 o q y z c) h nx:=by kernel_rfl
theorem jd.bf:IR.run jd.t6 C N O K (jd.fr a b d e f i o q y z c) h nx =
 zM 1 e f fun v1=>zH v1 h fun v2=>zh .shl .int i b fun v3=>zh .or .int v2 v3 fun v4=>zM 1 e f fun v5=>zO 1 v5 v4 h nx fun v6 h7 n8=>K (jd.fr a b d e f i o q y z c) h7 n8:=by kernel_rfl
theorem jd.rD:IR.run jd.t7 C N O K (jd.fr a b d e f i o q y z c) h nx =
 zh .gtr .int b (I 0) fun v1=>K (jd.fr a b d e f i o q y z v1) h nx:=by kernel_rfl
theorem jd.sD:IR.run jd.t8 C N O K (jd.fr a b d e f i o q y z c) h nx =
 zh .add .int f (I 1) fun v1=>zh .sub .int (I 64) b fun v2=>zh .shr .int i v2 fun v3=>zM 1 e v1 fun v4=>zO 1 v4 v3 h nx fun v5 h6 n7=>K (jd.fr a b d e f i o q y z c) h6 n7:=by kernel_rfl
theorem jd.v10:Arg.ev (.t (.of 10)) ⟨(jd.fr a b d e f i o q y z c),[]⟩=c:=by kernel_rfl
theorem jd.rq:IR.run jd.t14 C N O K (jd.fr a b d e f i o q y z c) h nx =
 zh .add .int y (I 1) fun v1=>K (jd.fr a b d e f i o q v1 z c) h nx:=by kernel_rfl
theorem jd.zn9 (Inv:Nat->AV->T Blk->Pa->Prop) {m:Nat} (hm:m<N) (hi:Inv m y h nx)
  (step:∀ (m:Nat) (z4 z5 z8 z9 zA:AV) (h:T Blk) (nx:Pa) (R:Ks Prop),Inv m z8 h nx->(∀ (m':Nat) (w4 w5 w8 w9 wA:AV) (h':T Blk) (nx':Pa),m'<m->Inv m' w8 h' nx'->R (jd.fr a b d e w4 w5 o q w8 w9 wA) h' nx'=.ok True)->IR.run jd.t17 C N O R (jd.fr a b d e z4 z5 o q z8 z9 zA) h nx=.ok True) :
  IR.run jd.t18 C N O K (jd.fr a b d e f i o q y z c) h nx=.ok True:=by
 rw [jd.t18];refine yD (fun m tm h nx=>∃ z4 z5 z8 z9 zA,tm=(jd.fr a b d e z4 z5 o q z8 z9 zA)/\Inv m z8 h nx) ?_ hm ⟨_,_,_,_,_,rfl,hi⟩;rintro m tm h nx R ⟨z4,z5,z8,z9,zA,rfl,hi⟩ hR;exact step m z4 z5 z8 z9 zA h nx R hi fun m' w4 w5 w8 w9 wA h' nx' hlt hi'=>hR m' _ h' nx' hlt ⟨_,_,_,_,_,rfl,hi'⟩
theorem jd.sU:IR.run jd.t21 C N O K (jd.fr a b d e f i o q y z c) h nx =
 K (jd.fr a b e e f i o q y z c) h nx:=by kernel_rfl
theorem jd.go:zS tbl N C (.of 337) [a0,a1] h nx K0=IR.run jd.t25 C N (fnO jd.res K0) (yu jd.res K0) (jd.fr a0 a1 .u .u .u .u .u .u .u .u .u) h nx:=yW (F:=jd) (by kernel_rfl) (fun _=>by kernel_rfl) (by kernel_rfl)
theorem jd.ret:yu jd.res K0 (jd.fr a b d e f i o q y z c) h nx=K0 d h nx:=by kernel_rfl
theorem zi.jk:IR.run zi.t0 C N O K (zi.fr a b d e f i o q y z c g p l s u v w A B D E) h nx =
 K (zi.fr a b .zn .zn f i o q y z c g p l s u v w A B D E) h nx:=by kernel_rfl
theorem zi.ji:IR.run zi.t1 C N O K (zi.fr a b d e f i o q y z c g p l s u v w A B D E) h nx =
 C.fn 270 (.of 270) [a,b] h nx fun v1 h2 n3=>zh .lss .int v1 (I 0) fun v4=>K (zi.fr a b d e f i o q y z c g p l v4 u v w A B D E) h2 n3:=by kernel_rfl
theorem zi.qh:IR.run zi.t2 C N O K (zi.fr a b d e f i o q y z c g p l s u v w A B D E) h nx =
 K (zi.fr a b .zn a f i o q y z c g p l s u v w A B D E) h nx:=by kernel_rfl
theorem zi.v14:Arg.ev (.t (.of 14)) ⟨(zi.fr a b d e f i o q y z c g p l s u v w A B D E),[]⟩=s:=by kernel_rfl
theorem zi.bf:IR.run zi.t6 C N O K (zi.fr a b d e f i o q y z c g p l s u v w A B D E) h nx =
 sLen b fun v1=>zh .eql .int v1 (I 1) fun v2=>K (zi.fr a b d e f i o q y z c g p l s v2 v w A B D E) h nx:=by kernel_rfl
theorem zi.rD:IR.run zi.t7 C N O K (zi.fr a b d e f i o q y z c g p l s u v w A B D E) h nx =
 sLen a fun v1=>uL 1 8 [(.int .u64 0)] v1 v1 h nx fun v2 h3 n4=>K (zi.fr a b d e v2 i o q y z c g p l s u v w A B D E) h3 n4:=by kernel_rfl
theorem zi.sD:IR.run zi.t8 C N O K (zi.fr a b d e f i o q y z c g p l s u v w A B D E) h nx =
 K (zi.fr a b d e f (.int .u64 0) o q y z c g p l s u v w A B D E) h nx:=by kernel_rfl
theorem zi.ax:IR.run zi.t9 C N O K (zi.fr a b d e f i o q y z c g p l s u v w A B D E) h nx =
 sLen a fun v1=>zh .sub .int v1 (I 1) fun v2=>K (zi.fr a b d e f i v2 q y z c g p l s u v w A B D E) h nx:=by kernel_rfl
theorem zi.nR:IR.run zi.t10 C N O K (zi.fr a b d e f i o q y z c g p l s u v w A B D E) h nx =
 zh .geq .int o (I 0) fun v1=>K (zi.fr a b d e f i o q y z c g p l s u v1 w A B D E) h nx:=by kernel_rfl
theorem zi.v16:Arg.ev (.t (.of 16)) ⟨(zi.fr a b d e f i o q y z c g p l s u v w A B D E),[]⟩=v:=by kernel_rfl
theorem zi.ng:IR.run zi.t13 C N O K (zi.fr a b d e f i o q y z c g p l s u v w A B D E) h nx =
 zM 1 a o fun v1=>zH v1 h fun v2=>zM 1 b (I 0) fun v3=>zH v3 h fun v4=>C.fn 335 (.of 335) [i,v2,v4] h nx fun v5 h6 n7=>zP o o (zP f f (uq 0 v5 fun v8=>uq 1 v5 fun v9=>zM 1 f o fun vA=>zO 1 vA v8 h6 n7 fun vB hA nA=>(uq 1 v5 fun vC=>zP vC v9 (K (zi.fr a b d e f v9 o q y z c g p l s u v w A B D E) hA nA)))):=by kernel_rfl
theorem zi.sF:IR.run zi.t15 C N O K (zi.fr a b d e f i o q y z c g p l s u v w A B D E) h nx =
 zh .sub .int o (I 1) fun v1=>K (zi.fr a b d e f i v1 q y z c g p l s u v w A B D E) h nx:=by kernel_rfl
theorem zi.zn9 (Inv:Nat->AV->AV->T Blk->Pa->Prop) {m:Nat} (hm:m<N) (hi:Inv m i o h nx)
  (step:∀ (m:Nat) (z5 z6 zI:AV) (h:T Blk) (nx:Pa) (R:Ks Prop),Inv m z5 z6 h nx->(∀ (m':Nat) (w5 w6 wG:AV) (h':T Blk) (nx':Pa),m'<m->Inv m' w5 w6 h' nx'->R (zi.fr a b d e f w5 w6 q y z c g p l s u wG w A B D E) h' nx'=.ok True)->IR.run zi.t17 C N O R (zi.fr a b d e f z5 z6 q y z c g p l s u zI w A B D E) h nx=.ok True) :
  IR.run zi.t18 C N O K (zi.fr a b d e f i o q y z c g p l s u v w A B D E) h nx=.ok True:=by
 rw [zi.t18];refine yD (fun m tm h nx=>∃ z5 z6 zI,tm=(zi.fr a b d e f z5 z6 q y z c g p l s u zI w A B D E)/\Inv m z5 z6 h nx) ?_ hm ⟨_,_,_,rfl,hi⟩;rintro m tm h nx R ⟨z5,z6,zI,rfl,hi⟩ hR;exact step m z5 z6 zI h nx R hi fun m' w5 w6 wG h' nx' hlt hi'=>hR m' _ h' nx' hlt ⟨_,_,_,rfl,hi'⟩
theorem zi.sU:IR.run zi.t21 C N O K (zi.fr a b d e f i o q y z c g p l s u v w A B D E) h nx =
 C.fn 332 (.of 332) [f] h nx fun v1 h2 n3=>jH 1 1 [(.int .u64 0)] [(0,1,i)] h2 n3 fun v4 h5 n6=>C.fn 332 (.of 332) [v4] h5 n6 fun v7 h8 n9=>K (zi.fr a b v1 v7 f i o q y z c g p l s u v w A B D E) h8 n9:=by kernel_rfl
theorem zi.v15:Arg.ev (.t (.of 15)) ⟨(zi.fr a b d e f i o q y z c g p l s u v w A B D E),[]⟩=u:=by kernel_rfl
theorem zi.tC:IR.run zi.t28 C N O K (zi.fr a b d e f i o q y z c g p l s u v w A B D E) h nx =
 sLen b fun v1=>zh .sub .int v1 (I 1) fun v2=>zM 1 b v2 fun v3=>zH v3 h fun v4=>C.fn 336 (.of 336) [v4] h nx fun v5 h6 n7=>K (zi.fr a b d e f i o v5 y z c g p l s u v w A B D E) h6 n7:=by kernel_rfl
theorem zi.zeu:IR.run zi.t29 C N O K (zi.fr a b d e f i o q y z c g p l s u v w A B D E) h nx =
 C.fn 337 (.of 337) [b,q] h nx fun v1 h2 n3=>C.fn 332 (.of 332) [v1] h2 n3 fun v4 h5 n6=>K (zi.fr a b d e f i o q v4 z c g p l s u v w A B D E) h5 n6:=by kernel_rfl
theorem zi.qa1:IR.run zi.t30 C N O K (zi.fr a b d e f i o q y z c g p l s u v w A B D E) h nx =
 C.fn 337 (.of 337) [a,q] h nx fun v1 h2 n3=>K (zi.fr a b d e f i o q y v1 c g p l s u v w A B D E) h2 n3:=by kernel_rfl
theorem zi.zey:IR.run zi.t31 C N O K (zi.fr a b d e f i o q y z c g p l s u v w A B D E) h nx =
 sLen y fun v1=>K (zi.fr a b d e f i o q y z v1 g p l s u v w A B D E) h nx:=by kernel_rfl
theorem zi.znv:IR.run zi.t32 C N O K (zi.fr a b d e f i o q y z c g p l s u v w A B D E) h nx =
 sLen a fun v1=>zh .sub .int v1 c fun v2=>zh .add .int v2 (I 1) fun v3=>uL 1 8 [(.int .u64 0)] v3 v3 h nx fun v4 h5 n6=>K (zi.fr a b d e f i o q y z c v4 p l s u v w A B D E) h5 n6:=by kernel_rfl
theorem zi.oU:IR.run zi.t33 C N O K (zi.fr a b d e f i o q y z c g p l s u v w A B D E) h nx =
 sLen a fun v1=>zh .sub .int v1 c fun v2=>K (zi.fr a b d e f i o q y z c g v2 l s u v w A B D E) h nx:=by kernel_rfl
theorem zi.zac:IR.run zi.t34 C N O K (zi.fr a b d e f i o q y z c g p l s u v w A B D E) h nx =
 zh .geq .int p (I 0) fun v1=>K (zi.fr a b d e f i o q y z c g p l s u v v1 A B D E) h nx:=by kernel_rfl
theorem zi.v17:Arg.ev (.t (.of 17)) ⟨(zi.fr a b d e f i o q y z c g p l s u v w A B D E),[]⟩=w:=by kernel_rfl
theorem zi.zaf:IR.run zi.t37 C N O K tm h nx=zN zi.zoa C ⟨tm,[]⟩ h nx (fun tm h nx=>K tm.v h nx):=jG ..
theorem zi.ztp:zN (zi.zob r) C ⟨(zi.fr a b d e f i o q y z c g p l s u v w A B D E),[]⟩ h nx Kt =
 zh .add .int p c fun v1=>zh .add .int v1 (I 1) fun v2=>zN r C ⟨(zi.fr a b d e f i o q y z c g p l s u v w A B D E),v2::v1::c::p::p::z::p::g::[]⟩ h nx Kt:=by kernel_rfl
theorem zi.ztq:zN (zi.zoc r) C ⟨(zi.fr a b d e f i o q y z c g p l s u v w A B D E),s0::s1::s2::s3::s4::s5::sT⟩ h nx Kt =
 kX 1 s5 (some s4) (some s0) none fun v1=>C.fn 338 (.of 338) [v1,y] h nx fun v2 h3 n4=>zN r C ⟨(zi.fr a b d e f i o q y z c g p l s u v w A B D E),v2::y::v1::s0::s1::s2::s3::s4::s5::sT⟩ h3 n4 Kt:=by kernel_rfl
theorem zi.ztr:zN (zi.zod []) C ⟨(zi.fr a b d e f i o q y z c g p l s u v w A B D E),s0::s1::s2::s3::s4::s5::s6::s7::s8::s9::s10::[]⟩ h nx Kt =
 zM 1 s10 s9 fun v1=>zO 1 v1 s0 h nx fun v2 h3 n4=>Kt ⟨(zi.fr a b d e f i o q y z c g p l s u v w A B D E),v1::s0::s1::s2::s3::s4::s5::s6::s7::s8::s9::s10::[]⟩ h3 n4:=by kernel_rfl
theorem zi.ze1:IR.run zi.t39 C N O K (zi.fr a b d e f i o q y z c g p l s u v w A B D E) h nx =
 zh .sub .int p (I 1) fun v1=>K (zi.fr a b d e f i o q y z c g v1 l s u v w A B D E) h nx:=by kernel_rfl
theorem zi.qa3 (Inv:Nat->AV->T Blk->Pa->Prop) {m:Nat} (hm:m<N) (hi:Inv m p h nx)
  (step:∀ (m:Nat) (zL zK:AV) (h:T Blk) (nx:Pa) (R:Ks Prop),Inv m zL h nx->(∀ (m':Nat) (wI wH:AV) (h':T Blk) (nx':Pa),m'<m->Inv m' wI h' nx'->R (zi.fr a b d e f i o q y z c g wI l s u v wH A B D E) h' nx'=.ok True)->IR.run zi.t41 C N O R (zi.fr a b d e f i o q y z c g zL l s u v zK A B D E) h nx=.ok True) :
  IR.run zi.t42 C N O K (zi.fr a b d e f i o q y z c g p l s u v w A B D E) h nx=.ok True:=by
 rw [zi.t42];refine yD (fun m tm h nx=>∃ zL zK,tm=(zi.fr a b d e f i o q y z c g zL l s u v zK A B D E)/\Inv m zL h nx) ?_ hm ⟨_,_,rfl,hi⟩;rintro m tm h nx R ⟨zL,zK,rfl,hi⟩ hR;exact step m zL zK h nx R hi fun m' wI wH h' nx' hlt hi'=>hR m' _ h' nx' hlt ⟨_,_,rfl,hi'⟩
theorem zi.qa4:IR.run zi.t45 C N O K (zi.fr a b d e f i o q y z c g p l s u v w A B D E) h nx =
 K (zi.fr a b d e f i o q y z c g p l s u v w c (I 0) D E) h nx:=by kernel_rfl
theorem zi.qa5:IR.run zi.t46 C N O K (zi.fr a b d e f i o q y z c g p l s u v w A B D E) h nx =
 zh .lss .int B A fun v1=>K (zi.fr a b d e f i o q y z c g p l s u v w A B v1 E) h nx:=by kernel_rfl
theorem zi.v20:Arg.ev (.t (.of 20)) ⟨(zi.fr a b d e f i o q y z c g p l s u v w A B D E),[]⟩=D:=by kernel_rfl
theorem zi.qa6:IR.run zi.t48 C N O K (zi.fr a b d e f i o q y z c g p l s u v w A B D E) h nx =
 K (zi.fr a b d e f i o q y z c g p B s u v w A B D E) h nx:=by kernel_rfl
theorem zi.zoe:IR.run zi.t49 C N O K (zi.fr a b d e f i o q y z c g p l s u v w A B D E) h nx =
 zM 1 z l fun v1=>zH v1 h fun v2=>zh .shr .int v2 q fun v3=>zM 1 z l fun v4=>zO 1 v4 v3 h nx fun v5 h6 n7=>K (zi.fr a b d e f i o q y z c g p l s u v w A B D E) h6 n7:=by kernel_rfl
theorem zi.ze5:IR.run zi.t50 C N O K tm h nx=zN zi.zof C ⟨tm,[]⟩ h nx (fun tm h nx=>K tm.v h nx):=jG ..
theorem zi.zts:zN (zi.zog r) C ⟨(zi.fr a b d e f i o q y z c g p l s u v w A B D E),[]⟩ h nx Kt =
 zh .gtr .int q (I 0) fun v1=>sG v1 true (fun k=>k l) fun v2=>sG v1 true (fun k=>zh .add .int v2 (I 1) k) fun v3=>sG v1 true (fun k=>k z) fun v4=>sG v1 true (fun k=>sLen v4 k) fun v5=>sG v1 true (fun k=>zh .lss .int v3 v5 k) fun v6=>zN r C ⟨(zi.fr a b d e f i o q y z c g p l s u v w A B D E),v6::v5::v4::v3::v2::v1::v1::q::[]⟩ h nx Kt:=by kernel_rfl
theorem zi.zji:zN (zi.zoh []) C ⟨(zi.fr a b d e f i o q y z c g p l s u v w A B D E),s0::s1::s2::s3::s4::s5::sT⟩ h nx Kt =
 jD s5 s0 (.bool false) fun v1=>Kt ⟨(zi.fr a b d e f i o q y z c g p l s u v w A B D v1),s0::s1::s2::s3::s4::s5::sT⟩ h nx:=by kernel_rfl
theorem zi.zaj:IR.run zi.t51 C N O K tm h nx=zN zi.zoi C ⟨tm,[]⟩ h nx (fun tm h nx=>K tm.v h nx):=dY ..
theorem zi.ztt:zN (zi.zoj r) C ⟨(zi.fr a b d e f i o q y z c g p l s u v w A B D E),[]⟩ h nx Kt =
 zM 1 z l fun v1=>zH v1 h fun v2=>zh .add .int l (I 1) fun v3=>zM 1 z v3 fun v4=>zN r C ⟨(zi.fr a b d e f i o q y z c g p l s u v w A B D E),v4::v3::l::z::v2::v1::l::z::[]⟩ h nx Kt:=by kernel_rfl
theorem zi.ztu:zN (zi.zok []) C ⟨(zi.fr a b d e f i o q y z c g p l s u v w A B D E),s0::s1::s2::s3::s4::s5::s6::s7::[]⟩ h nx Kt =
 zH s0 h fun v1=>zh .sub .int (I 64) q fun v2=>zh .shl .int v1 v2 fun v3=>zh .or .int s4 v3 fun v4=>zM 1 s7 s6 fun v5=>zO 1 v5 v4 h nx fun v6 h7 n8=>Kt ⟨(zi.fr a b d e f i o q y z c g p l s u v w A B D E),v5::v4::v3::v2::q::v1::s0::s1::s2::s3::s4::s5::s6::s7::[]⟩ h7 n8:=by kernel_rfl
theorem zi.v21:Arg.ev (.t (.of 21)) ⟨(zi.fr a b d e f i o q y z c g p l s u v w A B D E),[]⟩=E:=by kernel_rfl
theorem zi.zjg:IR.run zi.t57 C N O K (zi.fr a b d e f i o q y z c g p l s u v w A B D E) h nx =
 zh .add .int B (I 1) fun v1=>K (zi.fr a b d e f i o q y z c g p l s u v w A v1 D E) h nx:=by kernel_rfl
theorem zi.qa7 (Inv:Nat->AV->T Blk->Pa->Prop) {m:Nat} (hm:m<N) (hi:Inv m B h nx)
  (step:∀ (m:Nat) (zQ zE zR zT:AV) (h:T Blk) (nx:Pa) (R:Ks Prop),Inv m zE h nx->(∀ (m':Nat) (wJ wD wK wL:AV) (h':T Blk) (nx':Pa),m'<m->Inv m' wD h' nx'->R (zi.fr a b d e f i o q y z c g p wJ s u v w A wD wK wL) h' nx'=.ok True)->IR.run zi.t60 C N O R (zi.fr a b d e f i o q y z c g p zQ s u v w A zE zR zT) h nx=.ok True) :
  IR.run zi.t61 C N O K (zi.fr a b d e f i o q y z c g p l s u v w A B D E) h nx=.ok True:=by
 rw [zi.t61];refine yD (fun m tm h nx=>∃ zQ zE zR zT,tm=(zi.fr a b d e f i o q y z c g p zQ s u v w A zE zR zT)/\Inv m zE h nx) ?_ hm ⟨_,_,_,_,rfl,hi⟩;rintro m tm h nx R ⟨zQ,zE,zR,zT,rfl,hi⟩ hR;exact step m zQ zE zR zT h nx R hi fun m' wJ wD wK wL h' nx' hlt hi'=>hR m' _ h' nx' hlt ⟨_,_,_,_,rfl,hi'⟩
theorem zi.zn7:IR.run zi.t64 C N O K (zi.fr a b d e f i o q y z c g p l s u v w A B D E) h nx =
 kX 1 z none (some c) none fun v1=>C.fn 332 (.of 332) [g] h nx fun v2 h3 n4=>(kX 1 z none (some c) none fun v8=>zP v8 v1 (zP c c (zP z z (C.fn 332 (.of 332) [v1] h3 n4 fun v5 h6 n7=>K (zi.fr a b v2 v5 f i o q y z c g p l s u v w A B D E) h6 n7)))):=by kernel_rfl
theorem zi.go:zS tbl N C (.of 277) [a0,a1] h nx K0=IR.run zi.t75 C N (fnO zi.res K0) (yu zi.res K0) (zi.fr a0 a1 .u .u .u .u .u .u .u .u .u .u .u .u .u .u .u .u .u .u .u .u) h nx:=yW (F:=zi) (by kernel_rfl) (fun _=>by kernel_rfl) (by kernel_rfl)
theorem zi.ret:yu zi.res K0 (zi.fr a b d e f i o q y z c g p l s u v w A B D E) h nx=K0 (.tup [d,e]) h nx:=by kernel_rfl
theorem uj.jk:IR.run uj.t0 C N O K (uj.fr a b d e f i) h nx =
 xk a h nx fun v1 h2 n3=>K (uj.fr a v1 (.bool false) .zn f i) h2 n3:=by kernel_rfl
theorem uj.ji:IR.run uj.t1 C N O K (uj.fr a b d e f i) h nx =
 zJ 1 b fun v1=>zH v1 h fun v2=>zh .neq (.nil .sl) v2 .zn fun v3=>K (uj.fr a b d e v3 i) h nx:=by kernel_rfl
theorem uj.qh:IR.run uj.t2 C N O K (uj.fr a b d e f i) h nx =
 zJ 0 b fun v1=>zH v1 h fun v2=>zh .lss .int v2 (I 0) fun v3=>zJ 1 b fun v4=>zH v4 h fun v5=>K (uj.fr a b v3 v5 f i) h nx:=by kernel_rfl
theorem uj.ny:IR.run uj.t4 C N O K (uj.fr a b d e f i) h nx =
 zJ 0 b fun v1=>zH v1 h fun v2=>zh .eql .int v2 (I 0) fun v3=>K (uj.fr a b d e f v3) h nx:=by kernel_rfl
theorem uj.bV:IR.run uj.t5 C N O K (uj.fr a b d e f i) h nx =
 K (uj.fr a b (.bool false) .zn f i) h nx:=by kernel_rfl
theorem uj.v5:Arg.ev (.t (.of 5)) ⟨(uj.fr a b d e f i),[]⟩=i:=by kernel_rfl
theorem uj.v4:Arg.ev (.t (.of 4)) ⟨(uj.fr a b d e f i),[]⟩=f:=by kernel_rfl
theorem uj.nS:IR.run uj.t12 C N O K (uj.fr a b d e f i) h nx =
 zJ 0 b fun v1=>zH v1 h fun v2=>zh .lss .int v2 (I 0) fun v3=>zJ 0 b fun v4=>zH v4 h fun v5=>C.fn 275 (.of 275) [v5] h nx fun v6 h7 n8=>(zh .lss .int v2 (I 0) fun vD=>zP vD v3 ((zH v1 h7 fun vE=>zP vE v2 ((zJ 0 b fun vF=>zP vF v1 (jH 1 1 [(.int .u64 0)] [(0,1,v6)] h7 n8 fun v9 hB nB=>zP v3 v3 ((zh .lss .int v2 (I 0) fun vC=>zP vC v3 ((zH v1 hB fun vG=>zP vG v2 ((zJ 0 b fun vH=>zP vH v1 (K (uj.fr a b v3 v9 f i) hB nB))))))))))))):=by kernel_rfl
theorem uj.go:zS tbl N C (.of 267) [a0] h nx K0=IR.run uj.t15 C N (fnO uj.res K0) (yu uj.res K0) (uj.fr a0 .u .u .u .u .u) h nx:=yW (F:=uj) (by kernel_rfl) (fun _=>by kernel_rfl) (by kernel_rfl)
theorem uj.ret:yu uj.res K0 (uj.fr a b d e f i) h nx=K0 (.tup [d,e]) h nx:=by kernel_rfl
theorem yt.jk:IR.run yt.t0 C N O K (yt.fr a b d e f i o) h nx =
 yO [(I 0),.zn] h nx fun v1 h2 n3=>K (yt.fr a b v1 e f i o) h2 n3:=by kernel_rfl
theorem yt.ji:IR.run yt.t1 C N O K (yt.fr a b d e f i o) h nx =
 sLen b fun v1=>zh .eql .int v1 (I 0) fun v2=>K (yt.fr a b d v2 f i o) h nx:=by kernel_rfl
theorem yt.qh:IR.run yt.t2 C N O K (yt.fr a b d e f i o) h nx =
 gE [(I 0),.zn] [] fun v1=>zO 2 d v1 h nx fun v2 h3 n4=>K (yt.fr a b d e f i o) h3 n4:=by kernel_rfl
theorem yt.ny:IR.run yt.t4 C N O K tm h nx=zN yt.r3_0 C ⟨tm,[]⟩ h nx (fun tm h nx=>K tm.v h nx):=jG ..
theorem yt.zyk:zN (yt.zwm r) C ⟨(yt.fr a b d e f i o),[]⟩ h nx Kt =
 sLen b fun v1=>zh .eql .int v1 (I 1) fun v2=>sG v2 true (fun k=>k b) fun v3=>sG v2 true (fun k=>zM 1 v3 (I 0) k) fun v4=>sG v2 true (fun k=>zH v4 h k) fun v5=>sG v2 true (fun k=>zh .leq .int v5 (.int .u64 9223372036854775807) k) fun v6=>zN r C ⟨(yt.fr a b d e f i o),v6::v5::v4::v3::v2::v2::v1::b::[]⟩ h nx Kt:=by kernel_rfl
theorem yt.zol:zN (yt.zwn []) C ⟨(yt.fr a b d e f i o),s0::s1::s2::s3::s4::sT⟩ h nx Kt =
 jD s4 s0 (.bool false) fun v1=>sG v1 true (fun k=>k a) fun v2=>jD v1 v2 (.bool false) fun v3=>Kt ⟨(yt.fr a b d e v3 i o),v3::v2::v1::v1::s0::s1::s2::s3::s4::sT⟩ h nx:=by kernel_rfl
theorem yt.bV:IR.run yt.t5 C N O K (yt.fr a b d e f i o) h nx =
 zM 1 b (I 0) fun v1=>zH v1 h fun v2=>qN .i64 v2 fun v3=>sNeg v3 fun v4=>gE [(I 0),.zn] [(0,1,v4)] fun v5=>zO 2 d v5 h nx fun v6 h7 n8=>K (yt.fr a b d e f i o) h7 n8:=by kernel_rfl
theorem yt.rD:IR.run yt.t7 C N O K tm h nx=zN yt.r5_0 C ⟨tm,[]⟩ h nx (fun tm h nx=>K tm.v h nx):=jG ..
theorem yt.zah:zN (yt.ze3 r) C ⟨(yt.fr a b d e f i o),[]⟩ h nx Kt =
 sLen b fun v1=>zh .eql .int v1 (I 1) fun v2=>sG v2 true (fun k=>k b) fun v3=>sG v2 true (fun k=>zM 1 v3 (I 0) k) fun v4=>sG v2 true (fun k=>zH v4 h k) fun v5=>sG v2 true (fun k=>zh .leq .int v5 (.int .u64 9223372036854775807) k) fun v6=>zN r C ⟨(yt.fr a b d e f i o),v6::v5::v4::v3::v2::v2::v1::b::[]⟩ h nx Kt:=by kernel_rfl
theorem yt.zai:zN (yt.ze4 []) C ⟨(yt.fr a b d e f i o),s0::s1::s2::s3::s4::sT⟩ h nx Kt =
 jD s4 s0 (.bool false) fun v1=>Kt ⟨(yt.fr a b d e f v1 o),v1::s0::s1::s2::s3::s4::sT⟩ h nx:=by kernel_rfl
theorem yt.sD:IR.run yt.t8 C N O K (yt.fr a b d e f i o) h nx =
 zM 1 b (I 0) fun v1=>zH v1 h fun v2=>qN .i64 v2 fun v3=>gE [(I 0),.zn] [(0,1,v3)] fun v4=>zO 2 d v4 h nx fun v5 h6 n7=>K (yt.fr a b d e f i o) h6 n7:=by kernel_rfl
theorem yt.nR:IR.run yt.t10 C N O K (yt.fr a b d e f i o) h nx =
 K (yt.fr a b d e f i a) h nx:=by kernel_rfl
theorem yt.fM:IR.run yt.t11 C N O K (yt.fr a b d e f i o) h nx =
 gE [(I 0),.zn] [(0,1,(I (-1))),(1,1,b)] fun v1=>zO 2 d v1 h nx fun v2 h3 n4=>K (yt.fr a b d e f i o) h3 n4:=by kernel_rfl
theorem yt.v6:Arg.ev (.t (.of 6)) ⟨(yt.fr a b d e f i o),[]⟩=o:=by kernel_rfl
theorem yt.v5:Arg.ev (.t (.of 5)) ⟨(yt.fr a b d e f i o),[]⟩=i:=by kernel_rfl
theorem yt.v4:Arg.ev (.t (.of 4)) ⟨(yt.fr a b d e f i o),[]⟩=f:=by kernel_rfl
theorem yt.v3:Arg.ev (.t (.of 3)) ⟨(yt.fr a b d e f i o),[]⟩=e:=by kernel_rfl
theorem yt.oP:IR.run yt.t22 C N O K (yt.fr a b d e f i o) h nx =
 gE [(I 0),.zn] [(0,1,(I 1)),(1,1,b)] fun v1=>zO 2 d v1 h nx fun v2 h3 n4=>K (yt.fr a b d e f i o) h3 n4:=by kernel_rfl
theorem yt.go:zS tbl N C (.of 268) [a0,a1] h nx K0=IR.run yt.t25 C N (fnO yt.res K0) (yu yt.res K0) (yt.fr a0 a1 .u .u .u .u .u) h nx:=yW (F:=yt) (by kernel_rfl) (fun _=>by kernel_rfl) (by kernel_rfl)
theorem yt.ret:yu yt.res K0 (yt.fr a b d e f i o) h nx=zD 2 d h fun v1=>K0 v1 h nx:=by kernel_rfl
theorem cu.jk:IR.run cu.t0 C N O K (cu.fr a b) h nx =
 yO [(I 0),.zn] h nx fun v1 h2 n3=>K (cu.fr a v1) h2 n3:=by kernel_rfl
theorem cu.ji:IR.run cu.t1 C N O K (cu.fr a b) h nx =
 gE [(I 0),.zn] [(0,1,a)] fun v1=>zO 2 b v1 h nx fun v2 h3 n4=>K (cu.fr a b) h3 n4:=by kernel_rfl
theorem cu.go:zS tbl N C (.of 190) [a0] h nx K0=IR.run cu.t3 C N (fnO cu.res K0) (yu cu.res K0) (cu.fr a0 .u) h nx:=yW (F:=cu) (by kernel_rfl) (fun _=>by kernel_rfl) (by kernel_rfl)
theorem cu.ret:yu cu.res K0 (cu.fr a b) h nx=zD 2 b h fun v1=>K0 v1 h nx:=by kernel_rfl
theorem cO.jk:IR.run cO.t0 C N O K (cO.fr a b d) h nx =
 xk a h nx fun v1 h2 n3=>K (cO.fr a v1 (I 0)) h2 n3:=by kernel_rfl
theorem cO.ji:IR.run cO.t1 C N O K (cO.fr a b d) h nx =
 zJ 0 b fun v1=>zH v1 h fun v2=>sMin false (I 1) [v2] fun v3=>sMin true (I (-1)) [v3] fun v4=>K (cO.fr a b v4) h nx:=by kernel_rfl
theorem cO.go:zS tbl N C (.of 194) [a0] h nx K0=IR.run cO.t3 C N (fnO cO.res K0) (yu cO.res K0) (cO.fr a0 .u .u) h nx:=yW (F:=cO) (by kernel_rfl) (fun _=>by kernel_rfl) (by kernel_rfl)
theorem cO.ret:yu cO.res K0 (cO.fr a b d) h nx=K0 d h nx:=by kernel_rfl
theorem uw.jk:IR.run uw.t0 C N O K (uw.fr a b d e f i) h nx =
 xk a h nx fun v1 h2 n3=>yO [(I 0),.zn] h2 n3 fun v4 h5 n6=>K (uw.fr a v1 v4 e f i) h5 n6:=by kernel_rfl
theorem uw.ji:IR.run uw.t1 C N O K (uw.fr a b d e f i) h nx =
 zJ 1 b fun v1=>zH v1 h fun v2=>zh .eql (.nil .sl) v2 .zn fun v3=>sG v3 true (fun k=>zJ 0 b k) fun v4=>sG v3 true (fun k=>zH v4 h k) fun v5=>sG v3 true (fun k=>zh .neq .int v5 (I (-9223372036854775808)) k) fun v6=>jD v3 v6 (.bool false) fun v7=>K (uw.fr a b d e f v7) h nx:=by kernel_rfl
theorem uw.qh:IR.run uw.t2 C N O K (uw.fr a b d e f i) h nx =
 zJ 0 b fun v1=>zH v1 h fun v2=>sNeg v2 fun v3=>gE [(I 0),.zn] [(0,1,v3)] fun v4=>zO 2 d v4 h nx fun v5 h6 n7=>K (uw.fr a b d e f i) h6 n7:=by kernel_rfl
theorem uw.v5:Arg.ev (.t (.of 5)) ⟨(uw.fr a b d e f i),[]⟩=i:=by kernel_rfl
theorem uw.bf:IR.run uw.t6 C N O K (uw.fr a b d e f i) h nx =
 zD 2 b h fun v1=>C.fn 267 (.of 267) [v1] h nx fun v2 h3 n4=>uq 0 v2 fun v5=>uq 1 v2 fun v6=>K (uw.fr a b d v5 v6 i) h3 n4:=by kernel_rfl
theorem uw.rD:IR.run uw.t7 C N O K (uw.fr a b d e f i) h nx =
 eX e fun v1=>C.fn 268 (.of 268) [v1,f] h nx fun v2 h3 n4=>zO 2 d v2 h3 n4 fun v5 h6 n7=>K (uw.fr a b d e f i) h6 n7:=by kernel_rfl
theorem uw.go:zS tbl N C (.of 266) [a0] h nx K0=IR.run uw.t11 C N (fnO uw.res K0) (yu uw.res K0) (uw.fr a0 .u .u .u .u .u) h nx:=yW (F:=uw) (by kernel_rfl) (fun _=>by kernel_rfl) (by kernel_rfl)
theorem uw.ret:yu uw.res K0 (uw.fr a b d e f i) h nx=zD 2 d h fun v1=>K0 v1 h nx:=by kernel_rfl
theorem ja.jk:IR.run ja.t0 C N O K (ja.fr a b d e f i o q y z c g p l) h nx =
 xk a h nx fun v1 h2 n3=>xk b h2 n3 fun v4 h5 n6=>yO [(I 0),.zn] h5 n6 fun v7 h8 n9=>K (ja.fr a b v1 v4 v7 i o q y z c g p l) h8 n9:=by kernel_rfl
theorem ja.ji:IR.run ja.t1 C N O K (ja.fr a b d e f i o q y z c g p l) h nx =
 zJ 1 d fun v1=>zH v1 h fun v2=>zh .eql (.nil .sl) v2 .zn fun v3=>sG v3 true (fun k=>zJ 1 e k) fun v4=>sG v3 true (fun k=>zH v4 h k) fun v5=>sG v3 true (fun k=>zh .eql (.nil .sl) v5 .zn k) fun v6=>jD v3 v6 (.bool false) fun v7=>K (ja.fr a b d e f i o q y z v7 g p l) h nx:=by kernel_rfl
theorem ja.qh:IR.run ja.t2 C N O K (ja.fr a b d e f i o q y z c g p l) h nx =
 zJ 0 d fun v1=>zH v1 h fun v2=>zJ 0 e fun v3=>zH v3 h fun v4=>zh .add .int v2 v4 fun v5=>K (ja.fr a b d e f v5 o q y z c g p l) h nx:=by kernel_rfl
theorem ja.nU:IR.run ja.t3 C N O K (ja.fr a b d e f i o q y z c g p l) h nx =
 zJ 0 d fun v1=>zH v1 h fun v2=>zh .gtr .int i v2 fun v3=>zJ 0 e fun v4=>zH v4 h fun v5=>zh .gtr .int v5 (I 0) fun v6=>zh .eql .bool v3 v6 fun v7=>K (ja.fr a b d e f i o q y z c v7 p l) h nx:=by kernel_rfl
theorem ja.ny:IR.run ja.t4 C N O K (ja.fr a b d e f i o q y z c g p l) h nx =
 gE [(I 0),.zn] [(0,1,i)] fun v1=>zO 2 f v1 h nx fun v2 h3 n4=>K (ja.fr a b d e f i o q y z c g p l) h3 n4:=by kernel_rfl
theorem ja.v11:Arg.ev (.t (.of 11)) ⟨(ja.fr a b d e f i o q y z c g p l),[]⟩=g:=by kernel_rfl
theorem ja.v10:Arg.ev (.t (.of 10)) ⟨(ja.fr a b d e f i o q y z c g p l),[]⟩=c:=by kernel_rfl
theorem ja.fM:IR.run ja.t11 C N O K (ja.fr a b d e f i o q y z c g p l) h nx =
 zD 2 d h fun v1=>C.fn 267 (.of 267) [v1] h nx fun v2 h3 n4=>uq 0 v2 fun v5=>uq 1 v2 fun v6=>K (ja.fr a b d e f i v5 v6 y z c g p l) h3 n4:=by kernel_rfl
theorem ja.nS:IR.run ja.t12 C N O K (ja.fr a b d e f i o q y z c g p l) h nx =
 zD 2 e h fun v1=>C.fn 267 (.of 267) [v1] h nx fun v2 h3 n4=>uq 0 v2 fun v5=>uq 1 v2 fun v6=>K (ja.fr a b d e f i o q v5 v6 c g p l) h3 n4:=by kernel_rfl
theorem ja.ng:IR.run ja.t13 C N O K (ja.fr a b d e f i o q y z c g p l) h nx =
 zh .eql .bool o y fun v1=>K (ja.fr a b d e f i o q y z c g v1 l) h nx:=by kernel_rfl
theorem ja.rq:IR.run ja.t14 C N O K (ja.fr a b d e f i o q y z c g p l) h nx =
 C.fn 269 (.of 269) [q,z] h nx fun v1 h2 n3=>C.fn 268 (.of 268) [o,v1] h2 n3 fun v4 h5 n6=>zO 2 f v4 h5 n6 fun v7 h8 n9=>K (ja.fr a b d e f i o q y z c g p l) h8 n9:=by kernel_rfl
theorem ja.nZ:IR.run ja.t16 C N O K (ja.fr a b d e f i o q y z c g p l) h nx =
 C.fn 270 (.of 270) [q,z] h nx fun v1 h2 n3=>zh .geq .int v1 (I 0) fun v4=>K (ja.fr a b d e f i o q y z c g p v4) h2 n3:=by kernel_rfl
theorem ja.rV:IR.run ja.t17 C N O K (ja.fr a b d e f i o q y z c g p l) h nx =
 C.fn 271 (.of 271) [q,z] h nx fun v1 h2 n3=>C.fn 268 (.of 268) [o,v1] h2 n3 fun v4 h5 n6=>zO 2 f v4 h5 n6 fun v7 h8 n9=>K (ja.fr a b d e f i o q y z c g p l) h8 n9:=by kernel_rfl
theorem ja.v13:Arg.ev (.t (.of 13)) ⟨(ja.fr a b d e f i o q y z c g p l),[]⟩=l:=by kernel_rfl
theorem ja.v12:Arg.ev (.t (.of 12)) ⟨(ja.fr a b d e f i o q y z c g p l),[]⟩=p:=by kernel_rfl
theorem ja.eH:IR.run ja.t24 C N O K (ja.fr a b d e f i o q y z c g p l) h nx =
 C.fn 271 (.of 271) [z,q] h nx fun v1 h2 n3=>C.fn 268 (.of 268) [y,v1] h2 n3 fun v4 h5 n6=>zO 2 f v4 h5 n6 fun v7 h8 n9=>K (ja.fr a b d e f i o q y z c g p l) h8 n9:=by kernel_rfl
theorem ja.go:zS tbl N C (.of 191) [a0,a1] h nx K0=IR.run ja.t30 C N (fnO ja.res K0) (yu ja.res K0) (ja.fr a0 a1 .u .u .u .u .u .u .u .u .u .u .u .u) h nx:=yW (F:=ja) (by kernel_rfl) (fun _=>by kernel_rfl) (by kernel_rfl)
theorem ja.ret:yu ja.res K0 (ja.fr a b d e f i o q y z c g p l) h nx=zD 2 f h fun v1=>K0 v1 h nx:=by kernel_rfl
theorem cZ.jk:IR.run cZ.t0 C N O K (cZ.fr a b d e f) h nx =
 xk a h nx fun v1 h2 n3=>xk b h2 n3 fun v4 h5 n6=>yO [(I 0),.zn] h5 n6 fun v7 h8 n9=>K (cZ.fr a b v1 v4 v7) h8 n9:=by kernel_rfl
theorem cZ.ji:IR.run cZ.t1 C N O K (cZ.fr a b d e f) h nx =
 zD 2 d h fun v1=>zD 2 e h fun v2=>C.fn 266 (.of 266) [v2] h nx fun v3 h4 n5=>(zD 2 d h4 fun vH=>zP vH v1 (C.fn 191 (.of 191) [v1,v3] h4 n5 fun v6 h7 n8=>zO 2 f v6 h7 n8 fun v9 hB nB=>K (cZ.fr a b d e f) hB nB)):=by kernel_rfl
theorem cZ.go:zS tbl N C (.of 278) [a0,a1] h nx K0=IR.run cZ.t3 C N (fnO cZ.res K0) (yu cZ.res K0) (cZ.fr a0 a1 .u .u .u) h nx:=yW (F:=cZ) (by kernel_rfl) (fun _=>by kernel_rfl) (by kernel_rfl)
theorem cZ.ret:yu cZ.res K0 (cZ.fr a b d e f) h nx=zD 2 f h fun v1=>K0 v1 h nx:=by kernel_rfl
theorem je.jk:IR.run je.t0 C N O K (je.fr a b d e f i o q y z c g p l) h nx =
 xk a h nx fun v1 h2 n3=>xk b h2 n3 fun v4 h5 n6=>yO [(I 0),.zn] h5 n6 fun v7 h8 n9=>K (je.fr a b v1 v4 v7 i o q y z c g p l) h8 n9:=by kernel_rfl
theorem je.ji:IR.run je.t1 C N O K (je.fr a b d e f i o q y z c g p l) h nx =
 zJ 1 d fun v1=>zH v1 h fun v2=>zh .eql (.nil .sl) v2 .zn fun v3=>sG v3 true (fun k=>zJ 1 e k) fun v4=>sG v3 true (fun k=>zH v4 h k) fun v5=>sG v3 true (fun k=>zh .eql (.nil .sl) v5 .zn k) fun v6=>jD v3 v6 (.bool false) fun v7=>K (je.fr a b d e f i o q y z c v7 p l) h nx:=by kernel_rfl
theorem je.qh:IR.run je.t2 C N O K (je.fr a b d e f i o q y z c g p l) h nx =
 zJ 0 d fun v1=>zH v1 h fun v2=>zJ 0 e fun v3=>zH v3 h fun v4=>C.fn 275 (.of 275) [v2] h nx fun v5 h6 n7=>(zH v3 h6 fun vD=>zP vD v4 ((zJ 0 e fun vE=>zP vE v3 (C.fn 275 (.of 275) [v4] h6 n7 fun v8 h9 nC=>C.fn 274 (.of 274) [v5,v8] h9 nC fun vB hA nA=>uq 0 vB fun vC=>uq 1 vB fun vF=>K (je.fr a b d e f vC vF q y z c g p l) hA nA)))):=by kernel_rfl
theorem je.nU:IR.run je.t3 C N O K (je.fr a b d e f i o q y z c g p l) h nx =
 zh .eql .int i (.int .u64 0) fun v1=>sG v1 true (fun k=>k o) fun v2=>sG v1 true (fun k=>zh .leq .int v2 (.int .u64 9223372036854775807) k) fun v3=>jD v1 v3 (.bool false) fun v4=>K (je.fr a b d e f i o q y z c g v4 l) h nx:=by kernel_rfl
theorem je.ny:IR.run je.t4 C N O K (je.fr a b d e f i o q y z c g p l) h nx =
 zJ 0 d fun v1=>zH v1 h fun v2=>zh .lss .int v2 (I 0) fun v3=>zJ 0 e fun v4=>zH v4 h fun v5=>zh .lss .int v5 (I 0) fun v6=>zh .neq .bool v3 v6 fun v7=>K (je.fr a b d e f i o q y z c g p v7) h nx:=by kernel_rfl
theorem je.bV:IR.run je.t5 C N O K (je.fr a b d e f i o q y z c g p l) h nx =
 qN .i64 o fun v1=>sNeg v1 fun v2=>gE [(I 0),.zn] [(0,1,v2)] fun v3=>zO 2 f v3 h nx fun v4 h5 n6=>K (je.fr a b d e f i o q y z c g p l) h5 n6:=by kernel_rfl
theorem je.v13:Arg.ev (.t (.of 13)) ⟨(je.fr a b d e f i o q y z c g p l),[]⟩=l:=by kernel_rfl
theorem je.ax:IR.run je.t9 C N O K (je.fr a b d e f i o q y z c g p l) h nx =
 qN .i64 o fun v1=>gE [(I 0),.zn] [(0,1,v1)] fun v2=>zO 2 f v2 h nx fun v3 h4 n5=>K (je.fr a b d e f i o q y z c g p l) h4 n5:=by kernel_rfl
theorem je.v12:Arg.ev (.t (.of 12)) ⟨(je.fr a b d e f i o q y z c g p l),[]⟩=p:=by kernel_rfl
theorem je.v11:Arg.ev (.t (.of 11)) ⟨(je.fr a b d e f i o q y z c g p l),[]⟩=g:=by kernel_rfl
theorem je.rV:IR.run je.t17 C N O K (je.fr a b d e f i o q y z c g p l) h nx =
 zD 2 d h fun v1=>C.fn 267 (.of 267) [v1] h nx fun v2 h3 n4=>uq 0 v2 fun v5=>uq 1 v2 fun v6=>K (je.fr a b d e f i o v5 v6 z c g p l) h3 n4:=by kernel_rfl
theorem je.ah:IR.run je.t18 C N O K (je.fr a b d e f i o q y z c g p l) h nx =
 zD 2 e h fun v1=>C.fn 267 (.of 267) [v1] h nx fun v2 h3 n4=>uq 0 v2 fun v5=>uq 1 v2 fun v6=>K (je.fr a b d e f i o q y v5 v6 g p l) h3 n4:=by kernel_rfl
theorem je.sV:IR.run je.t19 C N O K (je.fr a b d e f i o q y z c g p l) h nx =
 zh .neq .bool q z fun v1=>C.fn 276 (.of 276) [y,c] h nx fun v2 h3 n4=>C.fn 268 (.of 268) [v1,v2] h3 n4 fun v5 h6 n7=>zO 2 f v5 h6 n7 fun v8 h9 nC=>K (je.fr a b d e f i o q y z c g p l) h9 nC:=by kernel_rfl
theorem je.go:zS tbl N C (.of 193) [a0,a1] h nx K0=IR.run je.t24 C N (fnO je.res K0) (yu je.res K0) (je.fr a0 a1 .u .u .u .u .u .u .u .u .u .u .u .u) h nx:=yW (F:=je) (by kernel_rfl) (fun _=>by kernel_rfl) (by kernel_rfl)
theorem je.ret:yu je.res K0 (je.fr a b d e f i o q y z c g p l) h nx=zD 2 f h fun v1=>K0 v1 h nx:=by kernel_rfl
theorem jl.jk:IR.run jl.t0 C N O K (jl.fr a b d e f i o q) h nx =
 xk a h nx fun v1 h2 n3=>xk b h2 n3 fun v4 h5 n6=>K (jl.fr a b v1 v4 (I 0) i o q) h5 n6:=by kernel_rfl
theorem jl.ji:IR.run jl.t1 C N O K (jl.fr a b d e f i o q) h nx =
 zJ 1 d fun v1=>zH v1 h fun v2=>zh .eql (.nil .sl) v2 .zn fun v3=>sG v3 true (fun k=>zJ 1 e k) fun v4=>sG v3 true (fun k=>zH v4 h k) fun v5=>sG v3 true (fun k=>zh .eql (.nil .sl) v5 .zn k) fun v6=>jD v3 v6 (.bool false) fun v7=>K (jl.fr a b d e f v7 o q) h nx:=by kernel_rfl
theorem jl.qh:IR.run jl.t2 C N O K (jl.fr a b d e f i o q) h nx =
 zJ 0 d fun v1=>zH v1 h fun v2=>zJ 0 e fun v3=>zH v3 h fun v4=>zh .lss .int v2 v4 fun v5=>K (jl.fr a b d e f i v5 q) h nx:=by kernel_rfl
theorem jl.nU:IR.run jl.t3 C N O K (jl.fr a b d e f i o q) h nx =
 K (jl.fr a b d e (I (-1)) i o q) h nx:=by kernel_rfl
theorem jl.bV:IR.run jl.t5 C N O K (jl.fr a b d e f i o q) h nx =
 zJ 0 d fun v1=>zH v1 h fun v2=>zJ 0 e fun v3=>zH v3 h fun v4=>zh .gtr .int v2 v4 fun v5=>K (jl.fr a b d e f i o v5) h nx:=by kernel_rfl
theorem jl.bf:IR.run jl.t6 C N O K (jl.fr a b d e f i o q) h nx =
 K (jl.fr a b d e (I 1) i o q) h nx:=by kernel_rfl
theorem jl.v7:Arg.ev (.t (.of 7)) ⟨(jl.fr a b d e f i o q),[]⟩=q:=by kernel_rfl
theorem jl.v6:Arg.ev (.t (.of 6)) ⟨(jl.fr a b d e f i o q),[]⟩=o:=by kernel_rfl
theorem jl.ng:IR.run jl.t13 C N O K (jl.fr a b d e f i o q) h nx =
 K (jl.fr a b d e (I 0) i o q) h nx:=by kernel_rfl
theorem jl.v5:Arg.ev (.t (.of 5)) ⟨(jl.fr a b d e f i o q),[]⟩=i:=by kernel_rfl
theorem jl.ah:IR.run jl.t18 C N O K (jl.fr a b d e f i o q) h nx =
 zD 2 d h fun v1=>zD 2 e h fun v2=>C.fn 278 (.of 278) [v1,v2] h nx fun v3 h4 n5=>C.fn 194 (.of 194) [v3] h4 n5 fun v6 h7 n8=>K (jl.fr a b d e v6 i o q) h7 n8:=by kernel_rfl
theorem jl.go:zS tbl N C (.of 259) [a0,a1] h nx K0=IR.run jl.t21 C N (fnO jl.res K0) (yu jl.res K0) (jl.fr a0 a1 .u .u .u .u .u .u) h nx:=yW (F:=jl) (by kernel_rfl) (fun _=>by kernel_rfl) (by kernel_rfl)
theorem jl.ret:yu jl.res K0 (jl.fr a b d e f i o q) h nx=K0 f h nx:=by kernel_rfl
theorem yj.jk:IR.run yj.t0 C N O K (yj.fr a b d e f i o q y z c g p l s u v w) h nx =
 xk a h nx fun v1 h2 n3=>xk b h2 n3 fun v4 h5 n6=>yO [(I 0),.zn] h5 n6 fun v7 h8 n9=>yO [(I 0),.zn] h8 n9 fun vA hC nD=>K (yj.fr a b v1 v4 v7 vA o q y z c g p l s u v w) hC nD:=by kernel_rfl
theorem yj.ji:IR.run yj.t1 C N O K tm h nx=zN yj.r1_0 C ⟨tm,[]⟩ h nx (fun tm h nx=>K tm.v h nx):=jG ..
theorem yj.zg0:zN (yj.ze8 r) C ⟨(yj.fr a b d e f i o q y z c g p l s u v w),[]⟩ h nx Kt =
 zJ 1 d fun v1=>zH v1 h fun v2=>zh .eql (.nil .sl) v2 .zn fun v3=>sG v3 true (fun k=>zJ 1 e k) fun v4=>sG v3 true (fun k=>zH v4 h k) fun v5=>sG v3 true (fun k=>zh .eql (.nil .sl) v5 .zn k) fun v6=>jD v3 v6 (.bool false) fun v7=>zN r C ⟨(yj.fr a b d e f i o q y z c g p l s u v w),v7::v6::v5::v4::v3::v3::v2::v1::[]⟩ h nx Kt:=by kernel_rfl
theorem yj.oJ:zN (yj.ze9 []) C ⟨(yj.fr a b d e f i o q y z c g p l s u v w),s0::sT⟩ h nx Kt =
 sG s0 true (fun k=>zJ 0 d k) fun v1=>sG s0 true (fun k=>zH v1 h k) fun v2=>sG s0 true (fun k=>zh .neq .int v2 (I (-9223372036854775808)) k) fun v3=>jD s0 v3 (.bool false) fun v4=>Kt ⟨(yj.fr a b d e f i o q y z c g p l s v4 v w),v3::v2::v1::s0::s0::sT⟩ h nx:=by kernel_rfl
theorem yj.qh:IR.run yj.t2 C N O K (yj.fr a b d e f i o q y z c g p l s u v w) h nx =
 zJ 0 d fun v1=>zH v1 h fun v2=>zJ 0 e fun v3=>zH v3 h fun v4=>zh .quo .int v2 v4 fun v5=>zJ 0 d fun v6=>zH v6 h fun v7=>zJ 0 e fun v8=>zH v8 h fun v9=>zh .rem .int v7 v9 fun vA=>K (yj.fr a b d e f i v5 vA y z c g p l s u v w) h nx:=by kernel_rfl
theorem yj.nU:IR.run yj.t3 C N O K (yj.fr a b d e f i o q y z c g p l s u v w) h nx =
 zh .lss .int q (I 0) fun v1=>K (yj.fr a b d e f i o q y z c g p l s u v1 w) h nx:=by kernel_rfl
theorem yj.ny:IR.run yj.t4 C N O K (yj.fr a b d e f i o q y z c g p l s u v w) h nx =
 zh .sub .int o (I 1) fun v1=>zJ 0 e fun v2=>zH v2 h fun v3=>zh .add .int q v3 fun v4=>K (yj.fr a b d e f i v1 v4 y z c g p l s u v w) h nx:=by kernel_rfl
theorem yj.v16:Arg.ev (.t (.of 16)) ⟨(yj.fr a b d e f i o q y z c g p l s u v w),[]⟩=v:=by kernel_rfl
theorem yj.rD:IR.run yj.t7 C N O K (yj.fr a b d e f i o q y z c g p l s u v w) h nx =
 gE [(I 0),.zn] [(0,1,o)] fun v1=>gE [(I 0),.zn] [(0,1,q)] fun v2=>zO 2 f v1 h nx fun v3 h4 n5=>zO 2 i v2 h4 n5 fun v6 h7 n8=>K (yj.fr a b d e f i o q y z c g p l s u v w) h7 n8:=by kernel_rfl
theorem yj.v15:Arg.ev (.t (.of 15)) ⟨(yj.fr a b d e f i o q y z c g p l s u v w),[]⟩=u:=by kernel_rfl
theorem yj.ng:IR.run yj.t13 C N O K (yj.fr a b d e f i o q y z c g p l s u v w) h nx =
 zD 2 d h fun v1=>C.fn 267 (.of 267) [v1] h nx fun v2 h3 n4=>uq 0 v2 fun v5=>uq 1 v2 fun v6=>K (yj.fr a b d e f i o q v5 v6 c g p l s u v w) h3 n4:=by kernel_rfl
theorem yj.rq:IR.run yj.t14 C N O K (yj.fr a b d e f i o q y z c g p l s u v w) h nx =
 zD 2 e h fun v1=>C.fn 267 (.of 267) [v1] h nx fun v2 h3 n4=>uq 0 v2 fun v5=>uq 1 v2 fun v6=>K (yj.fr a b d e f i o q y z v6 g p l s u v w) h3 n4:=by kernel_rfl
theorem yj.sF:IR.run yj.t15 C N O K (yj.fr a b d e f i o q y z c g p l s u v w) h nx =
 C.fn 277 (.of 277) [z,c] h nx fun v1 h2 n3=>uq 0 v1 fun v4=>uq 1 v1 fun v5=>K (yj.fr a b d e f i o q y z c v4 v5 l s u v w) h2 n3:=by kernel_rfl
theorem yj.nZ:IR.run yj.t16 C N O K (yj.fr a b d e f i o q y z c g p l s u v w) h nx =
 C.fn 268 (.of 268) [y,g] h nx fun v1 h2 n3=>C.fn 268 (.of 268) [y,p] h2 n3 fun v4 h5 n6=>yO [(I 0),.zn] h5 n6 fun v7 h8 n9=>yO [(I 0),.zn] h8 n9 fun vA hC nD=>zO 2 v7 v1 hC nD fun vG hD nE=>zO 2 vA v4 hD nE fun vE hE nF=>K (yj.fr a b d e f i o q y z c g p v7 vA u v w) hE nF:=by kernel_rfl
theorem yj.rV:IR.run yj.t17 C N O K (yj.fr a b d e f i o q y z c g p l s u v w) h nx =
 zD 2 s h fun v1=>C.fn 194 (.of 194) [v1] h nx fun v2 h3 n4=>zh .lss .int v2 (I 0) fun v5=>K (yj.fr a b d e f i o q y z c g p l s u v v5) h3 n4:=by kernel_rfl
theorem yj.ah:IR.run yj.t18 C N O K (yj.fr a b d e f i o q y z c g p l s u v w) h nx =
 zD 2 l h fun v1=>zD 2 s h fun v2=>zD 2 e h fun v3=>C.fn 190 (.of 190) [(I 1)] h nx fun v4 h5 n6=>(zD 2 e h5 fun vI=>zP vI v3 ((zD 2 s h5 fun vJ=>zP vJ v2 ((zD 2 l h5 fun vK=>zP vK v1 (C.fn 278 (.of 278) [v1,v4] h5 n6 fun v7 h8 n9=>(zD 2 e h8 fun vL=>zP vL v3 ((zD 2 s h8 fun vM=>zP vM v2 (C.fn 191 (.of 191) [v2,v3] h8 n9 fun vA hC nD=>zO 2 l v7 hC nD fun vG hD nE=>zO 2 s vA hD nE fun vE hE nF=>K (yj.fr a b d e f i o q y z c g p l s u v w) hE nF)))))))))):=by kernel_rfl
theorem yj.v17:Arg.ev (.t (.of 17)) ⟨(yj.fr a b d e f i o q y z c g p l s u v w),[]⟩=w:=by kernel_rfl
theorem yj.sU:IR.run yj.t21 C N O K (yj.fr a b d e f i o q y z c g p l s u v w) h nx =
 zD 2 l h fun v1=>zD 2 s h fun v2=>zO 2 f v1 h nx fun v3 h4 n5=>(zD 2 s h4 fun v9=>zP v9 v2 (zO 2 i v2 h4 n5 fun v6 h7 n8=>K (yj.fr a b d e f i o q y z c g p l s u v w) h7 n8)):=by kernel_rfl
theorem yj.go:zS tbl N C (.of 197) [a0,a1] h nx K0=IR.run yj.t29 C N (fnO yj.res K0) (yu yj.res K0) (yj.fr a0 a1 .u .u .u .u .u .u .u .u .u .u .u .u .u .u .u .u) h nx:=yW (F:=yj) (by kernel_rfl) (fun _=>by kernel_rfl) (by kernel_rfl)
theorem yj.ret:yu yj.res K0 (yj.fr a b d e f i o q y z c g p l s u v w) h nx=zD 2 f h fun v1=>zD 2 i h fun v2=>K0 (.tup [v1,v2]) h nx:=by kernel_rfl
theorem uz.jk:IR.run uz.t0 C N O K (uz.fr a b d e f i o) h nx =
 xk a h nx fun v1 h2 n3=>xk b h2 n3 fun v4 h5 n6=>yO [(I 0),.zn] h5 n6 fun v7 h8 n9=>K (uz.fr a b v1 v4 v7 i o) h8 n9:=by kernel_rfl
theorem uz.ji:IR.run uz.t1 C N O K (uz.fr a b d e f i o) h nx =
 zD 2 e h fun v1=>C.fn 194 (.of 194) [v1] h nx fun v2 h3 n4=>zh .lss .int v2 (I 0) fun v5=>K (uz.fr a b d e f i v5) h3 n4:=by kernel_rfl
theorem uz.qh:IR.run uz.t2 C N O K (uz.fr a b d e f i o) h nx =
 zD 2 d h fun v1=>zD 2 e h fun v2=>C.fn 266 (.of 266) [v1] h nx fun v3 h4 n5=>(zD 2 e h4 fun vF=>zP vF v2 (C.fn 266 (.of 266) [v2] h4 n5 fun v6 h7 n8=>zO 2 d v3 h7 n8 fun v9 hB nB=>zO 2 e v6 hB nB fun vH hF nG=>K (uz.fr a b d e f i o) hF nG)):=by kernel_rfl
theorem uz.v6:Arg.ev (.t (.of 6)) ⟨(uz.fr a b d e f i o),[]⟩=o:=by kernel_rfl
theorem uz.bV:IR.run uz.t5 C N O K (uz.fr a b d e f i o) h nx =
 zD 2 d h fun v1=>zD 2 e h fun v2=>C.fn 197 (.of 197) [v1,v2] h nx fun v3 h4 n5=>uq 0 v3 fun v6=>uq 1 v3 fun v7=>yO [(I 0),.zn] h4 n5 fun v8 h9 nC=>yO [(I 0),.zn] h9 nC fun vB hA nA=>zO 2 v8 v6 hA nA fun vC hG nH=>zO 2 vB v7 hG nH fun vD hH nI=>K (uz.fr a b d e f v8 o) hH nI:=by kernel_rfl
theorem uz.bf:IR.run uz.t6 C N O K (uz.fr a b d e f i o) h nx =
 zD 2 i h fun v1=>zO 2 f v1 h nx fun v2 h3 n4=>K (uz.fr a b d e f i o) h3 n4:=by kernel_rfl
theorem uz.go:zS tbl N C (.of 273) [a0,a1] h nx K0=IR.run uz.t10 C N (fnO uz.res K0) (yu uz.res K0) (uz.fr a0 a1 .u .u .u .u .u) h nx:=yW (F:=uz) (by kernel_rfl) (fun _=>by kernel_rfl) (by kernel_rfl)
theorem uz.ret:yu uz.res K0 (uz.fr a b d e f i o) h nx=zD 2 f h fun v1=>K0 v1 h nx:=by kernel_rfl
theorem xq.jk:IR.run xq.t0 C N O K (xq.fr a b d e) h nx =
 xk a h nx fun v1 h2 n3=>yO [(I 0),.zn] h2 n3 fun v4 h5 n6=>K (xq.fr a v1 v4 e) h5 n6:=by kernel_rfl
theorem xq.ji:IR.run xq.t1 C N O K (xq.fr a b d e) h nx =
 zJ 0 b fun v1=>zH v1 h fun v2=>zh .lss .int v2 (I 0) fun v3=>K (xq.fr a b d v3) h nx:=by kernel_rfl
theorem xq.qh:IR.run xq.t2 C N O K (xq.fr a b d e) h nx =
 zD 2 b h fun v1=>C.fn 266 (.of 266) [v1] h nx fun v2 h3 n4=>zO 2 d v2 h3 n4 fun v5 h6 n7=>K (xq.fr a b d e) h6 n7:=by kernel_rfl
theorem xq.v3:Arg.ev (.t (.of 3)) ⟨(xq.fr a b d e),[]⟩=e:=by kernel_rfl
theorem xq.bf:IR.run xq.t6 C N O K (xq.fr a b d e) h nx =
 zD 2 b h fun v1=>zO 2 d v1 h nx fun v2 h3 n4=>K (xq.fr a b d e) h3 n4:=by kernel_rfl
theorem xq.go:zS tbl N C (.of 334) [a0] h nx K0=IR.run xq.t9 C N (fnO xq.res K0) (yu xq.res K0) (xq.fr a0 .u .u .u) h nx:=yW (F:=xq) (by kernel_rfl) (fun _=>by kernel_rfl) (by kernel_rfl)
theorem xq.ret:yu xq.res K0 (xq.fr a b d e) h nx=zD 2 d h fun v1=>K0 v1 h nx:=by kernel_rfl
theorem gy.jk:IR.run gy.t0 C N O K (gy.fr a b d e f i o) h nx =
 xk a h nx fun v1 h2 n3=>xk b h2 n3 fun v4 h5 n6=>yO [(I 0),.zn] h5 n6 fun v7 h8 n9=>K (gy.fr a b v1 v4 v7 i o) h8 n9:=by kernel_rfl
theorem gy.ji:IR.run gy.t1 C N O K (gy.fr a b d e f i o) h nx =
 zD 2 d h fun v1=>zD 2 e h fun v2=>C.fn 334 (.of 334) [v1] h nx fun v3 h4 n5=>(zD 2 e h4 fun vF=>zP vF v2 (C.fn 334 (.of 334) [v2] h4 n5 fun v6 h7 n8=>zO 2 d v3 h7 n8 fun v9 hB nB=>zO 2 e v6 hB nB fun vH hF nG=>K (gy.fr a b d e f i o) hF nG)):=by kernel_rfl
theorem gy.qh:IR.run gy.t2 C N O K (gy.fr a b d e f i o) h nx =
 zD 2 e h fun v1=>C.fn 194 (.of 194) [v1] h nx fun v2 h3 n4=>zh .neq .int v2 (I 0) fun v5=>K (gy.fr a b d e f i v5) h3 n4:=by kernel_rfl
theorem gy.v6:Arg.ev (.t (.of 6)) ⟨(gy.fr a b d e f i o),[]⟩=o:=by kernel_rfl
theorem gy.bV:IR.run gy.t5 C N O K (gy.fr a b d e f i o) h nx =
 zD 2 d h fun v1=>zD 2 e h fun v2=>C.fn 197 (.of 197) [v1,v2] h nx fun v3 h4 n5=>uq 0 v3 fun v6=>uq 1 v3 fun v7=>yO [(I 0),.zn] h4 n5 fun v8 h9 nC=>yO [(I 0),.zn] h9 nC fun vB hA nA=>zO 2 v8 v6 hA nA fun vC hG nH=>zO 2 vB v7 hG nH fun vD hH nI=>K (gy.fr a b d e f vB o) hH nI:=by kernel_rfl
theorem gy.bf:IR.run gy.t6 C N O K (gy.fr a b d e f i o) h nx =
 zD 2 e h fun v1=>zD 2 i h fun v2=>zO 2 d v1 h nx fun v3 h4 n5=>(zD 2 i h4 fun v9=>zP v9 v2 (zO 2 e v2 h4 n5 fun v6 h7 n8=>K (gy.fr a b d e f i o) h7 n8)):=by kernel_rfl
theorem gy.qa8 (Inv:Nat->T Blk->Pa->Prop) {m:Nat} (hm:m<N) (hi:Inv m h nx)
  (step:∀ (m:Nat) (z5 z6:AV) (h:T Blk) (nx:Pa) (R:Ks Prop),Inv m h nx->(∀ (m':Nat) (w5 w6:AV) (h':T Blk) (nx':Pa),m'<m->Inv m' h' nx'->R (gy.fr a b d e f w5 w6) h' nx'=.ok True)->IR.run gy.t9 C N O R (gy.fr a b d e f z5 z6) h nx=.ok True) :
  IR.run gy.t10 C N O K (gy.fr a b d e f i o) h nx=.ok True:=by
 rw [gy.t10];refine yD (fun m tm h nx=>∃ z5 z6,tm=(gy.fr a b d e f z5 z6)/\Inv m h nx) ?_ hm ⟨_,_,rfl,hi⟩;rintro m tm h nx R ⟨z5,z6,rfl,hi⟩ hR;exact step m z5 z6 h nx R hi fun m' w5 w6 h' nx' hlt hi'=>hR m' _ h' nx' hlt ⟨_,_,rfl,hi'⟩
theorem gy.nS:IR.run gy.t12 C N O K (gy.fr a b d e f i o) h nx =
 zD 2 d h fun v1=>zO 2 f v1 h nx fun v2 h3 n4=>K (gy.fr a b d e f i o) h3 n4:=by kernel_rfl
theorem gy.go:zS tbl N C (.of 272) [a0,a1] h nx K0=IR.run gy.t16 C N (fnO gy.res K0) (yu gy.res K0) (gy.fr a0 a1 .u .u .u .u .u) h nx:=yW (F:=gy) (by kernel_rfl) (fun _=>by kernel_rfl) (by kernel_rfl)
theorem gy.ret:yu gy.res K0 (gy.fr a b d e f i o) h nx=zD 2 f h fun v1=>K0 v1 h nx:=by kernel_rfl
theorem F99.jk:IR.run F99.t0 C N O K (F99.fr a b d) h nx =
 xk a h nx fun v1 h2 n3=>K (F99.fr a v1 (.bool false)) h2 n3:=by kernel_rfl
theorem F99.ji:IR.run F99.t1 C N O K tm h nx=zN F99.r1_0 C ⟨tm,[]⟩ h nx (fun tm h nx=>K tm.v h nx):=jG ..
theorem F99.zg0:zN (F99.ze8 r) C ⟨(F99.fr a b d),[]⟩ h nx Kt =
 zJ 2 b fun v1=>zJ 1 v1 fun v2=>zH v2 h fun v3=>zh .eql (.nil .sl) v3 .zn fun v4=>sG v4 true (fun k=>zJ 2 b k) fun v5=>sG v4 true (fun k=>zJ 0 v5 k) fun v6=>sG v4 true (fun k=>zH v6 h k) fun v7=>zN r C ⟨(F99.fr a b d),v7::v6::v5::v4::v4::v3::v2::v1::[]⟩ h nx Kt:=by kernel_rfl
theorem F99.oJ:zN (F99.ze9 []) C ⟨(F99.fr a b d),s0::s1::s2::s3::sT⟩ h nx Kt =
 sG s3 true (fun k=>zh .eql .int s0 (I 1) k) fun v1=>jD s3 v1 (.bool false) fun v2=>Kt ⟨(F99.fr a b v2),v2::v1::s0::s1::s2::s3::sT⟩ h nx:=by kernel_rfl
theorem F99.go:zS tbl N C (.of 99) [a0] h nx K0=IR.run F99.t3 C N (fnO F99.res K0) (yu F99.res K0) (F99.fr a0 .u .u) h nx:=yW (F:=F99) (by kernel_rfl) (fun _=>by kernel_rfl) (by kernel_rfl)
theorem F99.ret:yu F99.res K0 (F99.fr a b d) h nx=K0 d h nx:=by kernel_rfl
theorem fA.jk:IR.run fA.t0 C N O K (fA.fr a b d) h nx =
 xk a h nx fun v1 h2 n3=>yO [(I 0),.zn,(I 0),.zn] h2 n3 fun v4 h5 n6=>K (fA.fr a v1 v4) h5 n6:=by kernel_rfl
theorem fA.ji:IR.run fA.t1 C N O K (fA.fr a b d) h nx =
 zD 2 b h fun v1=>C.fn 190 (.of 190) [(I 1)] h nx fun v2 h3 n4=>(zD 2 b h3 fun v9=>zP v9 v1 (gE [(I 0),.zn,(I 0),.zn] [(0,2,v1),(2,2,v2)] fun v5=>zO 4 d v5 h3 n4 fun v6 h7 n8=>K (fA.fr a b d) h7 n8)):=by kernel_rfl
theorem fA.go:zS tbl N C (.of 189) [a0] h nx K0=IR.run fA.t3 C N (fnO fA.res K0) (yu fA.res K0) (fA.fr a0 .u .u) h nx:=yW (F:=fA) (by kernel_rfl) (fun _=>by kernel_rfl) (by kernel_rfl)
theorem fA.ret:yu fA.res K0 (fA.fr a b d) h nx=zD 4 d h fun v1=>K0 v1 h nx:=by kernel_rfl
theorem F89.jk:IR.run F89.t0 C N O K (F89.fr a b) h nx =
 yO [(I 0),.zn,(I 0),.zn] h nx fun v1 h2 n3=>K (F89.fr a v1) h2 n3:=by kernel_rfl
theorem F89.ji:IR.run F89.t1 C N O K (F89.fr a b) h nx =
 C.fn 190 (.of 190) [a] h nx fun v1 h2 n3=>C.fn 189 (.of 189) [v1] h2 n3 fun v4 h5 n6=>zO 4 b v4 h5 n6 fun v7 h8 n9=>K (F89.fr a b) h8 n9:=by kernel_rfl
theorem F89.go:zS tbl N C (.of 89) [a0] h nx K0=IR.run F89.t3 C N (fnO F89.res K0) (yu F89.res K0) (F89.fr a0 .u) h nx:=yW (F:=F89) (by kernel_rfl) (fun _=>by kernel_rfl) (by kernel_rfl)
theorem F89.ret:yu F89.res K0 (F89.fr a b) h nx=zD 4 b h fun v1=>K0 v1 h nx:=by kernel_rfl
theorem jy.jk:IR.run jy.t0 C N O K (jy.fr a b d e f i o q) h nx =
 xk a h nx fun v1 h2 n3=>xk b h2 n3 fun v4 h5 n6=>yO [(I 0),.zn,(I 0),.zn] h5 n6 fun v7 h8 n9=>K (jy.fr a b v1 v4 v7 i o q) h8 n9:=by kernel_rfl
theorem jy.ji:IR.run jy.t1 C N O K (jy.fr a b d e f i o q) h nx =
 zD 2 e h fun v1=>C.fn 194 (.of 194) [v1] h nx fun v2 h3 n4=>zh .lss .int v2 (I 0) fun v5=>K (jy.fr a b d e f i v5 q) h3 n4:=by kernel_rfl
theorem jy.qh:IR.run jy.t2 C N O K (jy.fr a b d e f i o q) h nx =
 zD 2 d h fun v1=>zD 2 e h fun v2=>C.fn 266 (.of 266) [v1] h nx fun v3 h4 n5=>(zD 2 e h4 fun vF=>zP vF v2 (C.fn 266 (.of 266) [v2] h4 n5 fun v6 h7 n8=>zO 2 d v3 h7 n8 fun v9 hB nB=>zO 2 e v6 hB nB fun vH hF nG=>K (jy.fr a b d e f i o q) hF nG)):=by kernel_rfl
theorem jy.v6:Arg.ev (.t (.of 6)) ⟨(jy.fr a b d e f i o q),[]⟩=o:=by kernel_rfl
theorem jy.bV:IR.run jy.t5 C N O K (jy.fr a b d e f i o q) h nx =
 zJ 1 e fun v1=>zH v1 h fun v2=>zh .eql (.nil .sl) v2 .zn fun v3=>sG v3 true (fun k=>zJ 0 e k) fun v4=>sG v3 true (fun k=>zH v4 h k) fun v5=>sG v3 true (fun k=>zh .eql .int v5 (I 1) k) fun v6=>jD v3 v6 (.bool false) fun v7=>K (jy.fr a b d e f i o v7) h nx:=by kernel_rfl
theorem jy.bf:IR.run jy.t6 C N O K (jy.fr a b d e f i o q) h nx =
 zD 2 d h fun v1=>zD 2 e h fun v2=>gE [(I 0),.zn,(I 0),.zn] [(0,2,v1),(2,2,v2)] fun v3=>zO 4 f v3 h nx fun v4 h5 n6=>K (jy.fr a b d e f i o q) h5 n6:=by kernel_rfl
theorem jy.v7:Arg.ev (.t (.of 7)) ⟨(jy.fr a b d e f i o q),[]⟩=q:=by kernel_rfl
theorem jy.nR:IR.run jy.t10 C N O K (jy.fr a b d e f i o q) h nx =
 zD 2 d h fun v1=>zD 2 e h fun v2=>C.fn 272 (.of 272) [v1,v2] h nx fun v3 h4 n5=>yO [(I 0),.zn] h4 n5 fun v6 h7 n8=>zO 2 v6 v3 h7 n8 fun v9 hB nB=>K (jy.fr a b d e f v6 o q) hB nB:=by kernel_rfl
theorem jy.fM:IR.run jy.t11 C N O K (jy.fr a b d e f i o q) h nx =
 zD 2 d h fun v1=>zD 2 i h fun v2=>zD 2 e h fun v3=>zD 2 i h fun v4=>C.fn 273 (.of 273) [v1,v2] h nx fun v5 h6 n7=>(zD 2 i h6 fun vE=>zP vE v4 ((zD 2 e h6 fun vF=>zP vF v3 (C.fn 273 (.of 273) [v3,v4] h6 n7 fun v8 h9 nC=>gE [(I 0),.zn,(I 0),.zn] [(0,2,v5),(2,2,v8)] fun vB=>zO 4 f vB h9 nC fun vH hF nG=>K (jy.fr a b d e f i o q) hF nG)))):=by kernel_rfl
theorem jy.go:zS tbl N C (.of 192) [a0,a1] h nx K0=IR.run jy.t16 C N (fnO jy.res K0) (yu jy.res K0) (jy.fr a0 a1 .u .u .u .u .u .u) h nx:=yW (F:=jy) (by kernel_rfl) (fun _=>by kernel_rfl) (by kernel_rfl)
theorem jy.ret:yu jy.res K0 (jy.fr a b d e f i o q) h nx=zD 4 f h fun v1=>K0 v1 h nx:=by kernel_rfl
theorem F91.jk:IR.run F91.t0 C N O K (F91.fr a b d) h nx =
 xk a h nx fun v1 h2 n3=>K (F91.fr a v1 (I 0)) h2 n3:=by kernel_rfl
theorem F91.ji:IR.run F91.t1 C N O K (F91.fr a b d) h nx =
 zJ 0 b fun v1=>zD 2 v1 h fun v2=>C.fn 194 (.of 194) [v2] h nx fun v3 h4 n5=>K (F91.fr a b v3) h4 n5:=by kernel_rfl
theorem F91.go:zS tbl N C (.of 91) [a0] h nx K0=IR.run F91.t3 C N (fnO F91.res K0) (yu F91.res K0) (F91.fr a0 .u .u) h nx:=yW (F:=F91) (by kernel_rfl) (fun _=>by kernel_rfl) (by kernel_rfl)
theorem F91.ret:yu F91.res K0 (F91.fr a b d) h nx=K0 d h nx:=by kernel_rfl
theorem fB.jk:IR.run fB.t0 C N O K (fB.fr a b d) h nx =
 xk a h nx fun v1 h2 n3=>yO [(I 0),.zn,(I 0),.zn] h2 n3 fun v4 h5 n6=>K (fB.fr a v1 v4) h5 n6:=by kernel_rfl
theorem fB.ji:IR.run fB.t1 C N O K (fB.fr a b d) h nx =
 zJ 0 b fun v1=>zD 2 v1 h fun v2=>zJ 2 b fun v3=>zD 2 v3 h fun v4=>C.fn 266 (.of 266) [v2] h nx fun v5 h6 n7=>(zD 2 v3 h6 fun vG=>zP vG v4 ((zJ 2 b fun vH=>zP vH v3 (gE [(I 0),.zn,(I 0),.zn] [(0,2,v5),(2,2,v4)] fun v8=>zO 4 d v8 h6 n7 fun v9 hB nB=>K (fB.fr a b d) hB nB)))):=by kernel_rfl
theorem fB.go:zS tbl N C (.of 188) [a0] h nx K0=IR.run fB.t3 C N (fnO fB.res K0) (yu fB.res K0) (fB.fr a0 .u .u) h nx:=yW (F:=fB) (by kernel_rfl) (fun _=>by kernel_rfl) (by kernel_rfl)
theorem fB.ret:yu fB.res K0 (fB.fr a b d) h nx=zD 4 d h fun v1=>K0 v1 h nx:=by kernel_rfl
theorem fC.jk:IR.run fC.t0 C N O K (fC.fr a b d) h nx =
 xk a h nx fun v1 h2 n3=>yO [(I 0),.zn,(I 0),.zn] h2 n3 fun v4 h5 n6=>K (fC.fr a v1 v4) h5 n6:=by kernel_rfl
theorem fC.ji:IR.run fC.t1 C N O K (fC.fr a b d) h nx =
 zJ 2 b fun v1=>zD 2 v1 h fun v2=>zJ 0 b fun v3=>zD 2 v3 h fun v4=>C.fn 192 (.of 192) [v2,v4] h nx fun v5 h6 n7=>zO 4 d v5 h6 n7 fun v8 h9 nC=>K (fC.fr a b d) h9 nC:=by kernel_rfl
theorem fC.go:zS tbl N C (.of 185) [a0] h nx K0=IR.run fC.t3 C N (fnO fC.res K0) (yu fC.res K0) (fC.fr a0 .u .u) h nx:=yW (F:=fC) (by kernel_rfl) (fun _=>by kernel_rfl) (by kernel_rfl)
theorem fC.ret:yu fC.res K0 (fC.fr a b d) h nx=zD 4 d h fun v1=>K0 v1 h nx:=by kernel_rfl
theorem F96.jk:IR.run F96.t0 C N O K (F96.fr a b d e f) h nx =
 xk a h nx fun v1 h2 n3=>xk b h2 n3 fun v4 h5 n6=>yO [(I 0),.zn,(I 0),.zn] h5 n6 fun v7 h8 n9=>K (F96.fr a b v1 v4 v7) h8 n9:=by kernel_rfl
theorem F96.ji:IR.run F96.t1 C N O K (F96.fr a b d e f) h nx =
 zJ 0 d fun v1=>zD 2 v1 h fun v2=>zJ 0 e fun v3=>zD 2 v3 h fun v4=>zJ 2 d fun v5=>zD 2 v5 h fun v6=>zJ 2 e fun v7=>zD 2 v7 h fun v8=>C.fn 193 (.of 193) [v2,v4] h nx fun v9 hB nB=>(zD 2 v7 hB fun vN=>zP vN v8 ((zJ 2 e fun vI=>zP vI v7 ((zD 2 v5 hB fun vJ=>zP vJ v6 ((zJ 2 d fun vK=>zP vK v5 (C.fn 193 (.of 193) [v6,v8] hB nB fun vH hF nG=>C.fn 192 (.of 192) [v9,vH] hF nG fun vF hI nJ=>zO 4 f vF hI nJ fun vO hJ nK=>K (F96.fr a b d e f) hJ nK)))))))):=by kernel_rfl
theorem F96.go:zS tbl N C (.of 96) [a0,a1] h nx K0=IR.run F96.t3 C N (fnO F96.res K0) (yu F96.res K0) (F96.fr a0 a1 .u .u .u) h nx:=yW (F:=F96) (by kernel_rfl) (fun _=>by kernel_rfl) (by kernel_rfl)
theorem F96.ret:yu F96.res K0 (F96.fr a b d e f) h nx=zD 4 f h fun v1=>K0 v1 h nx:=by kernel_rfl
theorem F90.jk:IR.run F90.t0 C N O K (F90.fr a b d e f i) h nx =
 xk a h nx fun v1 h2 n3=>xk b h2 n3 fun v4 h5 n6=>yO [(I 0),.zn,(I 0),.zn] h5 n6 fun v7 h8 n9=>K (F90.fr a b v1 v4 v7 i) h8 n9:=by kernel_rfl
theorem F90.ji:IR.run F90.t1 C N O K (F90.fr a b d e f i) h nx =
 zD 4 d h fun v1=>C.fn 99 (.of 99) [v1] h nx fun v2 h3 n4=>sG v2 true (fun k=>zD 4 e h3 k) fun v5=>sGW v2 true (fun k=>C.fn 99 (.of 99) [v5] h3 n4 k) h3 n4 fun v6 h7 n8=>jD v2 v6 (.bool false) fun v9=>K (F90.fr a b d e f v9) h7 n8:=by kernel_rfl
theorem F90.qh:IR.run F90.t2 C N O K (F90.fr a b d e f i) h nx =
 zJ 0 d fun v1=>zD 2 v1 h fun v2=>zJ 0 e fun v3=>zD 2 v3 h fun v4=>C.fn 191 (.of 191) [v2,v4] h nx fun v5 h6 n7=>C.fn 189 (.of 189) [v5] h6 n7 fun v8 h9 nC=>zO 4 f v8 h9 nC fun vB hA nA=>K (F90.fr a b d e f i) hA nA:=by kernel_rfl
theorem F90.v5:Arg.ev (.t (.of 5)) ⟨(F90.fr a b d e f i),[]⟩=i:=by kernel_rfl
theorem F90.bf:IR.run F90.t6 C N O K (F90.fr a b d e f i) h nx =
 zJ 0 d fun v1=>zD 2 v1 h fun v2=>zJ 2 e fun v3=>zD 2 v3 h fun v4=>zJ 0 e fun v5=>zD 2 v5 h fun v6=>zJ 2 d fun v7=>zD 2 v7 h fun v8=>zJ 2 d fun v9=>zD 2 v9 h fun vA=>zJ 2 e fun vB=>zD 2 vB h fun vH=>C.fn 193 (.of 193) [v2,v4] h nx fun vG hD nE=>(zD 2 vB hD fun vP=>zP vP vH ((zJ 2 e fun vQ=>zP vQ vB ((zD 2 v9 hD fun vR=>zP vR vA ((zJ 2 d fun vS=>zP vS v9 ((zD 2 v7 hD fun vT=>zP vT v8 ((zJ 2 d fun vU=>zP vU v7 ((zD 2 v5 hD fun vV=>zP vV v6 ((zJ 0 e fun vW=>zP vW v5 (C.fn 193 (.of 193) [v6,v8] hD nE fun vE hE nF=>(zD 2 vB hE fun vX=>zP vX vH ((zJ 2 e fun vY=>zP vY vB ((zD 2 v9 hE fun vZ=>zP vZ vA ((zJ 2 d fun v35=>zP v35 v9 (C.fn 191 (.of 191) [vG,vE] hE nF fun vM hK nL=>(zD 2 vB hK fun v34=>zP v34 vH ((zJ 2 e fun v33=>zP v33 vB ((zD 2 v9 hK fun v32=>zP v32 vA ((zJ 2 d fun v31=>zP v31 v9 (C.fn 193 (.of 193) [vA,vH] hK nL fun vJ hL nM=>C.fn 192 (.of 192) [vM,vJ] hL nM fun v25 hM nN=>zO 4 f v25 hM nN fun v28 hN nO=>K (F90.fr a b d e f i) hN nO)))))))))))))))))))))))))))))))):=by kernel_rfl
theorem F90.go:zS tbl N C (.of 90) [a0,a1] h nx K0=IR.run F90.t9 C N (fnO F90.res K0) (yu F90.res K0) (F90.fr a0 a1 .u .u .u .u) h nx:=yW (F:=F90) (by kernel_rfl) (fun _=>by kernel_rfl) (by kernel_rfl)
theorem F90.ret:yu F90.res K0 (F90.fr a b d e f i) h nx=zD 4 f h fun v1=>K0 v1 h nx:=by kernel_rfl
theorem fD.jk:IR.run fD.t0 C N O K (fD.fr a b d e f) h nx =
 xk a h nx fun v1 h2 n3=>xk b h2 n3 fun v4 h5 n6=>yO [(I 0),.zn,(I 0),.zn] h5 n6 fun v7 h8 n9=>K (fD.fr a b v1 v4 v7) h8 n9:=by kernel_rfl
theorem fD.ji:IR.run fD.t1 C N O K (fD.fr a b d e f) h nx =
 zD 4 d h fun v1=>zD 4 e h fun v2=>C.fn 188 (.of 188) [v2] h nx fun v3 h4 n5=>(zD 4 d h4 fun vH=>zP vH v1 (C.fn 90 (.of 90) [v1,v3] h4 n5 fun v6 h7 n8=>zO 4 f v6 h7 n8 fun v9 hB nB=>K (fD.fr a b d e f) hB nB)):=by kernel_rfl
theorem fD.go:zS tbl N C (.of 264) [a0,a1] h nx K0=IR.run fD.t3 C N (fnO fD.res K0) (yu fD.res K0) (fD.fr a0 a1 .u .u .u) h nx:=yW (F:=fD) (by kernel_rfl) (fun _=>by kernel_rfl) (by kernel_rfl)
theorem fD.ret:yu fD.res K0 (fD.fr a b d e f) h nx=zD 4 f h fun v1=>K0 v1 h nx:=by kernel_rfl
theorem F92.jk:IR.run F92.t0 C N O K (F92.fr a b d e f) h nx =
 xk a h nx fun v1 h2 n3=>xk b h2 n3 fun v4 h5 n6=>yO [(I 0),.zn,(I 0),.zn] h5 n6 fun v7 h8 n9=>K (F92.fr a b v1 v4 v7) h8 n9:=by kernel_rfl
theorem F92.ji:IR.run F92.t1 C N O K (F92.fr a b d e f) h nx =
 zD 4 d h fun v1=>zD 4 e h fun v2=>C.fn 185 (.of 185) [v2] h nx fun v3 h4 n5=>(zD 4 d h4 fun vH=>zP vH v1 (C.fn 96 (.of 96) [v1,v3] h4 n5 fun v6 h7 n8=>zO 4 f v6 h7 n8 fun v9 hB nB=>K (F92.fr a b d e f) hB nB)):=by kernel_rfl
theorem F92.go:zS tbl N C (.of 92) [a0,a1] h nx K0=IR.run F92.t3 C N (fnO F92.res K0) (yu F92.res K0) (F92.fr a0 a1 .u .u .u) h nx:=yW (F:=F92) (by kernel_rfl) (fun _=>by kernel_rfl) (by kernel_rfl)
theorem F92.ret:yu F92.res K0 (F92.fr a b d e f) h nx=zD 4 f h fun v1=>K0 v1 h nx:=by kernel_rfl
theorem fE.jk:IR.run fE.t0 C N O K (fE.fr a b d e f) h nx =
 xk a h nx fun v1 h2 n3=>xk b h2 n3 fun v4 h5 n6=>K (fE.fr a b v1 v4 (I 0)) h5 n6:=by kernel_rfl
theorem fE.ji:IR.run fE.t1 C N O K (fE.fr a b d e f) h nx =
 zJ 0 d fun v1=>zD 2 v1 h fun v2=>zJ 2 e fun v3=>zD 2 v3 h fun v4=>zJ 0 e fun v5=>zD 2 v5 h fun v6=>zJ 2 d fun v7=>zD 2 v7 h fun v8=>C.fn 193 (.of 193) [v2,v4] h nx fun v9 hB nB=>(zD 2 v7 hB fun vK=>zP vK v8 ((zJ 2 d fun vL=>zP vL v7 ((zD 2 v5 hB fun vM=>zP vM v6 ((zJ 0 e fun vO=>zP vO v5 (C.fn 193 (.of 193) [v6,v8] hB nB fun vH hF nG=>C.fn 259 (.of 259) [v9,vH] hF nG fun vF hI nJ=>K (fE.fr a b d e vF) hI nJ)))))))):=by kernel_rfl
theorem fE.go:zS tbl N C (.of 196) [a0,a1] h nx K0=IR.run fE.t3 C N (fnO fE.res K0) (yu fE.res K0) (fE.fr a0 a1 .u .u .u) h nx:=yW (F:=fE) (by kernel_rfl) (fun _=>by kernel_rfl) (by kernel_rfl)
theorem fE.ret:yu fE.res K0 (fE.fr a b d e f) h nx=K0 f h nx:=by kernel_rfl
theorem F95.jk:IR.run F95.t0 C N O K (F95.fr a b d e f) h nx =
 xk a h nx fun v1 h2 n3=>xk b h2 n3 fun v4 h5 n6=>K (F95.fr a b v1 v4 (.bool false)) h5 n6:=by kernel_rfl
theorem F95.ji:IR.run F95.t1 C N O K (F95.fr a b d e f) h nx =
 zD 4 d h fun v1=>zD 4 e h fun v2=>C.fn 196 (.of 196) [v1,v2] h nx fun v3 h4 n5=>zh .eql .int v3 (I 0) fun v6=>K (F95.fr a b d e v6) h4 n5:=by kernel_rfl
theorem F95.go:zS tbl N C (.of 95) [a0,a1] h nx K0=IR.run F95.t3 C N (fnO F95.res K0) (yu F95.res K0) (F95.fr a0 a1 .u .u .u) h nx:=yW (F:=F95) (by kernel_rfl) (fun _=>by kernel_rfl) (by kernel_rfl)
theorem F95.ret:yu F95.res K0 (F95.fr a b d e f) h nx=K0 f h nx:=by kernel_rfl
theorem F97.jk:IR.run F97.t0 C N O K (F97.fr a b d e) h nx =
 xk a h nx fun v1 h2 n3=>yO [(I 0),.zn] h2 n3 fun v4 h5 n6=>K (F97.fr a v1 v4 e) h5 n6:=by kernel_rfl
theorem F97.ji:IR.run F97.t1 C N O K (F97.fr a b d e) h nx =
 zJ 0 b fun v1=>zD 2 v1 h fun v2=>zJ 2 b fun v3=>zD 2 v3 h fun v4=>C.fn 197 (.of 197) [v2,v4] h nx fun v5 h6 n7=>uq 0 v5 fun v8=>uq 1 v5 fun v9=>yO [(I 0),.zn] h6 n7 fun vA hC nD=>yO [(I 0),.zn] hC nD fun vG hD nE=>zO 2 vA v8 hD nE fun vE hE nF=>zO 2 vG v9 hE nF fun vM hK nL=>K (F97.fr a b d vA) hK nL:=by kernel_rfl
theorem F97.qh:IR.run F97.t2 C N O K (F97.fr a b d e) h nx =
 zD 2 e h fun v1=>zO 2 d v1 h nx fun v2 h3 n4=>K (F97.fr a b d e) h3 n4:=by kernel_rfl
theorem F97.go:zS tbl N C (.of 97) [a0] h nx K0=IR.run F97.t5 C N (fnO F97.res K0) (yu F97.res K0) (F97.fr a0 .u .u .u) h nx:=yW (F:=F97) (by kernel_rfl) (fun _=>by kernel_rfl) (by kernel_rfl)
theorem F97.ret:yu F97.res K0 (F97.fr a b d e) h nx=zD 2 d h fun v1=>K0 v1 h nx:=by kernel_rfl
theorem jr.jk:IR.run jr.t0 C N O K (jr.fr a b d e f i o q y) h nx =
 K (jr.fr a b .zn e f i o q y) h nx:=by kernel_rfl
theorem jr.ji:IR.run jr.t1 C N O K (jr.fr a b d e f i o q y) h nx =
 C.fn 187 (.of 187) [a] h nx fun v1 h2 n3=>K (jr.fr a b d v1 f i o q y) h2 n3:=by kernel_rfl
theorem jr.qh:IR.run jr.t2 C N O K (jr.fr a b d e f i o q y) h nx =
 sLen b fun v1=>K (jr.fr a b d e f b v1 (I 0) y) h nx:=by kernel_rfl
theorem jr.nU:IR.run jr.t3 C N O K (jr.fr a b d e f i o q y) h nx =
 zh .lss .int q o fun v1=>K (jr.fr a b d e f i o q v1) h nx:=by kernel_rfl
theorem jr.v8:Arg.ev (.t (.of 8)) ⟨(jr.fr a b d e f i o q y),[]⟩=y:=by kernel_rfl
theorem jr.bV:IR.run jr.t5 C N O K (jr.fr a b d e f i o q y) h nx =
 zM 1 i q fun v1=>zH v1 h fun v2=>K (jr.fr a b d e v2 i o q y) h nx:=by kernel_rfl
theorem jr.bf:IR.run jr.t6 C N O K (jr.fr a b d e f i o q y) h nx =
 C.fn 89 (.of 89) [(I 1)] h nx fun v1 h2 n3=>zM 4 e f fun v4=>zO 4 v4 v1 h2 n3 fun v5 h6 n7=>K (jr.fr a b d e f i o q y) h6 n7:=by kernel_rfl
theorem jr.ax:IR.run jr.t9 C N O K (jr.fr a b d e f i o q y) h nx =
 zh .add .int q (I 1) fun v1=>K (jr.fr a b d e f i o v1 y) h nx:=by kernel_rfl
theorem jr.zom (Inv:Nat->AV->T Blk->Pa->Prop) {m:Nat} (hm:m<N) (hi:Inv m q h nx)
  (step:∀ (m:Nat) (z4 z7 z8:AV) (h:T Blk) (nx:Pa) (R:Ks Prop),Inv m z7 h nx->(∀ (m':Nat) (w4 w7 w8:AV) (h':T Blk) (nx':Pa),m'<m->Inv m' w7 h' nx'->R (jr.fr a b d e w4 i o w7 w8) h' nx'=.ok True)->IR.run jr.t12 C N O R (jr.fr a b d e z4 i o z7 z8) h nx=.ok True) :
  IR.run jr.t13 C N O K (jr.fr a b d e f i o q y) h nx=.ok True:=by
 rw [jr.t13];refine yD (fun m tm h nx=>∃ z4 z7 z8,tm=(jr.fr a b d e z4 i o z7 z8)/\Inv m z7 h nx) ?_ hm ⟨_,_,_,rfl,hi⟩;rintro m tm h nx R ⟨z4,z7,z8,rfl,hi⟩ hR;exact step m z4 z7 z8 h nx R hi fun m' w4 w7 w8 h' nx' hlt hi'=>hR m' _ h' nx' hlt ⟨_,_,_,rfl,hi'⟩
theorem jr.nZ:IR.run jr.t16 C N O K (jr.fr a b d e f i o q y) h nx =
 K (jr.fr a b e e f i o q y) h nx:=by kernel_rfl
theorem jr.go:zS tbl N C (.of 182) [a0,a1] h nx K0=IR.run jr.t20 C N (fnO jr.res K0) (yu jr.res K0) (jr.fr a0 a1 .u .u .u .u .u .u .u) h nx:=yW (F:=jr) (by kernel_rfl) (fun _=>by kernel_rfl) (by kernel_rfl)
theorem jr.ret:yu jr.res K0 (jr.fr a b d e f i o q y) h nx=K0 d h nx:=by kernel_rfl
theorem jv.jk:IR.run jv.t0 C N O K (jv.fr a b d e f i o) h nx =
 K (jv.fr a .zn d e f i o) h nx:=by kernel_rfl
theorem jv.ji:IR.run jv.t1 C N O K (jv.fr a b d e f i o) h nx =
 uL 4 64 [(I 0),.zn,(I 0),.zn] a a h nx fun v1 h2 n3=>K (jv.fr a b v1 e f i o) h2 n3:=by kernel_rfl
theorem jv.qh:IR.run jv.t2 C N O K (jv.fr a b d e f i o) h nx =
 sLen d fun v1=>K (jv.fr a b d e v1 (I 0) o) h nx:=by kernel_rfl
theorem jv.nU:IR.run jv.t3 C N O K (jv.fr a b d e f i o) h nx =
 zh .lss .int i f fun v1=>K (jv.fr a b d e f i v1) h nx:=by kernel_rfl
theorem jv.v6:Arg.ev (.t (.of 6)) ⟨(jv.fr a b d e f i o),[]⟩=o:=by kernel_rfl
theorem jv.bV:IR.run jv.t5 C N O K (jv.fr a b d e f i o) h nx =
 K (jv.fr a b d i f i o) h nx:=by kernel_rfl
theorem jv.bf:IR.run jv.t6 C N O K (jv.fr a b d e f i o) h nx =
 C.fn 89 (.of 89) [(I 0)] h nx fun v1 h2 n3=>zM 4 d e fun v4=>zO 4 v4 v1 h2 n3 fun v5 h6 n7=>K (jv.fr a b d e f i o) h6 n7:=by kernel_rfl
theorem jv.ax:IR.run jv.t9 C N O K (jv.fr a b d e f i o) h nx =
 zh .add .int i (I 1) fun v1=>K (jv.fr a b d e f v1 o) h nx:=by kernel_rfl
theorem jv.zom (Inv:Nat->AV->T Blk->Pa->Prop) {m:Nat} (hm:m<N) (hi:Inv m i h nx)
  (step:∀ (m:Nat) (z3 z5 z6:AV) (h:T Blk) (nx:Pa) (R:Ks Prop),Inv m z5 h nx->(∀ (m':Nat) (w3 w5 w6:AV) (h':T Blk) (nx':Pa),m'<m->Inv m' w5 h' nx'->R (jv.fr a b d w3 f w5 w6) h' nx'=.ok True)->IR.run jv.t12 C N O R (jv.fr a b d z3 f z5 z6) h nx=.ok True) :
  IR.run jv.t13 C N O K (jv.fr a b d e f i o) h nx=.ok True:=by
 rw [jv.t13];refine yD (fun m tm h nx=>∃ z3 z5 z6,tm=(jv.fr a b d z3 f z5 z6)/\Inv m z5 h nx) ?_ hm ⟨_,_,_,rfl,hi⟩;rintro m tm h nx R ⟨z3,z5,z6,rfl,hi⟩ hR;exact step m z3 z5 z6 h nx R hi fun m' w3 w5 w6 h' nx' hlt hi'=>hR m' _ h' nx' hlt ⟨_,_,_,rfl,hi'⟩
theorem jv.nZ:IR.run jv.t16 C N O K (jv.fr a b d e f i o) h nx =
 K (jv.fr a d d e f i o) h nx:=by kernel_rfl
theorem jv.go:zS tbl N C (.of 187) [a0] h nx K0=IR.run jv.t20 C N (fnO jv.res K0) (yu jv.res K0) (jv.fr a0 .u .u .u .u .u .u) h nx:=yW (F:=jv) (by kernel_rfl) (fun _=>by kernel_rfl) (by kernel_rfl)
theorem jv.ret:yu jv.res K0 (jv.fr a b d e f i o) h nx=K0 b h nx:=by kernel_rfl
theorem gm.jk:IR.run gm.t0 C N O K (gm.fr a b d e f i o q y z c) h nx =
 xk b h nx fun v1 h2 n3=>K (gm.fr a b d v1 f i o q y z c) h2 n3:=by kernel_rfl
theorem gm.ji:IR.run gm.t1 C N O K (gm.fr a b d e f i o q y z c) h nx =
 sLen d fun v1=>K (gm.fr a b d e f i d v1 (I 0) z c) h nx:=by kernel_rfl
theorem gm.qh:IR.run gm.t2 C N O K (gm.fr a b d e f i o q y z c) h nx =
 zh .lss .int y q fun v1=>K (gm.fr a b d e f i o q y v1 c) h nx:=by kernel_rfl
theorem gm.v9:Arg.ev (.t (.of 9)) ⟨(gm.fr a b d e f i o q y z c),[]⟩=z:=by kernel_rfl
theorem gm.ny:IR.run gm.t4 C N O K (gm.fr a b d e f i o q y z c) h nx =
 zM 4 o y fun v1=>zD 4 v1 h fun v2=>yO [(I 0),.zn,(I 0),.zn] h nx fun v3 h4 n5=>zO 4 v3 v2 h4 n5 fun v6 h7 n8=>K (gm.fr a b d e y v3 o q y z c) h7 n8:=by kernel_rfl
theorem gm.bV:IR.run gm.t5 C N O K (gm.fr a b d e f i o q y z c) h nx =
 zD 4 i h fun v1=>C.fn 91 (.of 91) [v1] h nx fun v2 h3 n4=>zh .neq .int v2 (I 0) fun v5=>K (gm.fr a b d e f i o q y z v5) h3 n4:=by kernel_rfl
theorem gm.bf:IR.run gm.t6 C N O K (gm.fr a b d e f i o q y z c) h nx =
 zM 4 a f fun v1=>zD 4 v1 h fun v2=>zD 4 e h fun v3=>zD 4 i h fun v4=>C.fn 96 (.of 96) [v3,v4] h nx fun v5 h6 n7=>(zD 4 v1 h6 fun vE=>zP vE v2 ((zM 4 a f fun vF=>zP vF v1 (zP f f (zP a a (zP f f (zP a a (C.fn 264 (.of 264) [v2,v5] h6 n7 fun v8 h9 nC=>zP f f (zP a a (zM 4 a f fun vB=>zO 4 vB v8 h9 nC fun vH hF nG=>K (gm.fr a b d e f i o q y z c) hF nG)))))))))):=by kernel_rfl
theorem gm.v10:Arg.ev (.t (.of 10)) ⟨(gm.fr a b d e f i o q y z c),[]⟩=c:=by kernel_rfl
theorem gm.fM:IR.run gm.t11 C N O K (gm.fr a b d e f i o q y z c) h nx =
 zh .add .int y (I 1) fun v1=>K (gm.fr a b d e f i o q v1 z c) h nx:=by kernel_rfl
theorem gm.zon (Inv:Nat->AV->T Blk->Pa->Prop) {m:Nat} (hm:m<N) (hi:Inv m y h nx)
  (step:∀ (m:Nat) (z4 z5 z8 z9 zA:AV) (h:T Blk) (nx:Pa) (R:Ks Prop),Inv m z8 h nx->(∀ (m':Nat) (w4 w5 w8 w9 wA:AV) (h':T Blk) (nx':Pa),m'<m->Inv m' w8 h' nx'->R (gm.fr a b d e w4 w5 o q w8 w9 wA) h' nx'=.ok True)->IR.run gm.t14 C N O R (gm.fr a b d e z4 z5 o q z8 z9 zA) h nx=.ok True) :
  IR.run gm.t15 C N O K (gm.fr a b d e f i o q y z c) h nx=.ok True:=by
 rw [gm.t15];refine yD (fun m tm h nx=>∃ z4 z5 z8 z9 zA,tm=(gm.fr a b d e z4 z5 o q z8 z9 zA)/\Inv m z8 h nx) ?_ hm ⟨_,_,_,_,_,rfl,hi⟩;rintro m tm h nx R ⟨z4,z5,z8,z9,zA,rfl,hi⟩ hR;exact step m z4 z5 z8 z9 zA h nx R hi fun m' w4 w5 w8 w9 wA h' nx' hlt hi'=>hR m' _ h' nx' hlt ⟨_,_,_,_,_,rfl,hi'⟩
theorem gm.go:zS tbl N C (.of 183) [a0,a1,a2] h nx K0=IR.run gm.t18 C N (fnO gm.res K0) (yu gm.res K0) (gm.fr a0 a1 a2 .u .u .u .u .u .u .u .u) h nx:=yW (F:=gm) (by kernel_rfl) (fun _=>by kernel_rfl) (by kernel_rfl)
theorem gm.ret:yu gm.res K0 (gm.fr a b d e f i o q y z c) h nx=K0 (.tup []) h nx:=by kernel_rfl
theorem gq.jk:IR.run gq.t0 C N O K (gq.fr a b d e f i o q y z) h nx =
 xk b h nx fun v1 h2 n3=>K (gq.fr a b v1 e f i o q y z) h2 n3:=by kernel_rfl
theorem gq.ji:IR.run gq.t1 C N O K (gq.fr a b d e f i o q y z) h nx =
 sLen a fun v1=>K (gq.fr a b d e f a v1 (I 0) y z) h nx:=by kernel_rfl
theorem gq.qh:IR.run gq.t2 C N O K (gq.fr a b d e f i o q y z) h nx =
 zh .lss .int q o fun v1=>K (gq.fr a b d e f i o q v1 z) h nx:=by kernel_rfl
theorem gq.v8:Arg.ev (.t (.of 8)) ⟨(gq.fr a b d e f i o q y z),[]⟩=y:=by kernel_rfl
theorem gq.ny:IR.run gq.t4 C N O K (gq.fr a b d e f i o q y z) h nx =
 zM 4 i q fun v1=>zD 4 v1 h fun v2=>yO [(I 0),.zn,(I 0),.zn] h nx fun v3 h4 n5=>zO 4 v3 v2 h4 n5 fun v6 h7 n8=>K (gq.fr a b d q v3 i o q y z) h7 n8:=by kernel_rfl
theorem gq.bV:IR.run gq.t5 C N O K (gq.fr a b d e f i o q y z) h nx =
 zD 4 f h fun v1=>C.fn 91 (.of 91) [v1] h nx fun v2 h3 n4=>zh .neq .int v2 (I 0) fun v5=>K (gq.fr a b d e f i o q y v5) h3 n4:=by kernel_rfl
theorem gq.bf:IR.run gq.t6 C N O K (gq.fr a b d e f i o q y z) h nx =
 zD 4 f h fun v1=>zD 4 d h fun v2=>C.fn 96 (.of 96) [v1,v2] h nx fun v3 h4 n5=>zM 4 a e fun v6=>zO 4 v6 v3 h4 n5 fun v7 h8 n9=>K (gq.fr a b d e f i o q y z) h8 n9:=by kernel_rfl
theorem gq.v9:Arg.ev (.t (.of 9)) ⟨(gq.fr a b d e f i o q y z),[]⟩=z:=by kernel_rfl
theorem gq.fM:IR.run gq.t11 C N O K (gq.fr a b d e f i o q y z) h nx =
 zh .add .int q (I 1) fun v1=>K (gq.fr a b d e f i o v1 y z) h nx:=by kernel_rfl
theorem gq.zon (Inv:Nat->AV->T Blk->Pa->Prop) {m:Nat} (hm:m<N) (hi:Inv m q h nx)
  (step:∀ (m:Nat) (z3 z4 z7 z8 z9:AV) (h:T Blk) (nx:Pa) (R:Ks Prop),Inv m z7 h nx->(∀ (m':Nat) (w3 w4 w7 w8 w9:AV) (h':T Blk) (nx':Pa),m'<m->Inv m' w7 h' nx'->R (gq.fr a b d w3 w4 i o w7 w8 w9) h' nx'=.ok True)->IR.run gq.t14 C N O R (gq.fr a b d z3 z4 i o z7 z8 z9) h nx=.ok True) :
  IR.run gq.t15 C N O K (gq.fr a b d e f i o q y z) h nx=.ok True:=by
 rw [gq.t15];refine yD (fun m tm h nx=>∃ z3 z4 z7 z8 z9,tm=(gq.fr a b d z3 z4 i o z7 z8 z9)/\Inv m z7 h nx) ?_ hm ⟨_,_,_,_,_,rfl,hi⟩;rintro m tm h nx R ⟨z3,z4,z7,z8,z9,rfl,hi⟩ hR;exact step m z3 z4 z7 z8 z9 h nx R hi fun m' w3 w4 w7 w8 w9 h' nx' hlt hi'=>hR m' _ h' nx' hlt ⟨_,_,_,_,_,rfl,hi'⟩
theorem gq.go:zS tbl N C (.of 184) [a0,a1] h nx K0=IR.run gq.t18 C N (fnO gq.res K0) (yu gq.res K0) (gq.fr a0 a1 .u .u .u .u .u .u .u .u) h nx:=yW (F:=gq) (by kernel_rfl) (fun _=>by kernel_rfl) (by kernel_rfl)
theorem gq.ret:yu gq.res K0 (gq.fr a b d e f i o q y z) h nx=K0 (.tup []) h nx:=by kernel_rfl
theorem fF.jk:IR.run fF.t0 C N O K (fF.fr a b d) h nx =
 K (fF.fr a b (.bool false)) h nx:=by kernel_rfl
theorem fF.ji:IR.run fF.t1 C N O K (fF.fr a b d) h nx =
 C.fn 265 (.of 265) [a,b] h nx fun v1 h2 n3=>zh .geq .int v1 (I 0) fun v4=>K (fF.fr a b v4) h2 n3:=by kernel_rfl
theorem fF.go:zS tbl N C (.of 186) [a0,a1] h nx K0=IR.run fF.t3 C N (fnO fF.res K0) (yu fF.res K0) (fF.fr a0 a1 .u) h nx:=yW (F:=fF) (by kernel_rfl) (fun _=>by kernel_rfl) (by kernel_rfl)
theorem fF.ret:yu fF.res K0 (fF.fr a b d) h nx=K0 d h nx:=by kernel_rfl
theorem jm.jk:IR.run jm.t0 C N O K (jm.fr a b d e f i o q) h nx =
 K (jm.fr a b (I 0) e f i o q) h nx:=by kernel_rfl
theorem jm.ji:IR.run jm.t1 C N O K (jm.fr a b d e f i o q) h nx =
 sLen a fun v1=>K (jm.fr a b d e v1 (I 0) o q) h nx:=by kernel_rfl
theorem jm.qh:IR.run jm.t2 C N O K (jm.fr a b d e f i o q) h nx =
 zh .lss .int i f fun v1=>K (jm.fr a b d e f i v1 q) h nx:=by kernel_rfl
theorem jm.v6:Arg.ev (.t (.of 6)) ⟨(jm.fr a b d e f i o q),[]⟩=o:=by kernel_rfl
theorem jm.ny:IR.run jm.t4 C N O K (jm.fr a b d e f i o q) h nx =
 K (jm.fr a b d i f i o q) h nx:=by kernel_rfl
theorem jm.bV:IR.run jm.t5 C N O K (jm.fr a b d e f i o q) h nx =
 zM 1 a e fun v1=>zH v1 h fun v2=>zh .eql .int b v2 fun v3=>K (jm.fr a b d e f i o v3) h nx:=by kernel_rfl
theorem jm.bf:IR.run jm.t6 C N O K (jm.fr a b d e f i o q) h nx =
 K (jm.fr a b e e f i o q) h nx:=by kernel_rfl
theorem jm.v7:Arg.ev (.t (.of 7)) ⟨(jm.fr a b d e f i o q),[]⟩=q:=by kernel_rfl
theorem jm.nS:IR.run jm.t12 C N O K (jm.fr a b d e f i o q) h nx =
 zh .add .int i (I 1) fun v1=>K (jm.fr a b d e f v1 o q) h nx:=by kernel_rfl
theorem jm.zoo (Inv:Nat->AV->T Blk->Pa->Prop) {m:Nat} (hm:m<N) (hi:Inv m i h nx)
  (step:∀ (m:Nat) (z2 z3 z5 z6 z7:AV) (h:T Blk) (nx:Pa) (R:Ks Prop),Inv m z5 h nx->(∀ (m':Nat) (w2 w3 w5 w6 w7:AV) (h':T Blk) (nx':Pa),m'<m->Inv m' w5 h' nx'->R (jm.fr a b w2 w3 f w5 w6 w7) h' nx'=.ok True)->IR.run jm.t15 C N O R (jm.fr a b z2 z3 f z5 z6 z7) h nx=.ok True) :
  IR.run jm.t16 C N O K (jm.fr a b d e f i o q) h nx=.ok True:=by
 rw [jm.t16];refine yD (fun m tm h nx=>∃ z2 z3 z5 z6 z7,tm=(jm.fr a b z2 z3 f z5 z6 z7)/\Inv m z5 h nx) ?_ hm ⟨_,_,_,_,_,rfl,hi⟩;rintro m tm h nx R ⟨z2,z3,z5,z6,z7,rfl,hi⟩ hR;exact step m z2 z3 z5 z6 z7 h nx R hi fun m' w2 w3 w5 w6 w7 h' nx' hlt hi'=>hR m' _ h' nx' hlt ⟨_,_,_,_,_,rfl,hi'⟩
theorem jm.sV:IR.run jm.t19 C N O K (jm.fr a b d e f i o q) h nx =
 K (jm.fr a b (I (-1)) e f i o q) h nx:=by kernel_rfl
theorem jm.go:zS tbl N C (.of 265) [a0,a1] h nx K0=IR.run jm.t22 C N (fnO jm.res K0) (yu jm.res K0) (jm.fr a0 a1 .u .u .u .u .u .u) h nx:=yW (F:=jm) (by kernel_rfl) (fun _=>by kernel_rfl) (by kernel_rfl)
theorem jm.ret:yu jm.res K0 (jm.fr a b d e f i o q) h nx=K0 d h nx:=by kernel_rfl
theorem F32.zak (X3:IR) (C:Calls Prop) (N:Nat) (O:dw Prop) (K:Ks Prop) (a b d e f i o:AV) (h:T Blk) (nx:Pa):IR.run (F32.g2 X3) C N O K (F32.fr a b d e f i o) h nx =
 IR.run X3 C N (O.blk 0 K) K (F32.fr a b d e f i o) h nx:=by kernel_rfl
theorem F32.tab:T.get none (.of 32) tbl=some F32:=by kernel_rfl
theorem F32.go:zS tbl N C (.of 32) [a0,a1] h nx K0 =
 sLen a0 fun v1=>sLen a1 fun v2=>zh .neq .int v1 v2 fun v3=>yG v3 (K0 (.bool false) h nx) (IR.run F32.b2 C N (fnO F32.res K0) (IR.run F32.b9 C N (fnO F32.res K0) (yu F32.res K0)) (F32.fr a0 a1 (.bool false) (I 0) v3 .u .u) h nx):=by
 rw [yI F32.tab];kernel_rfl
theorem F32.e2:IR.run F32.b4 C N ((fnO F32.res K0).blk 0 K) R (F32.fr a b d e f i o) h nx =
 sLen a fun v1=>zh .lss .int e v1 fun v2=>yG v2 (zM 1 a e fun v3=>zH v3 h fun v4=>zM 1 b e fun v5=>zH v5 h fun v6=>zh .neq .int v4 v6 fun v7=>yG v7 (K0 (.bool false) h nx) (zh .add .int e (I 1) fun v8=>R (F32.fr a b d v8 f v2 v7) h nx)) (K (F32.fr a b d e f v2 o) h nx):=by kernel_rfl
theorem F32.L2 (Inv:Nat->AV->T Blk->Pa->Prop) {m:Nat} (hm:m<N) (hi:Inv m e h nx)
  (step:∀ (m:Nat) (z2 z3 z5 z6:AV) (h:T Blk) (nx:Pa) (R:Ks Prop),Inv m z3 h nx->(∀ (m':Nat) (w2 w3 w5 w6:AV) (h':T Blk) (nx':Pa),m'<m->Inv m' w3 h' nx'->R (F32.fr a b w2 w3 f w5 w6) h' nx'=.ok True) ->
   (sLen a fun v1=>zh .lss .int z3 v1 fun v2=>yG v2 (zM 1 a z3 fun v3=>zH v3 h fun v4=>zM 1 b z3 fun v5=>zH v5 h fun v6=>zh .neq .int v4 v6 fun v7=>yG v7 (K0 (.bool false) h nx) (zh .add .int z3 (I 1) fun v8=>R (F32.fr a b z2 v8 f v2 v7) h nx)) (K (F32.fr a b z2 z3 f v2 z6) h nx))=.ok True) :
  IR.run F32.b2 C N (fnO F32.res K0) K (F32.fr a b d e f i o) h nx=.ok True:=by
 rw [F32.b2,F32.zak,F32.b3];refine yD (fun m tm h nx=>∃ z2 z3 z5 z6,tm=(F32.fr a b z2 z3 f z5 z6)/\Inv m z3 h nx) ?_ hm ⟨_,_,_,_,rfl,hi⟩;rintro m tm h nx R ⟨z2,z3,z5,z6,rfl,hi⟩ hR;rw [F32.e2];exact step m z2 z3 z5 z6 h nx R hi fun m' w2 w3 w5 w6 h' nx' hlt hi'=>hR m' _ h' nx' hlt ⟨_,_,_,_,rfl,hi'⟩
theorem F32.k9:IR.run F32.b9 C N (fnO F32.res K0) K (F32.fr a b d e f i o) h nx =
 K0 (.bool true) h nx:=by kernel_rfl
theorem aP.tab:T.get none (.of 263) tbl=some aP:=by kernel_rfl
theorem aP.go:zS tbl N C (.of 263) [a0,a1] h nx K0 =
 zH a1 h fun v1=>C.fn 113 (.of 113) [a0,v1] h nx fun v2 h3 n4=>K0 v2 h3 n4:=by
 rw [yI aP.tab];kernel_rfl
theorem aQ.tab:T.get none (.of 262) tbl=some aQ:=by kernel_rfl
theorem aQ.go:zS tbl N C (.of 262) [a0,a1] h nx K0 =
 C.fn 330 (.of 330) [a0,a1] h nx fun v1 h2 n3=>zh .geq .int v1 (I 0) fun v4=>K0 v4 h2 n3:=by
 rw [yI aQ.tab];kernel_rfl
theorem qm.sH (X2:IR) (C:Calls Prop) (N:Nat) (O:dw Prop) (K:Ks Prop) (a b d e f i o q:AV) (h:T Blk) (nx:Pa):IR.run (qm.g1 X2) C N O K (qm.fr a b d e f i o q) h nx =
 IR.run X2 C N (O.blk 0 K) K (qm.fr a b d e f i o q) h nx:=by kernel_rfl
theorem qm.tab:T.get none (.of 330) tbl=some qm:=by kernel_rfl
theorem qm.go:zS tbl N C (.of 330) [a0,a1] h nx K0 =
 sLen a0 fun v1=>IR.run qm.b1 C N (fnO qm.res K0) (IR.run qm.b8 C N (fnO qm.res K0) (yu qm.res K0)) (qm.fr a0 a1 (I 0) .u v1 (I 0) .u .u) h nx:=by
 rw [yI qm.tab];kernel_rfl
theorem qm.e1:IR.run qm.b3 C N ((fnO qm.res K0).blk 0 K) R (qm.fr a b d e f i o q) h nx =
 zh .lss .int i f fun v1=>yG v1 (zM 1 a i fun v2=>zH v2 h fun v3=>dN C b [v3] h nx fun v4 h5 n6=>yG v4 (K0 i h5 n6) (zh .add .int i (I 1) fun v7=>R (qm.fr a b d i f v7 v1 v4) h5 n6)) (K (qm.fr a b d e f i v1 q) h nx):=by kernel_rfl
theorem qm.L1 (Inv:Nat->AV->T Blk->Pa->Prop) {m:Nat} (hm:m<N) (hi:Inv m i h nx)
  (step:∀ (m:Nat) (z2 z3 z5 z6 z7:AV) (h:T Blk) (nx:Pa) (R:Ks Prop),Inv m z5 h nx->(∀ (m':Nat) (w2 w3 w5 w6 w7:AV) (h':T Blk) (nx':Pa),m'<m->Inv m' w5 h' nx'->R (qm.fr a b w2 w3 f w5 w6 w7) h' nx'=.ok True) ->
   (zh .lss .int z5 f fun v1=>yG v1 (zM 1 a z5 fun v2=>zH v2 h fun v3=>dN C b [v3] h nx fun v4 h5 n6=>yG v4 (K0 z5 h5 n6) (zh .add .int z5 (I 1) fun v7=>R (qm.fr a b z2 z5 f v7 v1 v4) h5 n6)) (K (qm.fr a b z2 z3 f z5 v1 z7) h nx))=.ok True) :
  IR.run qm.b1 C N (fnO qm.res K0) K (qm.fr a b d e f i o q) h nx=.ok True:=by
 rw [qm.b1,qm.sH,qm.b2];refine yD (fun m tm h nx=>∃ z2 z3 z5 z6 z7,tm=(qm.fr a b z2 z3 f z5 z6 z7)/\Inv m z5 h nx) ?_ hm ⟨_,_,_,_,_,rfl,hi⟩;rintro m tm h nx R ⟨z2,z3,z5,z6,z7,rfl,hi⟩ hR;rw [qm.e1];exact step m z2 z3 z5 z6 z7 h nx R hi fun m' w2 w3 w5 w6 w7 h' nx' hlt hi'=>hR m' _ h' nx' hlt ⟨_,_,_,_,_,rfl,hi'⟩
theorem qm.k8:IR.run qm.b8 C N (fnO qm.res K0) K (qm.fr a b d e f i o q) h nx =
 K0 (I (-1)) h nx:=by kernel_rfl
theorem qp.zak (X3:IR) (C:Calls Prop) (N:Nat) (O:dw Prop) (K:Ks Prop) (a b d e f i o q y:AV) (h:T Blk) (nx:Pa):IR.run (qp.g2 X3) C N O K (qp.fr a b d e f i o q y) h nx =
 IR.run X3 C N (O.blk 0 K) K (qp.fr a b d e f i o q y) h nx:=by kernel_rfl
theorem qp.tab:T.get none (.of 113) tbl=some qp:=by kernel_rfl
theorem qp.go:zS tbl N C (.of 113) [a0,a1] h nx K0 =
 sLen a0 fun v1=>sLen a1 fun v2=>zh .neq .int v1 v2 fun v3=>yG v3 (K0 (.bool false) h nx) (sLen a0 fun v4=>IR.run qp.b2 C N (fnO qp.res K0) (IR.run qp.b9 C N (fnO qp.res K0) (yu qp.res K0)) (qp.fr a0 a1 (.bool false) .u v3 v4 (I 0) .u .u) h nx):=by
 rw [yI qp.tab];kernel_rfl
theorem qp.e2:IR.run qp.b4 C N ((fnO qp.res K0).blk 0 K) R (qp.fr a b d e f i o q y) h nx =
 zh .lss .int o i fun v1=>yG v1 (zM 1 a o fun v2=>zH v2 h fun v3=>zM 1 b o fun v4=>zH v4 h fun v5=>zh .neq .int v3 v5 fun v6=>yG v6 (K0 (.bool false) h nx) (zh .add .int o (I 1) fun v7=>R (qp.fr a b d o f i v7 v1 v6) h nx)) (K (qp.fr a b d e f i o v1 y) h nx):=by kernel_rfl
theorem qp.L2 (Inv:Nat->AV->T Blk->Pa->Prop) {m:Nat} (hm:m<N) (hi:Inv m o h nx)
  (step:∀ (m:Nat) (z2 z3 z6 z7 z8:AV) (h:T Blk) (nx:Pa) (R:Ks Prop),Inv m z6 h nx->(∀ (m':Nat) (w2 w3 w6 w7 w8:AV) (h':T Blk) (nx':Pa),m'<m->Inv m' w6 h' nx'->R (qp.fr a b w2 w3 f i w6 w7 w8) h' nx'=.ok True) ->
   (zh .lss .int z6 i fun v1=>yG v1 (zM 1 a z6 fun v2=>zH v2 h fun v3=>zM 1 b z6 fun v4=>zH v4 h fun v5=>zh .neq .int v3 v5 fun v6=>yG v6 (K0 (.bool false) h nx) (zh .add .int z6 (I 1) fun v7=>R (qp.fr a b z2 z6 f i v7 v1 v6) h nx)) (K (qp.fr a b z2 z3 f i z6 v1 z8) h nx))=.ok True) :
  IR.run qp.b2 C N (fnO qp.res K0) K (qp.fr a b d e f i o q y) h nx=.ok True:=by
 rw [qp.b2,qp.zak,qp.b3];refine yD (fun m tm h nx=>∃ z2 z3 z6 z7 z8,tm=(qp.fr a b z2 z3 f i z6 z7 z8)/\Inv m z6 h nx) ?_ hm ⟨_,_,_,_,_,rfl,hi⟩;rintro m tm h nx R ⟨z2,z3,z6,z7,z8,rfl,hi⟩ hR;rw [qp.e2];exact step m z2 z3 z6 z7 z8 h nx R hi fun m' w2 w3 w6 w7 w8 h' nx' hlt hi'=>hR m' _ h' nx' hlt ⟨_,_,_,_,_,rfl,hi'⟩
theorem qp.k9:IR.run qp.b9 C N (fnO qp.res K0) K (qp.fr a b d e f i o q y) h nx =
 K0 (.bool true) h nx:=by kernel_rfl
theorem F86.sH (X2:IR) (C:Calls Prop) (N:Nat) (O:dw Prop) (K:Ks Prop) (a b d e f i:AV) (h:T Blk) (nx:Pa):IR.run (F86.g1 X2) C N O K (F86.fr a b d e f i) h nx =
 IR.run X2 C N (O.blk 0 K) K (F86.fr a b d e f i) h nx:=by kernel_rfl
theorem F86.tab:T.get none (.of 86) tbl=some F86:=by kernel_rfl
theorem F86.go:zS tbl N C (.of 86) [a0,a1] h nx K0 =
 IR.run F86.b1 C N (fnO F86.res K0) (IR.run F86.b8 C N (fnO F86.res K0) (yu F86.res K0)) (F86.fr a0 a1 (.bool false) (I 0) .u .u) h nx:=by
 rw [yI F86.tab];kernel_rfl
theorem F86.e1:IR.run F86.b3 C N ((fnO F86.res K0).blk 0 K) R (F86.fr a b d e f i) h nx =
 sLen a fun v1=>zh .lss .int e v1 fun v2=>yG v2 (zM 1 a e fun v3=>zH v3 h fun v4=>C.fn 32 (.of 32) [v4,b] h nx fun v5 h6 n7=>yG v5 (K0 (.bool true) h6 n7) (zh .add .int e (I 1) fun v8=>R (F86.fr a b d v8 v2 v5) h6 n7)) (K (F86.fr a b d e v2 i) h nx):=by kernel_rfl
theorem F86.L1 (Inv:Nat->AV->T Blk->Pa->Prop) {m:Nat} (hm:m<N) (hi:Inv m e h nx)
  (step:∀ (m:Nat) (z2 z3 z4 z5:AV) (h:T Blk) (nx:Pa) (R:Ks Prop),Inv m z3 h nx->(∀ (m':Nat) (w2 w3 w4 w5:AV) (h':T Blk) (nx':Pa),m'<m->Inv m' w3 h' nx'->R (F86.fr a b w2 w3 w4 w5) h' nx'=.ok True) ->
   (sLen a fun v1=>zh .lss .int z3 v1 fun v2=>yG v2 (zM 1 a z3 fun v3=>zH v3 h fun v4=>C.fn 32 (.of 32) [v4,b] h nx fun v5 h6 n7=>yG v5 (K0 (.bool true) h6 n7) (zh .add .int z3 (I 1) fun v8=>R (F86.fr a b z2 v8 v2 v5) h6 n7)) (K (F86.fr a b z2 z3 v2 z5) h nx))=.ok True) :
  IR.run F86.b1 C N (fnO F86.res K0) K (F86.fr a b d e f i) h nx=.ok True:=by
 rw [F86.b1,F86.sH,F86.b2];refine yD (fun m tm h nx=>∃ z2 z3 z4 z5,tm=(F86.fr a b z2 z3 z4 z5)/\Inv m z3 h nx) ?_ hm ⟨_,_,_,_,rfl,hi⟩;rintro m tm h nx R ⟨z2,z3,z4,z5,rfl,hi⟩ hR;rw [F86.e1];exact step m z2 z3 z4 z5 h nx R hi fun m' w2 w3 w4 w5 h' nx' hlt hi'=>hR m' _ h' nx' hlt ⟨_,_,_,_,rfl,hi'⟩
theorem F86.k8:IR.run F86.b8 C N (fnO F86.res K0) K (F86.fr a b d e f i) h nx =
 K0 (.bool false) h nx:=by kernel_rfl
theorem F63.sH (X2:IR) (C:Calls Prop) (N:Nat) (O:dw Prop) (K:Ks Prop) (a b d e f i o q:AV) (h:T Blk) (nx:Pa):IR.run (F63.g1 X2) C N O K (F63.fr a b d e f i o q) h nx =
 IR.run X2 C N (O.blk 0 K) K (F63.fr a b d e f i o q) h nx:=by kernel_rfl
theorem F63.tab:T.get none (.of 63) tbl=some F63:=by kernel_rfl
theorem F63.go:zS tbl N C (.of 63) [a0] h nx K0 =
 sLen a0 fun v1=>IR.run F63.b1 C N (fnO F63.res K0) (IR.run F63.b8 C N (fnO F63.res K0) (yu F63.res K0)) (F63.fr a0 (I 0) .u a0 v1 (I 0) .u .u) h nx:=by
 rw [yI F63.tab];kernel_rfl
theorem F63.e1:IR.run F63.b3 C N ((fnO F63.res K0).blk 0 K) R (F63.fr a b d e f i o q) h nx =
 zh .lss .int i f fun v1=>yG v1 (zM 1 e i fun v2=>zH v2 h fun v3=>zh .neq .int v3 (I 0) fun v4=>yG v4 (K0 v3 h nx) (zh .add .int i (I 1) fun v5=>R (F63.fr a b v3 e f v5 v1 v4) h nx)) (K (F63.fr a b d e f i v1 q) h nx):=by kernel_rfl
theorem F63.L1 (Inv:Nat->AV->T Blk->Pa->Prop) {m:Nat} (hm:m<N) (hi:Inv m i h nx)
  (step:∀ (m:Nat) (z1 z2 z5 z6 z7:AV) (h:T Blk) (nx:Pa) (R:Ks Prop),Inv m z5 h nx->(∀ (m':Nat) (w1 w2 w5 w6 w7:AV) (h':T Blk) (nx':Pa),m'<m->Inv m' w5 h' nx'->R (F63.fr a w1 w2 e f w5 w6 w7) h' nx'=.ok True) ->
   (zh .lss .int z5 f fun v1=>yG v1 (zM 1 e z5 fun v2=>zH v2 h fun v3=>zh .neq .int v3 (I 0) fun v4=>yG v4 (K0 v3 h nx) (zh .add .int z5 (I 1) fun v5=>R (F63.fr a z1 v3 e f v5 v1 v4) h nx)) (K (F63.fr a z1 z2 e f z5 v1 z7) h nx))=.ok True) :
  IR.run F63.b1 C N (fnO F63.res K0) K (F63.fr a b d e f i o q) h nx=.ok True:=by
 rw [F63.b1,F63.sH,F63.b2];refine yD (fun m tm h nx=>∃ z1 z2 z5 z6 z7,tm=(F63.fr a z1 z2 e f z5 z6 z7)/\Inv m z5 h nx) ?_ hm ⟨_,_,_,_,_,rfl,hi⟩;rintro m tm h nx R ⟨z1,z2,z5,z6,z7,rfl,hi⟩ hR;rw [F63.e1];exact step m z1 z2 z5 z6 z7 h nx R hi fun m' w1 w2 w5 w6 w7 h' nx' hlt hi'=>hR m' _ h' nx' hlt ⟨_,_,_,_,_,rfl,hi'⟩
theorem F63.k8:IR.run F63.b8 C N (fnO F63.res K0) K (F63.fr a b d e f i o q) h nx =
 K0 (I 0) h nx:=by kernel_rfl
theorem F64.tab:T.get none (.of 64) tbl=some F64:=by kernel_rfl
theorem F64.go:zS tbl N C (.of 64) [a0,a1] h nx K0 =
 yG a0 (K0 a1 h nx) (K0 (I 0) h nx):=by
 rw [yI F64.tab];kernel_rfl
theorem F20.zyl (X11:IR) (C:Calls Prop) (N:Nat) (O:dw Prop) (K:Ks Prop) (a b d e f i o q y z c g p l:AV) (h:T Blk) (nx:Pa):IR.run (F20.g10 X11) C N O K (F20.fr a b d e f i o q y z c g p l) h nx =
 IR.run X11 C N (O.blk 2 K) K (F20.fr a b d e f i o q y z c g p l) h nx:=by kernel_rfl
theorem F20.qa9 (X4:IR) (C:Calls Prop) (N:Nat) (O:dw Prop) (K:Ks Prop) (a b d e f i o q y z c g p l:AV) (h:T Blk) (nx:Pa):IR.run (F20.g3 X4) C N O K (F20.fr a b d e f i o q y z c g p l) h nx =
 IR.run X4 C N (O.blk 0 K) K (F20.fr a b d e f i o q y z c g p l) h nx:=by kernel_rfl
theorem F20.tab:T.get none (.of 20) tbl=some F20:=by kernel_rfl
theorem F20.go:zS tbl N C (.of 20) [a0] h nx K0 =
 xk a0 h nx fun v1 h2 n3=>zJ 0 v1 fun v4=>zH v4 h2 fun v5=>zh .lss .int v5 (I 1) fun v6=>sG v6 false (fun k=>zJ 0 v1 k) fun v7=>sG v6 false (fun k=>zH v7 h2 k) fun v8=>sG v6 false (fun k=>zh .gtr .int v8 (I 256) k) fun v9=>jD v6 (.bool true) v9 fun vA=>yG vA (K0 (I 3) h2 n3) (zJ 1 v1 fun vB=>zH vB h2 fun vH=>sLen vH fun vG=>zh .gtr .int vG (I 128) fun vC=>yG vC (K0 (I 5) h2 n3) (IR.run F20.b3 C N (fnO F20.res K0) (IR.run F20.b20 C N (fnO F20.res K0) (yu F20.res K0)) (F20.fr a0 v1 (I 0) (I 0) .u .u vA vC .u .u .u .u .u .u) h2 n3)):=by
 rw [yI F20.tab];kernel_rfl
theorem F20.e3:IR.run F20.b5 C N ((fnO F20.res K0).blk 0 K) R (F20.fr a b d e f i o q y z c g p l) h nx =
 zJ 1 b fun v1=>zH v1 h fun v2=>sLen v2 fun v3=>zh .lss .int e v3 fun v4=>yG v4 (zJ 1 b fun v5=>zH v5 h fun v6=>zM 1 v6 e fun v7=>zH v7 h fun v8=>sLen v8 fun v9=>zh .eql .int v9 (I 0) fun vA=>yG vA (K0 (I 12) h nx) (IR.run F20.b10 C N (((fnO F20.res K0).blk 0 K).blk 1 (IR.run F20.b19 C N ((fnO F20.res K0).blk 0 K) R)) (IR.run F20.b18 C N (((fnO F20.res K0).blk 0 K).blk 1 (IR.run F20.b19 C N ((fnO F20.res K0).blk 0 K) R)) (IR.run F20.b19 C N ((fnO F20.res K0).blk 0 K) R)) (F20.fr a b d e v8 (I 0) o q v4 vA c g p l) h nx)) (K (F20.fr a b d e f i o q v4 z c g p l) h nx):=by kernel_rfl
theorem F20.L3 (Inv:Nat->AV->T Blk->Pa->Prop) {m:Nat} (hm:m<N) (hi:Inv m e h nx)
  (step:∀ (m:Nat) (z2 z3 z4 z5 z8 z9 zA zB zL zQ:AV) (h:T Blk) (nx:Pa) (R:Ks Prop),Inv m z3 h nx->(∀ (m':Nat) (w2 w3 w4 w5 w8 w9 wA wB wI wJ:AV) (h':T Blk) (nx':Pa),m'<m->Inv m' w3 h' nx'->R (F20.fr a b w2 w3 w4 w5 o q w8 w9 wA wB wI wJ) h' nx'=.ok True) ->
   (zJ 1 b fun v1=>zH v1 h fun v2=>sLen v2 fun v3=>zh .lss .int z3 v3 fun v4=>yG v4 (zJ 1 b fun v5=>zH v5 h fun v6=>zM 1 v6 z3 fun v7=>zH v7 h fun v8=>sLen v8 fun v9=>zh .eql .int v9 (I 0) fun vA=>yG vA (K0 (I 12) h nx) (IR.run F20.b10 C N (((fnO F20.res K0).blk 0 K).blk 1 (IR.run F20.b19 C N ((fnO F20.res K0).blk 0 K) R)) (IR.run F20.b18 C N (((fnO F20.res K0).blk 0 K).blk 1 (IR.run F20.b19 C N ((fnO F20.res K0).blk 0 K) R)) (IR.run F20.b19 C N ((fnO F20.res K0).blk 0 K) R)) (F20.fr a b z2 z3 v8 (I 0) o q v4 vA zA zB zL zQ) h nx)) (K (F20.fr a b z2 z3 z4 z5 o q v4 z9 zA zB zL zQ) h nx))=.ok True) :
  IR.run F20.b3 C N (fnO F20.res K0) K (F20.fr a b d e f i o q y z c g p l) h nx=.ok True:=by
 rw [F20.b3,F20.qa9,F20.b4];refine yD (fun m tm h nx=>∃ z2 z3 z4 z5 z8 z9 zA zB zL zQ,tm=(F20.fr a b z2 z3 z4 z5 o q z8 z9 zA zB zL zQ)/\Inv m z3 h nx) ?_ hm ⟨_,_,_,_,_,_,_,_,_,_,rfl,hi⟩;rintro m tm h nx R ⟨z2,z3,z4,z5,z8,z9,zA,zB,zL,zQ,rfl,hi⟩ hR;rw [F20.e3];exact step m z2 z3 z4 z5 z8 z9 zA zB zL zQ h nx R hi fun m' w2 w3 w4 w5 w8 w9 wA wB wI wJ h' nx' hlt hi'=>hR m' _ h' nx' hlt ⟨_,_,_,_,_,_,_,_,_,_,rfl,hi'⟩
theorem F20.k20:IR.run F20.b20 C N (fnO F20.res K0) K (F20.fr a b d e f i o q y z c g p l) h nx =
 K0 (I 0) h nx:=by kernel_rfl
theorem F20.k19 {E0:Ks Prop}:IR.run F20.b19 C N ((fnO F20.res K0).blk 0 E0) K (F20.fr a b d e f i o q y z c g p l) h nx =
 zh .add .int e (I 1) fun v1=>K (F20.fr a b d v1 f i o q y z c g p l) h nx:=by kernel_rfl
theorem F20.e10 {E0 E1:Ks Prop}:IR.run F20.b12 C N ((((fnO F20.res K0).blk 0 E0).blk 1 E1).blk 2 K) R (F20.fr a b d e f i o q y z c g p l) h nx =
 sLen f fun v1=>zh .lss .int i v1 fun v2=>yG v2 (zM 1 f i fun v3=>zH v3 h fun v4=>zh .lss .int v4 (I 0) fun v5=>sG v5 false (fun k=>k f) fun v6=>sG v5 false (fun k=>k i) fun v7=>sG v5 false (fun k=>zM 1 v6 v7 k) fun v8=>sG v5 false (fun k=>zH v8 h k) fun v9=>sG v5 false (fun k=>zJ 0 b k) fun vA=>sG v5 false (fun k=>zH vA h k) fun vB=>sG v5 false (fun k=>zh .geq .int v9 vB k) fun vH=>jD v5 (.bool true) vH fun vG=>yG vG (K0 (I 10) h nx) ((IR.run F20.b16 C N (((((fnO F20.res K0).blk 0 E0).blk 1 E1).blk 2 K).blk 3 (IR.run F20.b17 C N ((((fnO F20.res K0).blk 0 E0).blk 1 E1).blk 2 K) R)) (IR.run F20.b17 C N ((((fnO F20.res K0).blk 0 E0).blk 1 E1).blk 2 K) R)) (F20.fr a b d e f i o q y z v2 vG p l) h nx)) (K (F20.fr a b d e f i o q y z v2 g p l) h nx):=by kernel_rfl
theorem F20.L10 {E0 E1:Ks Prop} (Inv:Nat->AV->T Blk->Pa->Prop) {m:Nat} (hm:m<N) (hi:Inv m i h nx)
  (step:∀ (m:Nat) (z2 z5 zA zB zL:AV) (h:T Blk) (nx:Pa) (R:Ks Prop),Inv m z5 h nx->(∀ (m':Nat) (w2 w5 wA wB wI:AV) (h':T Blk) (nx':Pa),m'<m->Inv m' w5 h' nx'->R (F20.fr a b w2 e f w5 o q y z wA wB wI l) h' nx'=.ok True) ->
   (sLen f fun v1=>zh .lss .int z5 v1 fun v2=>yG v2 (zM 1 f z5 fun v3=>zH v3 h fun v4=>zh .lss .int v4 (I 0) fun v5=>sG v5 false (fun k=>k f) fun v6=>sG v5 false (fun k=>k z5) fun v7=>sG v5 false (fun k=>zM 1 v6 v7 k) fun v8=>sG v5 false (fun k=>zH v8 h k) fun v9=>sG v5 false (fun k=>zJ 0 b k) fun vA=>sG v5 false (fun k=>zH vA h k) fun vB=>sG v5 false (fun k=>zh .geq .int v9 vB k) fun vH=>jD v5 (.bool true) vH fun vG=>yG vG (K0 (I 10) h nx) ((IR.run F20.b16 C N (((((fnO F20.res K0).blk 0 E0).blk 1 E1).blk 2 K).blk 3 (IR.run F20.b17 C N ((((fnO F20.res K0).blk 0 E0).blk 1 E1).blk 2 K) R)) (IR.run F20.b17 C N ((((fnO F20.res K0).blk 0 E0).blk 1 E1).blk 2 K) R)) (F20.fr a b z2 e f z5 o q y z v2 vG zL l) h nx)) (K (F20.fr a b z2 e f z5 o q y z v2 zB zL l) h nx))=.ok True) :
  IR.run F20.b10 C N (((fnO F20.res K0).blk 0 E0).blk 1 E1) K (F20.fr a b d e f i o q y z c g p l) h nx=.ok True:=by
 rw [F20.b10,F20.zyl,F20.b11];refine yD (fun m tm h nx=>∃ z2 z5 zA zB zL,tm=(F20.fr a b z2 e f z5 o q y z zA zB zL l)/\Inv m z5 h nx) ?_ hm ⟨_,_,_,_,_,rfl,hi⟩;rintro m tm h nx R ⟨z2,z5,zA,zB,zL,rfl,hi⟩ hR;rw [F20.e10];exact step m z2 z5 zA zB zL h nx R hi fun m' w2 w5 wA wB wI h' nx' hlt hi'=>hR m' _ h' nx' hlt ⟨_,_,_,_,_,rfl,hi'⟩
theorem F20.k18 {E0 E1:Ks Prop}:IR.run F20.b18 C N (((fnO F20.res K0).blk 0 E0).blk 1 E1) K (F20.fr a b d e f i o q y z c g p l) h nx =
 zJ 1 b fun v1=>zH v1 h fun v2=>kX 1 v2 none (some e) none fun v3=>C.fn 86 (.of 86) [v3,f] h nx fun v4 h5 n6=>yG v4 (K0 (I 9) h5 n6) (K (F20.fr a b d e f i o q y z c g p v4) h5 n6):=by kernel_rfl
theorem F20.k17 {E0 E1 E2:Ks Prop}:IR.run F20.b17 C N ((((fnO F20.res K0).blk 0 E0).blk 1 E1).blk 2 E2) K (F20.fr a b d e f i o q y z c g p l) h nx =
 zh .add .int i (I 1) fun v1=>K (F20.fr a b d e f v1 o q y z c g p l) h nx:=by kernel_rfl
theorem F20.k16 {E0 E1 E2 E3:Ks Prop}:IR.run F20.b16 C N (((((fnO F20.res K0).blk 0 E0).blk 1 E1).blk 2 E2).blk 3 E3) K (F20.fr a b d e f i o q y z c g p l) h nx =
 zh .gtr .int i (I 0) fun v1=>sG v1 true (fun k=>k f) fun v2=>sG v1 true (fun k=>k i) fun v3=>sG v1 true (fun k=>zM 1 v2 v3 k) fun v4=>sG v1 true (fun k=>zH v4 h k) fun v5=>sG v1 true (fun k=>k f) fun v6=>sG v1 true (fun k=>k i) fun v7=>sG v1 true (fun k=>zh .sub .int v7 (I 1) k) fun v8=>sG v1 true (fun k=>zM 1 v6 v8 k) fun v9=>sG v1 true (fun k=>zH v9 h k) fun vA=>sG v1 true (fun k=>zh .leq .int v5 vA k) fun vB=>jD v1 vB (.bool false) fun vH=>yG vH (K0 (I 11) h nx) (K (F20.fr a b d e f i o q y z c g vH l) h nx):=by kernel_rfl
theorem F65.tab:T.get none (.of 65) tbl=some F65:=by kernel_rfl
theorem F65.go:zS tbl N C (.of 65) [a0,a1,a2] h nx K0 =
 xk a0 h nx fun v1 h2 n3=>xk a1 h2 n3 fun v4 h5 n6=>C.fn 127 (.of 127) [a2,(.fn 160 (.of 160) [v1,v4])] h5 n6 fun v7 h8 n9=>C.fn 64 (.of 64) [v7,(I 3)] h8 n9 fun vA hC nD=>K0 vA hC nD:=by
 rw [yI F65.tab];kernel_rfl
theorem aS.tab:T.get none (.of 160) tbl=some aS:=by kernel_rfl
theorem aS.go:zS tbl N C (.of 160) [a0,a1,a2] h nx K0 =
 zH a1 h fun v1=>zh .lss .int a0 v1 fun v2=>sG v2 false (fun k=>k a0) fun v3=>sG v2 false (fun k=>zH a2 h k) fun v4=>sG v2 false (fun k=>zh .gtr .int v3 v4 k) fun v5=>jD v2 (.bool true) v5 fun v6=>K0 v6 h nx:=by
 rw [yI aS.tab];kernel_rfl
theorem aT.tab:T.get none (.of 127) tbl=some aT:=by kernel_rfl
theorem aT.go:zS tbl N C (.of 127) [a0,a1] h nx K0 =
 C.fn 167 (.of 167) [a0,a1] h nx fun v1 h2 n3=>zh .geq .int v1 (I 0) fun v4=>K0 v4 h2 n3:=by
 rw [yI aT.tab];kernel_rfl
theorem qw.sH (X2:IR) (C:Calls Prop) (N:Nat) (O:dw Prop) (K:Ks Prop) (a b d e f i o q:AV) (h:T Blk) (nx:Pa):IR.run (qw.g1 X2) C N O K (qw.fr a b d e f i o q) h nx =
 IR.run X2 C N (O.blk 0 K) K (qw.fr a b d e f i o q) h nx:=by kernel_rfl
theorem qw.tab:T.get none (.of 167) tbl=some qw:=by kernel_rfl
theorem qw.go:zS tbl N C (.of 167) [a0,a1] h nx K0 =
 sLen a0 fun v1=>IR.run qw.b1 C N (fnO qw.res K0) (IR.run qw.b8 C N (fnO qw.res K0) (yu qw.res K0)) (qw.fr a0 a1 (I 0) .u v1 (I 0) .u .u) h nx:=by
 rw [yI qw.tab];kernel_rfl
theorem qw.e1:IR.run qw.b3 C N ((fnO qw.res K0).blk 0 K) R (qw.fr a b d e f i o q) h nx =
 zh .lss .int i f fun v1=>yG v1 (zM 1 a i fun v2=>zH v2 h fun v3=>dN C b [v3] h nx fun v4 h5 n6=>yG v4 (K0 i h5 n6) (zh .add .int i (I 1) fun v7=>R (qw.fr a b d i f v7 v1 v4) h5 n6)) (K (qw.fr a b d e f i v1 q) h nx):=by kernel_rfl
theorem qw.L1 (Inv:Nat->AV->T Blk->Pa->Prop) {m:Nat} (hm:m<N) (hi:Inv m i h nx)
  (step:∀ (m:Nat) (z2 z3 z5 z6 z7:AV) (h:T Blk) (nx:Pa) (R:Ks Prop),Inv m z5 h nx->(∀ (m':Nat) (w2 w3 w5 w6 w7:AV) (h':T Blk) (nx':Pa),m'<m->Inv m' w5 h' nx'->R (qw.fr a b w2 w3 f w5 w6 w7) h' nx'=.ok True) ->
   (zh .lss .int z5 f fun v1=>yG v1 (zM 1 a z5 fun v2=>zH v2 h fun v3=>dN C b [v3] h nx fun v4 h5 n6=>yG v4 (K0 z5 h5 n6) (zh .add .int z5 (I 1) fun v7=>R (qw.fr a b z2 z5 f v7 v1 v4) h5 n6)) (K (qw.fr a b z2 z3 f z5 v1 z7) h nx))=.ok True) :
  IR.run qw.b1 C N (fnO qw.res K0) K (qw.fr a b d e f i o q) h nx=.ok True:=by
 rw [qw.b1,qw.sH,qw.b2];refine yD (fun m tm h nx=>∃ z2 z3 z5 z6 z7,tm=(qw.fr a b z2 z3 f z5 z6 z7)/\Inv m z5 h nx) ?_ hm ⟨_,_,_,_,_,rfl,hi⟩;rintro m tm h nx R ⟨z2,z3,z5,z6,z7,rfl,hi⟩ hR;rw [qw.e1];exact step m z2 z3 z5 z6 z7 h nx R hi fun m' w2 w3 w5 w6 w7 h' nx' hlt hi'=>hR m' _ h' nx' hlt ⟨_,_,_,_,_,rfl,hi'⟩
theorem qw.k8:IR.run qw.b8 C N (fnO qw.res K0) K (qw.fr a b d e f i o q) h nx =
 K0 (I (-1)) h nx:=by kernel_rfl
theorem F87.zak (X3:IR) (C:Calls Prop) (N:Nat) (O:dw Prop) (K:Ks Prop) (a b d e f i o q y z c:AV) (h:T Blk) (nx:Pa):IR.run (F87.g2 X3) C N O K (F87.fr a b d e f i o q y z c) h nx =
 IR.run X3 C N (O.blk 0 K) K (F87.fr a b d e f i o q y z c) h nx:=by kernel_rfl
theorem F87.tab:T.get none (.of 87) tbl=some F87:=by kernel_rfl
theorem F87.go:zS tbl N C (.of 87) [a0] h nx K0 =
 xk a0 h nx fun v1 h2 n3=>zJ 0 v1 fun v4=>zH v4 h2 fun v5=>zJ 1 v1 fun v6=>zH v6 h2 fun v7=>sLen v7 fun v8=>zh .gtr .int v8 (I 128) fun v9=>jH 1 1 [(I 0)] [(0,1,v5)] h2 n3 fun vA hC nD=>(zh .gtr .int v8 (I 128) fun vZ=>zP vZ v9 ((sLen v7 fun v35=>zP v35 v8 ((zH v6 hC fun v34=>zP v34 v7 ((zJ 1 v1 fun v33=>zP v33 v6 (C.fn 65 (.of 65) [(I 1),(I 256),vA] hC nD fun vG hD nE=>(zh .gtr .int v8 (I 128) fun v32=>zP v32 v9 ((sLen v7 fun v31=>zP v31 v8 ((zH v6 hD fun v30=>zP v30 v7 ((zJ 1 v1 fun v29=>zP v29 v6 (C.fn 64 (.of 64) [v9,(I 5)] hD nE fun vE hE nF=>jH 1 2 [(I 0)] [(0,1,vG),(1,1,vE)] hE nF fun vM hK nL=>C.fn 63 (.of 63) [vM] hK nL fun vJ hL nM=>zh .neq .int vJ (I 0) fun v25=>yG v25 (K0 vJ hL nM) (zJ 1 v1 fun v26=>zH v26 hL fun v27=>sLen v27 fun v28=>IR.run F87.b2 C N (fnO F87.res K0) (IR.run F87.b9 C N (fnO F87.res K0) (yu F87.res K0)) (F87.fr a0 v1 (I 0) vJ .u .u v25 v28 (I 0) .u .u) hL nM))))))))))))))))):=by
 rw [yI F87.tab];kernel_rfl
theorem F87.e2:IR.run F87.b4 C N ((fnO F87.res K0).blk 0 K) R (F87.fr a b d e f i o q y z c) h nx =
 zh .lss .int y q fun v1=>yG v1 (zD 2 b h fun v2=>C.fn 181 (.of 181) [v2,y] h nx fun v3 h4 n5=>zh .neq .int v3 (I 0) fun v6=>yG v6 (K0 v3 h4 n5) (zh .add .int y (I 1) fun v7=>R (F87.fr a b d e y v3 o q v7 v1 v6) h4 n5)) (K (F87.fr a b d e f i o q y v1 c) h nx):=by kernel_rfl
theorem F87.L2 (Inv:Nat->AV->T Blk->Pa->Prop) {m:Nat} (hm:m<N) (hi:Inv m y h nx)
  (step:∀ (m:Nat) (z2 z4 z5 z8 z9 zA:AV) (h:T Blk) (nx:Pa) (R:Ks Prop),Inv m z8 h nx->(∀ (m':Nat) (w2 w4 w5 w8 w9 wA:AV) (h':T Blk) (nx':Pa),m'<m->Inv m' w8 h' nx'->R (F87.fr a b w2 e w4 w5 o q w8 w9 wA) h' nx'=.ok True) ->
   (zh .lss .int z8 q fun v1=>yG v1 (zD 2 b h fun v2=>C.fn 181 (.of 181) [v2,z8] h nx fun v3 h4 n5=>zh .neq .int v3 (I 0) fun v6=>yG v6 (K0 v3 h4 n5) (zh .add .int z8 (I 1) fun v7=>R (F87.fr a b z2 e z8 v3 o q v7 v1 v6) h4 n5)) (K (F87.fr a b z2 e z4 z5 o q z8 v1 zA) h nx))=.ok True) :
  IR.run F87.b2 C N (fnO F87.res K0) K (F87.fr a b d e f i o q y z c) h nx=.ok True:=by
 rw [F87.b2,F87.zak,F87.b3];refine yD (fun m tm h nx=>∃ z2 z4 z5 z8 z9 zA,tm=(F87.fr a b z2 e z4 z5 o q z8 z9 zA)/\Inv m z8 h nx) ?_ hm ⟨_,_,_,_,_,_,rfl,hi⟩;rintro m tm h nx R ⟨z2,z4,z5,z8,z9,zA,rfl,hi⟩ hR;rw [F87.e2];exact step m z2 z4 z5 z8 z9 zA h nx R hi fun m' w2 w4 w5 w8 w9 wA h' nx' hlt hi'=>hR m' _ h' nx' hlt ⟨_,_,_,_,_,_,rfl,hi'⟩
theorem F87.k9:IR.run F87.b9 C N (fnO F87.res K0) K (F87.fr a b d e f i o q y z c) h nx =
 K0 (I 0) h nx:=by kernel_rfl
theorem qj.zak (X3:IR) (C:Calls Prop) (N:Nat) (O:dw Prop) (K:Ks Prop) (a b d e f i o q y z c g p l:AV) (h:T Blk) (nx:Pa):IR.run (qj.g2 X3) C N O K (qj.fr a b d e f i o q y z c g p l) h nx =
 IR.run X3 C N (O.blk 0 K) K (qj.fr a b d e f i o q y z c g p l) h nx:=by kernel_rfl
theorem qj.tab:T.get none (.of 181) tbl=some qj:=by kernel_rfl
theorem qj.go:zS tbl N C (.of 181) [a0,a1] h nx K0 =
 xk a0 h nx fun v1 h2 n3=>zJ 1 v1 fun v4=>zH v4 h2 fun v5=>zM 1 v5 a1 fun v6=>zH v6 h2 fun v7=>yO [.zn] h2 n3 fun v8 h9 nC=>zO 1 v8 v7 h9 nC fun vB hA nA=>zH v8 hA fun vC=>sLen vC fun vF=>zh .eql .int vF (I 0) fun vE=>yG vE (K0 (I 12) hA nA) (zH v8 hA fun vD=>sLen vD fun vO=>IR.run qj.b2 C N (fnO qj.res K0) (IR.run qj.b9 C N (fnO qj.res K0) (yu qj.res K0)) (qj.fr a0 a1 v1 (I 0) v8 .u .u .u vE vD vO (I 0) .u .u) hA nA):=by
 rw [yI qj.tab];kernel_rfl
theorem qj.e2:IR.run qj.b4 C N ((fnO qj.res K0).blk 0 K) R (qj.fr a b d e f i o q y z c g p l) h nx =
 zh .lss .int g c fun v1=>yG v1 (zM 1 z g fun v2=>zH v2 h fun v3=>zh .lss .int v3 (I 0) fun v4=>sG v4 false (fun k=>k v3) fun v5=>sG v4 false (fun k=>zJ 0 d k) fun v6=>sG v4 false (fun k=>zH v6 h k) fun v7=>sG v4 false (fun k=>zh .geq .int v5 v7 k) fun v8=>jD v4 (.bool true) v8 fun v9=>C.fn 64 (.of 64) [v9,(I 10)] h nx fun vA hC nD=>zh .gtr .int g (I 0) fun vG=>sG vG true (fun k=>zH f hC k) fun vC=>sG vG true (fun k=>k g) fun vF=>sG vG true (fun k=>zh .sub .int vF (I 1) k) fun vE=>sG vG true (fun k=>zM 1 vC vE k) fun vD=>sG vG true (fun k=>zH vD hC k) fun vO=>sG vG true (fun k=>k v3) fun vM=>sG vG true (fun k=>zh .geq .int vO vM k) fun vL=>jD vG vL (.bool false) fun vK=>C.fn 64 (.of 64) [vK,(I 11)] hC nD fun vJ hL nM=>jH 1 2 [(I 0)] [(0,1,vA),(1,1,vJ)] hL nM fun v25 hM nN=>C.fn 63 (.of 63) [v25] hM nN fun v28 hN nO=>zh .neq .int v28 (I 0) fun v31=>yG v31 (K0 v28 hN nO) (zh .add .int g (I 1) fun v32=>R (qj.fr a b d e f g v3 v28 y z c v32 v1 v31) hN nO)) (K (qj.fr a b d e f i o q y z c g v1 l) h nx):=by kernel_rfl
theorem qj.L2 (Inv:Nat->AV->T Blk->Pa->Prop) {m:Nat} (hm:m<N) (hi:Inv m g h nx)
  (step:∀ (m:Nat) (z3 z5 z6 z7 zB zL zQ:AV) (h:T Blk) (nx:Pa) (R:Ks Prop),Inv m zB h nx->(∀ (m':Nat) (w3 w5 w6 w7 wB wI wJ:AV) (h':T Blk) (nx':Pa),m'<m->Inv m' wB h' nx'->R (qj.fr a b d w3 f w5 w6 w7 y z c wB wI wJ) h' nx'=.ok True) ->
   (zh .lss .int zB c fun v1=>yG v1 (zM 1 z zB fun v2=>zH v2 h fun v3=>zh .lss .int v3 (I 0) fun v4=>sG v4 false (fun k=>k v3) fun v5=>sG v4 false (fun k=>zJ 0 d k) fun v6=>sG v4 false (fun k=>zH v6 h k) fun v7=>sG v4 false (fun k=>zh .geq .int v5 v7 k) fun v8=>jD v4 (.bool true) v8 fun v9=>C.fn 64 (.of 64) [v9,(I 10)] h nx fun vA hC nD=>zh .gtr .int zB (I 0) fun vG=>sG vG true (fun k=>zH f hC k) fun vC=>sG vG true (fun k=>k zB) fun vF=>sG vG true (fun k=>zh .sub .int vF (I 1) k) fun vE=>sG vG true (fun k=>zM 1 vC vE k) fun vD=>sG vG true (fun k=>zH vD hC k) fun vO=>sG vG true (fun k=>k v3) fun vM=>sG vG true (fun k=>zh .geq .int vO vM k) fun vL=>jD vG vL (.bool false) fun vK=>C.fn 64 (.of 64) [vK,(I 11)] hC nD fun vJ hL nM=>jH 1 2 [(I 0)] [(0,1,vA),(1,1,vJ)] hL nM fun v25 hM nN=>C.fn 63 (.of 63) [v25] hM nN fun v28 hN nO=>zh .neq .int v28 (I 0) fun v31=>yG v31 (K0 v28 hN nO) (zh .add .int zB (I 1) fun v32=>R (qj.fr a b d z3 f zB v3 v28 y z c v32 v1 v31) hN nO)) (K (qj.fr a b d z3 f z5 z6 z7 y z c zB v1 zQ) h nx))=.ok True) :
  IR.run qj.b2 C N (fnO qj.res K0) K (qj.fr a b d e f i o q y z c g p l) h nx=.ok True:=by
 rw [qj.b2,qj.zak,qj.b3];refine yD (fun m tm h nx=>∃ z3 z5 z6 z7 zB zL zQ,tm=(qj.fr a b d z3 f z5 z6 z7 y z c zB zL zQ)/\Inv m zB h nx) ?_ hm ⟨_,_,_,_,_,_,_,rfl,hi⟩;rintro m tm h nx R ⟨z3,z5,z6,z7,zB,zL,zQ,rfl,hi⟩ hR;rw [qj.e2];exact step m z3 z5 z6 z7 zB zL zQ h nx R hi fun m' w3 w5 w6 w7 wB wI wJ h' nx' hlt hi'=>hR m' _ h' nx' hlt ⟨_,_,_,_,_,_,_,rfl,hi'⟩
theorem qj.k9:IR.run qj.b9 C N (fnO qj.res K0) K (qj.fr a b d e f i o q y z c g p l) h nx =
 zJ 1 d fun v1=>zH v1 h fun v2=>kX 1 v2 none (some b) none fun v3=>C.fn 262 (.of 262) [v3,(.fn 263 (.of 263) [f])] h nx fun v4 h5 n6=>C.fn 64 (.of 64) [v4,(I 9)] h5 n6 fun v7 h8 n9=>K0 v7 h8 n9:=by kernel_rfl
theorem aU.tab:T.get none (.of 236) tbl=some aU:=by kernel_rfl
theorem aU.go:zS tbl N C (.of 236) [a0] h nx K0 =
 xk a0 h nx fun v1 h2 n3=>K0 (.fn 312 (.of 312) [v1]) h2 n3:=by
 rw [yI aU.tab];kernel_rfl
theorem aV.tab:T.get none (.of 235) tbl=some aV:=by kernel_rfl
theorem aV.go:zS tbl N C (.of 235) [a0] h nx K0 =
 C.fn 311 (.of 311) [a0] h nx fun v1 h2 n3=>C.fn 212 (.of 212) [v1] h2 n3 fun v4 h5 n6=>K0 v1 h5 n6:=by
 rw [yI aV.tab];kernel_rfl
theorem aW.tab:T.get none (.of 311) tbl=some aW:=by kernel_rfl
theorem aW.go:zS tbl N C (.of 311) [a0] h nx K0 =
 C.fn 381 (.of 381) [.zn,a0] h nx fun v1 h2 n3=>K0 v1 h2 n3:=by
 rw [yI aW.tab];kernel_rfl
theorem vz.sH (X2:IR) (C:Calls Prop) (N:Nat) (O:dw Prop) (K:Ks Prop) (a b d e f i o q:AV) (h:T Blk) (nx:Pa):IR.run (vz.g1 X2) C N O K (vz.fr a b d e f i o q) h nx =
 IR.run X2 C N (O.blk 0 K) K (vz.fr a b d e f i o q) h nx:=by kernel_rfl
theorem vz.tab:T.get none (.of 312) tbl=some vz:=by kernel_rfl
theorem vz.go:zS tbl N C (.of 312) [a0,a1] h nx K0 =
 zH a1 h fun v1=>sLen v1 fun v2=>IR.run vz.b1 C N (fnO vz.res K0) (yu vz.res K0) (vz.fr a0 a1 .u v1 v2 (I 0) .u .u) h nx:=by
 rw [yI vz.tab];kernel_rfl
theorem vz.e1:IR.run vz.b3 C N ((fnO vz.res K0).blk 0 K) R (vz.fr a b d e f i o q) h nx =
 zh .lss .int i f fun v1=>yG v1 (zM 1 e i fun v2=>zH v2 h fun v3=>dN C a [v3] h nx fun v4 h5 n6=>eX v4 fun v7=>yG v7 (K0 (.tup []) h5 n6) (zh .add .int i (I 1) fun v8=>R (vz.fr a b v3 e f v8 v1 v7) h5 n6)) (K (vz.fr a b d e f i v1 q) h nx):=by kernel_rfl
theorem vz.L1 (Inv:Nat->AV->T Blk->Pa->Prop) {m:Nat} (hm:m<N) (hi:Inv m i h nx)
  (step:∀ (m:Nat) (z2 z5 z6 z7:AV) (h:T Blk) (nx:Pa) (R:Ks Prop),Inv m z5 h nx->(∀ (m':Nat) (w2 w5 w6 w7:AV) (h':T Blk) (nx':Pa),m'<m->Inv m' w5 h' nx'->R (vz.fr a b w2 e f w5 w6 w7) h' nx'=.ok True) ->
   (zh .lss .int z5 f fun v1=>yG v1 (zM 1 e z5 fun v2=>zH v2 h fun v3=>dN C a [v3] h nx fun v4 h5 n6=>eX v4 fun v7=>yG v7 (K0 (.tup []) h5 n6) (zh .add .int z5 (I 1) fun v8=>R (vz.fr a b v3 e f v8 v1 v7) h5 n6)) (K (vz.fr a b z2 e f z5 v1 z7) h nx))=.ok True) :
  IR.run vz.b1 C N (fnO vz.res K0) K (vz.fr a b d e f i o q) h nx=.ok True:=by
 rw [vz.b1,vz.sH,vz.b2];refine yD (fun m tm h nx=>∃ z2 z5 z6 z7,tm=(vz.fr a b z2 e f z5 z6 z7)/\Inv m z5 h nx) ?_ hm ⟨_,_,_,_,rfl,hi⟩;rintro m tm h nx R ⟨z2,z5,z6,z7,rfl,hi⟩ hR;rw [vz.e1];exact step m z2 z5 z6 z7 h nx R hi fun m' w2 w5 w6 w7 h' nx' hlt hi'=>hR m' _ h' nx' hlt ⟨_,_,_,_,rfl,hi'⟩
theorem vk.tab:T.get none (.of 381) tbl=some vk:=by kernel_rfl
theorem vk.go:zS tbl N C (.of 381) [a0,a1] h nx K0 =
 xk a0 h nx fun v1 h2 n3=>IR.run (.rf (.t (.of 5)) [(.of 6)] vk.b3 vk.b4) C N ((fnO vk.res K0).blk 0 (IR.run vk.b6 C N (fnO vk.res K0) (yu vk.res K0))) (IR.run vk.b6 C N (fnO vk.res K0) (yu vk.res K0)) (vk.fr a0 a1 v1 .zn .u a1 .u) h2 n3:=by
 rw [yI vk.tab];kernel_rfl
theorem vk.k6:IR.run vk.b6 C N (fnO vk.res K0) K (vk.fr a b d e f i o) h nx =
 zH d h fun v1=>K0 v1 h nx:=by kernel_rfl
theorem vk.y4 {N:Nat} {C:Calls Prop} {K0:Kw Prop} {id nx:Pa} {j:o8} {h h1:T Blk} {a b d e f i o z0:AV} (hl:T.get .no id h=.loop .ready j (vk.fr a b d e f i o) [.of 6] vk.b3 vk.b4) (he:h1=T.set .no (.loop .busy j (vk.fr a b d e f i o) [.of 6] vk.b3 vk.b4) id h) :
 xT N C id [z0] h nx K0 =
 zH d h1 fun v1=>jH 1 1 [(I 0)] [(0,1,z0)] h1 nx fun v2 h3 n4=>eY 1 8 v1 v2 h3 n4 fun v5 h6 n7=>zO 1 d v5 h6 n7 fun v8 h9 nC=>uM id K0 .none true .e h9 nC:=by
 subst he;rw [zym hl (tm1:=(vk.fr a b d e f i z0)) (tm2:=(vk.fr a b d e z0 i z0)) (by intro k;kernel_rfl) (by intro O K h nx;kernel_rfl)];kernel_rfl
end
end Go.Ev
