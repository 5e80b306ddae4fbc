import Derived.Test.YtfgpjkchdelphaaGreatDoorIrT
import Derived.Test.YtfgpjkchdelphaaGreatDoorEvD
import Derived.KernelRfl
set_option linter.unusedSimpArgs false
set_option linter.unusedVariables false
namespace Go.Ev
open Go Go.Proofs
set_option maxRecDepth 100000
section
variable {N:Nat} {C:Calls Prop} {K0:Kw Prop} {K:Ks Prop} {h:T Blk} {nx:Pa} {a b c d e f i l p s g j a0 a1 s0 s1 s2 s3 s4 s5 s6 s7 s8 s9 s10 s11 s12 s13 s14 s15 s16 s17 s18 s19 s20 s21 s22 s23 s24 s25 s26 s27 s28 s29 s30 s31 s32 s33 s34 s35 s36 s37 s38 s39 s40 s41 s42 s43 s44 s45 s46 s47 s48 s49 s50 s51 s52 s53 s54 s55 s56 s57 s58 s59 o q u y w v z E A B D a2 G H M P L Q:AV} {O:fP Prop} {tm:T AV} {Kt:KTm} {r:List RO} {sT:List AV}
theorem jl.zy:IR.run jl.t0 C N O K (jl.fr a b c d e f i l p s g j) h nx =
 K (jl.fr a b (.int .u64 0) (.int .u64 0) e f i l p s g j) h nx:=by kernel_rfl
theorem jl.zx:IR.run jl.t1 C N O K (jl.fr a b c d e f i l p s g j) h nx =
 za .and .int a (.int .u64 4294967295) λv1=>K (jl.fr a b c d v1 f i l p s g j) h nx:=by kernel_rfl
theorem jl.je:IR.run jl.t2 C N O K (jl.fr a b c d e f i l p s g j) h nx =
 za .shr .int a (.int .u64 32) λv1=>K (jl.fr a b c d e v1 i l p s g j) h nx:=by kernel_rfl
theorem jl.pq:IR.run jl.t3 C N O K (jl.fr a b c d e f i l p s g j) h nx =
 za .and .int b (.int .u64 4294967295) λv1=>K (jl.fr a b c d e f v1 l p s g j) h nx:=by kernel_rfl
theorem jl.fJ:IR.run jl.t4 C N O K (jl.fr a b c d e f i l p s g j) h nx =
 za .shr .int b (.int .u64 32) λv1=>K (jl.fr a b c d e f i v1 p s g j) h nx:=by kernel_rfl
theorem jl.fG:IR.run jl.t5 C N O K (jl.fr a b c d e f i l p s g j) h nx =
 za .mul .int e i λv1=>K (jl.fr a b c d e f i l v1 s g j) h nx:=by kernel_rfl
theorem jl.qi:IR.run jl.t6 C N O K (jl.fr a b c d e f i l p s g j) h nx =
 za .mul .int f i λv1=>za .shr .int p (.int .u64 32) λv2=>za .add .int v1 v2 λv3=>K (jl.fr a b c d e f i l p v3 g j) h nx:=by kernel_rfl
theorem jl.fC:IR.run jl.t7 C N O K (jl.fr a b c d e f i l p s g j) h nx =
 za .and .int s (.int .u64 4294967295) λv1=>K (jl.fr a b c d e f i l p s v1 j) h nx:=by kernel_rfl
theorem jl.fH:IR.run jl.t8 C N O K (jl.fr a b c d e f i l p s g j) h nx =
 za .shr .int s (.int .u64 32) λv1=>K (jl.fr a b c d e f i l p s g v1) h nx:=by kernel_rfl
theorem jl.fK:IR.run jl.t9 C N O K (jl.fr a b c d e f i l p s g j) h nx =
 za .mul .int e l λv1=>za .add .int g v1 λv2=>K (jl.fr a b c d e f i l p s v2 j) h nx:=by kernel_rfl
theorem jl.fT:IR.run jl.t10 C N O K (jl.fr a b c d e f i l p s g j) h nx =
 za .mul .int f l λv1=>za .add .int v1 j λv2=>za .shr .int g (.int .u64 32) λv3=>za .add .int v2 v3 λv4=>K (jl.fr a b v4 d e f i l p s g j) h nx:=by kernel_rfl
theorem jl.di:IR.run jl.t11 C N O K (jl.fr a b c d e f i l p s g j) h nx =
 za .mul .int a b λv1=>K (jl.fr a b c v1 e f i l p s g j) h nx:=by kernel_rfl
theorem jl.go:zR tbl N C (.of 263) [a0,a1] h nx K0=IR.run jl.t23 C N (fnO jl.res K0) (zi jl.res K0) (jl.fr a0 a1 .u .u .u .u .u .u .u .u .u .u) h nx:=yC (F:=jl) (by kernel_rfl) (λ_=>by kernel_rfl) (by kernel_rfl)
theorem jl.ret:zi jl.res K0 (jl.fr a b c d e f i l p s g j) h nx=K0 (.tup [c,d]) h nx:=by kernel_rfl
theorem dm.zy:IR.run dm.t0 C N O K (dm.fr a b c) h nx =
 K (dm.fr a (.int .u64 0) c) h nx:=by kernel_rfl
theorem dm.zx:IR.run dm.t1 C N O K (dm.fr a b c) h nx =
 za .lss .int a (I 0) λv1=>K (dm.fr a b v1) h nx:=by kernel_rfl
theorem dm.je:IR.run dm.t2 C N O K (dm.fr a b c) h nx =
 sNeg a λv1=>kL .u64 v1 λv2=>K (dm.fr a v2 c) h nx:=by kernel_rfl
theorem dm.v2:Arg.ev (.t (.of 2)) ⟨(dm.fr a b c),[]⟩=c:=by kernel_rfl
theorem dm.qi:IR.run dm.t6 C N O K (dm.fr a b c) h nx =
 kL .u64 a λv1=>K (dm.fr a v1 c) h nx:=by kernel_rfl
theorem dm.go:zR tbl N C (.of 264) [a0] h nx K0=IR.run dm.t9 C N (fnO dm.res K0) (zi dm.res K0) (dm.fr a0 .u .u) h nx:=yC (F:=dm) (by kernel_rfl) (λ_=>by kernel_rfl) (by kernel_rfl)
theorem dm.ret:zi dm.res K0 (dm.fr a b c) h nx=K0 b h nx:=by kernel_rfl
theorem yx.zy:IR.run yx.t0 C N O K (yx.fr a b c d e) h nx =
 K (yx.fr a (I 0) c d e) h nx:=by kernel_rfl
theorem yx.zx:IR.run yx.t1 C N O K (yx.fr a b c d e) h nx =
 za .geq .int a (.int .u64 4294967296) λv1=>K (yx.fr a b v1 d e) h nx:=by kernel_rfl
theorem yx.je:IR.run yx.t2 C N O K (yx.fr a b c d e) h nx =
 za .shr .int a (.int .u64 32) λv1=>K (yx.fr v1 b c d e) h nx:=by kernel_rfl
theorem yx.pq:IR.run yx.t3 C N O K (yx.fr a b c d e) h nx =
 K (yx.fr a (I 32) c d e) h nx:=by kernel_rfl
theorem yx.v2:Arg.ev (.t (.of 2)) ⟨(yx.fr a b c d e),[]⟩=c:=by kernel_rfl
theorem yx.fC:IR.run yx.t7 C N O K (yx.fr a b c d e) h nx =
 za .geq .int a (.int .u64 65536) λv1=>K (yx.fr a b c v1 e) h nx:=by kernel_rfl
theorem yx.fH:IR.run yx.t8 C N O K (yx.fr a b c d e) h nx =
 za .shr .int a (.int .u64 16) λv1=>K (yx.fr v1 b c d e) h nx:=by kernel_rfl
theorem yx.fK:IR.run yx.t9 C N O K (yx.fr a b c d e) h nx =
 za .add .int b (I 16) λv1=>K (yx.fr a v1 c d e) h nx:=by kernel_rfl
theorem yx.v3:Arg.ev (.t (.of 3)) ⟨(yx.fr a b c d e),[]⟩=d:=by kernel_rfl
theorem yx.fU:IR.run yx.t13 C N O K (yx.fr a b c d e) h nx =
 za .geq .int a (.int .u64 256) λv1=>K (yx.fr a b c d v1) h nx:=by kernel_rfl
theorem yx.sD:IR.run yx.t14 C N O K (yx.fr a b c d e) h nx =
 za .shr .int a (.int .u64 8) λv1=>K (yx.fr v1 b c d e) h nx:=by kernel_rfl
theorem yx.oC:IR.run yx.t15 C N O K (yx.fr a b c d e) h nx =
 za .add .int b (I 8) λv1=>K (yx.fr a v1 c d e) h nx:=by kernel_rfl
theorem yx.v4:Arg.ev (.t (.of 4)) ⟨(yx.fr a b c d e),[]⟩=e:=by kernel_rfl
theorem yx.sV:IR.run yx.t19 C N O K (yx.fr a b c d e) h nx =
 kL .u8 a λv1=>jM (.str [0,1,2,2,3,3,3,3,4,4,4,4,4,4,4,4,5,5,5,5,5,5,5,5,5,5,5,5,5,5,5,5,6,6,6,6,6,6,6,6,6,6,6,6,6,6,6,6,6,6,6,6,6,6,6,6,6,6,6,6,6,6,6,6,7,7,7,7,7,7,7,7,7,7,7,7,7,7,7,7,7,7,7,7,7,7,7,7,7,7,7,7,7,7,7,7,7,7,7,7,7,7,7,7,7,7,7,7,7,7,7,7,7,7,7,7,7,7,7,7,7,7,7,7,7,7,7,7,8,8,8,8,8,8,8,8,8,8,8,8,8,8,8,8,8,8,8,8,8,8,8,8,8,8,8,8,8,8,8,8,8,8,8,8,8,8,8,8,8,8,8,8,8,8,8,8,8,8,8,8,8,8,8,8,8,8,8,8,8,8,8,8,8,8,8,8,8,8,8,8,8,8,8,8,8,8,8,8,8,8,8,8,8,8,8,8,8,8,8,8,8,8,8,8,8,8,8,8,8,8,8,8,8,8,8,8,8,8,8,8,8,8,8,8,8,8,8,8,8,8,8,8,8,8,8,8]) v1 λv2=>kL .i64 v2 λv3=>za .add .int b v3 λv4=>K (yx.fr a v4 c d e) h nx:=by kernel_rfl
theorem yx.go:zR tbl N C (.of 312) [a0] h nx K0=IR.run yx.t24 C N (fnO yx.res K0) (zi yx.res K0) (yx.fr a0 .u .u .u .u) h nx:=yC (F:=yx) (by kernel_rfl) (λ_=>by kernel_rfl) (by kernel_rfl)
theorem yx.ret:zi yx.res K0 (yx.fr a b c d e) h nx=K0 b h nx:=by kernel_rfl
theorem qz.zy:IR.run qz.t0 C N O K (qz.fr a b c d e f) h nx =
 xw a h nx λv1 h2 n3=>K (qz.fr a v1 (.bool false) .ze e f) h2 n3:=by kernel_rfl
theorem qz.zx:IR.run qz.t1 C N O K (qz.fr a b c d e f) h nx =
 zM 1 b λv1=>zE v1 h λv2=>za .neq (.nil .sl) v2 .ze λv3=>K (qz.fr a b c d v3 f) h nx:=by kernel_rfl
theorem qz.fJ:IR.run qz.t4 C N O K (qz.fr a b c d e f) h nx =
 zM 0 b λv1=>zE v1 h λv2=>za .eql .int v2 (I 0) λv3=>K (qz.fr a b c d e v3) h nx:=by kernel_rfl
theorem qz.fG:IR.run qz.t5 C N O K (qz.fr a b c d e f) h nx =
 K (qz.fr a b (.bool false) .ze e f) h nx:=by kernel_rfl
theorem qz.v5:Arg.ev (.t (.of 5)) ⟨(qz.fr a b c d e f),[]⟩=f:=by kernel_rfl
theorem qz.v4:Arg.ev (.t (.of 4)) ⟨(qz.fr a b c d e f),[]⟩=e:=by kernel_rfl
theorem qz.rP:IR.run qz.t12 C N O K (qz.fr a b c d e f) h nx =
 zM 0 b λv1=>zE v1 h λv2=>za .lss .int v2 (I 0) λv3=>zM 0 b λv4=>zE v4 h λv5=>C.fn 264 (.of 264) [v5] h nx λv6 h7 n8=>(za .lss .int v2 (I 0) λvA=>zL vA v3 ((zE v1 h7 λvB=>zL vB v2 ((zM 0 b λvC=>zL vC v1 (yZ 1 1 [(.int .u64 0)] [(0,1,v6)] h7 n8 λv9 hA nA=>zL v3 v3 ((za .lss .int v2 (I 0) λvD=>zL vD v3 ((zE v1 hA λvE=>zL vE v2 ((zM 0 b λvF=>zL vF v1 (K (qz.fr a b v3 v9 e f) hA nA))))))))))))):=by kernel_rfl
theorem qz.go:zR tbl N C (.of 249) [a0] h nx K0=IR.run qz.t15 C N (fnO qz.res K0) (zi qz.res K0) (qz.fr a0 .u .u .u .u .u) h nx:=yC (F:=qz) (by kernel_rfl) (λ_=>by kernel_rfl) (by kernel_rfl)
theorem qz.ret:zi qz.res K0 (qz.fr a b c d e f) h nx=K0 (.tup [c,d]) h nx:=by kernel_rfl
theorem ng.zy:IR.run ng.t0 C N O K (ng.fr a b) h nx =
 yK [(I 0),.ze] h nx λv1 h2 n3=>K (ng.fr a v1) h2 n3:=by kernel_rfl
theorem ng.zx:IR.run ng.t1 C N O K (ng.fr a b) h nx =
 uT [(I 0),.ze] [(0,1,a)] λv1=>zV 2 b v1 h nx λv2 h3 n4=>K (ng.fr a b) h3 n4:=by kernel_rfl
theorem ng.go:zR tbl N C (.of 187) [a0] h nx K0=IR.run ng.t3 C N (fnO ng.res K0) (zi ng.res K0) (ng.fr a0 .u) h nx:=yC (F:=ng) (by kernel_rfl) (λ_=>by kernel_rfl) (by kernel_rfl)
theorem ng.ret:zi ng.res K0 (ng.fr a b) h nx=zJ 2 b h λv1=>K0 v1 h nx:=by kernel_rfl
theorem ni.zy:IR.run ni.t0 C N O K (ni.fr a b c) h nx =
 xw a h nx λv1 h2 n3=>K (ni.fr a v1 (I 0)) h2 n3:=by kernel_rfl
theorem ni.zx:IR.run ni.t1 C N O K (ni.fr a b c) h nx =
 zM 0 b λv1=>zE v1 h λv2=>sMin false (I 1) [v2] λv3=>sMin true (I (-1)) [v3] λv4=>K (ni.fr a b v4) h nx:=by kernel_rfl
theorem ni.go:zR tbl N C (.of 194) [a0] h nx K0=IR.run ni.t3 C N (fnO ni.res K0) (zi ni.res K0) (ni.fr a0 .u .u) h nx:=yC (F:=ni) (by kernel_rfl) (λ_=>by kernel_rfl) (by kernel_rfl)
theorem ni.ret:zi ni.res K0 (ni.fr a b c) h nx=K0 c h nx:=by kernel_rfl
theorem fw.zy:IR.run fw.t0 C N O K (fw.fr a b c d e f) h nx =
 xw a h nx λv1 h2 n3=>yK [(I 0),.ze] h2 n3 λv4 h5 n6=>K (fw.fr a v1 v4 d e f) h5 n6:=by kernel_rfl
theorem fw.zx:IR.run fw.t1 C N O K (fw.fr a b c d e f) h nx =
 zM 1 b λv1=>zE v1 h λv2=>za .eql (.nil .sl) v2 .ze λv3=>sG v3 true (λk=>zM 0 b k) λv4=>sG v3 true (λk=>zE v4 h k) λv5=>sG v3 true (λk=>za .neq .int v5 (I (-9223372036854775808)) k) λv6=>yF v3 v6 (.bool false) λv7=>K (fw.fr a b c d e v7) h nx:=by kernel_rfl
theorem fw.je:IR.run fw.t2 C N O K (fw.fr a b c d e f) h nx =
 zM 0 b λv1=>zE v1 h λv2=>sNeg v2 λv3=>uT [(I 0),.ze] [(0,1,v3)] λv4=>zV 2 c v4 h nx λv5 h6 n7=>K (fw.fr a b c d e f) h6 n7:=by kernel_rfl
theorem fw.v5:Arg.ev (.t (.of 5)) ⟨(fw.fr a b c d e f),[]⟩=f:=by kernel_rfl
theorem fw.go:zR tbl N C (.of 193) [a0] h nx K0=IR.run fw.t11 C N (fnO fw.res K0) (zi fw.res K0) (fw.fr a0 .u .u .u .u .u) h nx:=yC (F:=fw) (by kernel_rfl) (λ_=>by kernel_rfl) (by kernel_rfl)
theorem fw.ret:zi fw.res K0 (fw.fr a b c d e f) h nx=zJ 2 c h λv1=>K0 v1 h nx:=by kernel_rfl
theorem uf.zy:IR.run uf.t0 C N O K (uf.fr a b c) h nx =
 K (uf.fr a .ze c) h nx:=by kernel_rfl
theorem uf.zx:IR.run uf.t1 C N O K tm h nx=zP uf.si C ⟨tm,[]⟩ h nx (λtm h nx=>K tm.v h nx):=yT ..
theorem uf.sj:zP (uf.rQ r) C ⟨(uf.fr a b c),[]⟩ h nx Kt =
 sLen a λv1=>za .gtr .int v1 (I 0) λv2=>sG v2 true (λk=>k a) λv3=>sG v2 true (λk=>k a) λv4=>sG v2 true (λk=>sLen v4 k) λv5=>sG v2 true (λk=>za .sub .int v5 (I 1) k) λv6=>zP r C ⟨(uf.fr a b c),v6::v5::v4::v3::v2::v2::v1::a::[]⟩ h nx Kt:=by kernel_rfl
theorem uf.fZ:zP (uf.rR []) C ⟨(uf.fr a b c),s0::s1::s2::s3::s4::sT⟩ h nx Kt =
 sG s4 true (λk=>zH 1 s3 s0 k) λv1=>sG s4 true (λk=>zE v1 h k) λv2=>sG s4 true (λk=>za .eql .int v2 (I 0) k) λv3=>yF s4 v3 (.bool false) λv4=>Kt ⟨(uf.fr a b v4),v3::v2::v1::s0::s1::s2::s3::s4::sT⟩ h nx:=by kernel_rfl
theorem uf.v2:Arg.ev (.t (.of 2)) ⟨(uf.fr a b c),[]⟩=c:=by kernel_rfl
theorem uf.fJ:IR.run uf.t4 C N O K (uf.fr a b c) h nx =
 sLen a λv1=>za .sub .int v1 (I 1) λv2=>vJ 1 a none (some v2) none λv3=>K (uf.fr v3 b c) h nx:=by kernel_rfl
theorem uf.t7_L (Inv:Nat->AV->T Blk->Pa->Prop) {m:Nat} (hm:m<N) (hi:Inv m a h nx)
  (step:∀ (m:Nat) (z0 z2:AV) (h:T Blk) (nx:Pa) (R:Ks Prop),Inv m z0 h nx->(∀ (m':Nat) (w0 w2:AV) (h':T Blk) (nx':Pa),m'<m->Inv m' w0 h' nx'->R (uf.fr w0 b w2) h' nx'=.ok True)->IR.run uf.t6 C N O R (uf.fr z0 b z2) h nx=.ok True) :
  IR.run uf.t7 C N O K (uf.fr a b c) h nx=.ok True:=by
 rw [uf.t7];refine yB (λm tm h nx=>∃ z0 z2,tm=(uf.fr z0 b z2)/\Inv m z0 h nx) ?_ hm ⟨_,_,rfl,hi⟩;rintro m tm h nx R ⟨z0,z2,rfl,hi⟩ hR;exact step m z0 z2 h nx R hi λm' w0 w2 h' nx' hlt hi'=>hR m' _ h' nx' hlt ⟨_,_,rfl,hi'⟩
theorem uf.fK:IR.run uf.t9 C N O K (uf.fr a b c) h nx =
 K (uf.fr a a c) h nx:=by kernel_rfl
theorem uf.go:zR tbl N C (.of 269) [a0] h nx K0=IR.run uf.t12 C N (fnO uf.res K0) (zi uf.res K0) (uf.fr a0 .u .u) h nx:=yC (F:=uf) (by kernel_rfl) (λ_=>by kernel_rfl) (by kernel_rfl)
theorem uf.ret:zi uf.res K0 (uf.fr a b c) h nx=K0 b h nx:=by kernel_rfl
theorem pu.zy:IR.run pu.t0 C N O K (pu.fr a b c d) h nx =
 K (pu.fr a b (I 0) d) h nx:=by kernel_rfl
theorem pu.zx:IR.run pu.t1 C N O K (pu.fr a b c d) h nx =
 sLen a λv1=>za .lss .int b v1 λv2=>K (pu.fr a b c v2) h nx:=by kernel_rfl
theorem pu.je:IR.run pu.t2 C N O K (pu.fr a b c d) h nx =
 zH 1 a b λv1=>zE v1 h λv2=>K (pu.fr a b v2 d) h nx:=by kernel_rfl
theorem pu.v3:Arg.ev (.t (.of 3)) ⟨(pu.fr a b c d),[]⟩=d:=by kernel_rfl
theorem pu.qi:IR.run pu.t6 C N O K (pu.fr a b c d) h nx =
 K (pu.fr a b (I 0) d) h nx:=by kernel_rfl
theorem pu.go:zR tbl N C (.of 271) [a0,a1] h nx K0=IR.run pu.t9 C N (fnO pu.res K0) (zi pu.res K0) (pu.fr a0 a1 .u .u) h nx:=yC (F:=pu) (by kernel_rfl) (λ_=>by kernel_rfl) (by kernel_rfl)
theorem pu.ret:zi pu.res K0 (pu.fr a b c d) h nx=K0 c h nx:=by kernel_rfl
theorem fA.zy:IR.run fA.t0 C N O K (fA.fr a b c) h nx =
 yK [(.bool false),.ze] h nx λv1 h2 n3=>K (fA.fr a b v1) h2 n3:=by kernel_rfl
theorem fA.zx:IR.run fA.t1 C N O K (fA.fr a b c) h nx =
 C.fn 269 (.of 269) [b] h nx λv1 h2 n3=>K (fA.fr a v1 c) h2 n3:=by kernel_rfl
theorem fA.je:IR.run fA.t2 C N O K (fA.fr a b c) h nx =
 sG a true (λk=>k b) λv1=>sG a true (λk=>sLen v1 k) λv2=>sG a true (λk=>za .gtr .int v2 (I 0) k) λv3=>yF a v3 (.bool false) λv4=>uT [(.bool false),.ze] [(0,1,v4),(1,1,b)] λv5=>zV 2 c v5 h nx λv6 h7 n8=>K (fA.fr a b c) h7 n8:=by kernel_rfl
theorem fA.go:zR tbl N C (.of 214) [a0,a1] h nx K0=IR.run fA.t5 C N (fnO fA.res K0) (zi fA.res K0) (fA.fr a0 a1 .u) h nx:=yC (F:=fA) (by kernel_rfl) (λ_=>by kernel_rfl) (by kernel_rfl)
theorem fA.ret:zi fA.res K0 (fA.fr a b c) h nx=zJ 2 c h λv1=>K0 v1 h nx:=by kernel_rfl
theorem yo.zy:IR.run yo.t0 C N O K (yo.fr a b c d e f i l p) h nx =
 K (yo.fr a b (I 0) d e f i l p) h nx:=by kernel_rfl
theorem yo.zx:IR.run yo.t1 C N O K (yo.fr a b c d e f i l p) h nx =
 sLen a λv1=>sLen b λv2=>za .neq .int v1 v2 λv3=>K (yo.fr a b c d v3 f i l p) h nx:=by kernel_rfl
theorem yo.je:IR.run yo.t2 C N O K (yo.fr a b c d e f i l p) h nx =
 sLen a λv1=>sLen b λv2=>za .lss .int v1 v2 λv3=>K (yo.fr a b c d e v3 i l p) h nx:=by kernel_rfl
theorem yo.pq:IR.run yo.t3 C N O K (yo.fr a b c d e f i l p) h nx =
 K (yo.fr a b (I (-1)) d e f i l p) h nx:=by kernel_rfl
theorem yo.v5:Arg.ev (.t (.of 5)) ⟨(yo.fr a b c d e f i l p),[]⟩=f:=by kernel_rfl
theorem yo.fC:IR.run yo.t7 C N O K (yo.fr a b c d e f i l p) h nx =
 K (yo.fr a b (I 1) d e f i l p) h nx:=by kernel_rfl
theorem yo.v4:Arg.ev (.t (.of 4)) ⟨(yo.fr a b c d e f i l p),[]⟩=e:=by kernel_rfl
theorem yo.rP:IR.run yo.t12 C N O K (yo.fr a b c d e f i l p) h nx =
 sLen a λv1=>za .sub .int v1 (I 1) λv2=>K (yo.fr a b c v2 e f i l p) h nx:=by kernel_rfl
theorem yo.fU:IR.run yo.t13 C N O K (yo.fr a b c d e f i l p) h nx =
 za .geq .int d (I 0) λv1=>K (yo.fr a b c d e f v1 l p) h nx:=by kernel_rfl
theorem yo.v6:Arg.ev (.t (.of 6)) ⟨(yo.fr a b c d e f i l p),[]⟩=i:=by kernel_rfl
theorem yo.aI:IR.run yo.t16 C N O K (yo.fr a b c d e f i l p) h nx =
 zH 1 a d λv1=>zE v1 h λv2=>zH 1 b d λv3=>zE v3 h λv4=>za .lss .int v2 v4 λv5=>K (yo.fr a b c d e f i v5 p) h nx:=by kernel_rfl
theorem yo.rX:IR.run yo.t17 C N O K (yo.fr a b c d e f i l p) h nx =
 K (yo.fr a b (I (-1)) d e f i l p) h nx:=by kernel_rfl
theorem yo.v7:Arg.ev (.t (.of 7)) ⟨(yo.fr a b c d e f i l p),[]⟩=l:=by kernel_rfl
theorem yo.zm3:IR.run yo.t21 C N O K (yo.fr a b c d e f i l p) h nx =
 zH 1 a d λv1=>zE v1 h λv2=>zH 1 b d λv3=>zE v3 h λv4=>za .gtr .int v2 v4 λv5=>K (yo.fr a b c d e f i l v5) h nx:=by kernel_rfl
theorem yo.aX:IR.run yo.t22 C N O K (yo.fr a b c d e f i l p) h nx =
 K (yo.fr a b (I 1) d e f i l p) h nx:=by kernel_rfl
theorem yo.v8:Arg.ev (.t (.of 8)) ⟨(yo.fr a b c d e f i l p),[]⟩=p:=by kernel_rfl
theorem yo.zfj:IR.run yo.t28 C N O K (yo.fr a b c d e f i l p) h nx =
 za .sub .int d (I 1) λv1=>K (yo.fr a b c v1 e f i l p) h nx:=by kernel_rfl
theorem yo.zm4 (Inv:Nat->AV->T Blk->Pa->Prop) {m:Nat} (hm:m<N) (hi:Inv m d h nx)
  (step:∀ (m:Nat) (z2 z3 z6 z7 z8:AV) (h:T Blk) (nx:Pa) (R:Ks Prop),Inv m z3 h nx->(∀ (m':Nat) (w2 w3 w6 w7 w8:AV) (h':T Blk) (nx':Pa),m'<m->Inv m' w3 h' nx'->R (yo.fr a b w2 w3 e f w6 w7 w8) h' nx'=.ok True)->IR.run yo.t30 C N O R (yo.fr a b z2 z3 e f z6 z7 z8) h nx=.ok True) :
  IR.run yo.t31 C N O K (yo.fr a b c d e f i l p) h nx=.ok True:=by
 rw [yo.t31];refine yB (λm tm h nx=>∃ z2 z3 z6 z7 z8,tm=(yo.fr a b z2 z3 e f z6 z7 z8)/\Inv m z3 h nx) ?_ hm ⟨_,_,_,_,_,rfl,hi⟩;rintro m tm h nx R ⟨z2,z3,z6,z7,z8,rfl,hi⟩ hR;exact step m z2 z3 z6 z7 z8 h nx R hi λm' w2 w3 w6 w7 w8 h' nx' hlt hi'=>hR m' _ h' nx' hlt ⟨_,_,_,_,_,rfl,hi'⟩
theorem yo.zab:IR.run yo.t34 C N O K (yo.fr a b c d e f i l p) h nx =
 K (yo.fr a b (I 0) d e f i l p) h nx:=by kernel_rfl
theorem yo.go:zR tbl N C (.of 216) [a0,a1] h nx K0=IR.run yo.t38 C N (fnO yo.res K0) (zi yo.res K0) (yo.fr a0 a1 .u .u .u .u .u .u .u) h nx:=yC (F:=yo) (by kernel_rfl) (λ_=>by kernel_rfl) (by kernel_rfl)
theorem yo.ret:zi yo.res K0 (yo.fr a b c d e f i l p) h nx=K0 c h nx:=by kernel_rfl
theorem yg.zy:IR.run yg.t0 C N O K (yg.fr a b c d e f i l) h nx =
 K (yg.fr a b .ze d e f i l) h nx:=by kernel_rfl
theorem yg.zx:IR.run yg.t1 C N O K (yg.fr a b c d e f i l) h nx =
 K (yg.fr a b c .ze e f i l) h nx:=by kernel_rfl
theorem yg.je:IR.run yg.t2 C N O K (yg.fr a b c d e f i l) h nx =
 K (yg.fr a b c d (I 0) f i l) h nx:=by kernel_rfl
theorem yg.pq:IR.run yg.t3 C N O K (yg.fr a b c d e f i l) h nx =
 K (yg.fr a b c d e (I 0) i l) h nx:=by kernel_rfl
theorem yg.fJ:IR.run yg.t4 C N O K tm h nx=zP yg.aZ C ⟨tm,[]⟩ h nx (λtm h nx=>K tm.v h nx):=yT ..
theorem yg.eu:zP (yg.aJ r) C ⟨(yg.fr a b c d e f i l),[]⟩ h nx Kt =
 sLen a λv1=>za .lss .int f v1 λv2=>sG v2 false (λk=>k f) λv3=>sG v2 false (λk=>k b) λv4=>sG v2 false (λk=>sLen v4 k) λv5=>zP r C ⟨(yg.fr a b c d e f i l),v5::v4::v3::v2::v2::v1::a::f::[]⟩ h nx Kt:=by kernel_rfl
theorem yg.aj:zP (yg.aK []) C ⟨(yg.fr a b c d e f i l),s0::s1::s2::s3::sT⟩ h nx Kt =
 sG s3 false (λk=>za .lss .int s2 s0 k) λv1=>yF s3 (.bool true) v1 λv2=>sG v2 false (λk=>k e) λv3=>sG v2 false (λk=>za .gtr .int v3 (I 0) k) λv4=>yF v2 (.bool true) v4 λv5=>Kt ⟨(yg.fr a b c d e f i v5),v4::v3::v2::v2::v1::s0::s1::s2::s3::sT⟩ h nx:=by kernel_rfl
theorem yg.v7:Arg.ev (.t (.of 7)) ⟨(yg.fr a b c d e f i l),[]⟩=l:=by kernel_rfl
theorem yg.fC:IR.run yg.t7 C N O K (yg.fr a b c d e f i l) h nx =
 C.fn 271 (.of 271) [a,f] h nx λv1 h2 n3=>C.fn 271 (.of 271) [b,f] h2 n3 λv4 h5 n6=>za .add .int v1 v4 λv7=>za .add .int v7 e λv8=>K (yg.fr a b c d e f v8 l) h5 n6:=by kernel_rfl
theorem yg.fH:IR.run yg.t8 C N O K (yg.fr a b c d e f i l) h nx =
 za .rem .int i (I 1000000000) λv1=>yZ 1 1 [(I 0)] [(0,1,v1)] h nx λv2 h3 n4=>sO 1 8 d v2 h3 n4 λv5 h6 n7=>K (yg.fr a b c v5 e f i l) h6 n7:=by kernel_rfl
theorem yg.fK:IR.run yg.t9 C N O K (yg.fr a b c d e f i l) h nx =
 za .quo .int i (I 1000000000) λv1=>K (yg.fr a b c d v1 f i l) h nx:=by kernel_rfl
theorem yg.fU:IR.run yg.t13 C N O K (yg.fr a b c d e f i l) h nx =
 za .add .int f (I 1) λv1=>K (yg.fr a b c d e v1 i l) h nx:=by kernel_rfl
theorem yg.aL (Inv:Nat->AV->AV->AV->T Blk->Pa->Prop) {m:Nat} (hm:m<N) (hi:Inv m d e f h nx)
  (step:∀ (m:Nat) (z3 z4 z5 z6 z7:AV) (h:T Blk) (nx:Pa) (R:Ks Prop),Inv m z3 z4 z5 h nx->(∀ (m':Nat) (w3 w4 w5 w6 w7:AV) (h':T Blk) (nx':Pa),m'<m->Inv m' w3 w4 w5 h' nx'->R (yg.fr a b c w3 w4 w5 w6 w7) h' nx'=.ok True)->IR.run yg.t15 C N O R (yg.fr a b c z3 z4 z5 z6 z7) h nx=.ok True) :
  IR.run yg.t16 C N O K (yg.fr a b c d e f i l) h nx=.ok True:=by
 rw [yg.t16];refine yB (λm tm h nx=>∃ z3 z4 z5 z6 z7,tm=(yg.fr a b c z3 z4 z5 z6 z7)/\Inv m z3 z4 z5 h nx) ?_ hm ⟨_,_,_,_,_,rfl,hi⟩;rintro m tm h nx R ⟨z3,z4,z5,z6,z7,rfl,hi⟩ hR;exact step m z3 z4 z5 z6 z7 h nx R hi λm' w3 w4 w5 w6 w7 h' nx' hlt hi'=>hR m' _ h' nx' hlt ⟨_,_,_,_,_,rfl,hi'⟩
theorem yg.sV:IR.run yg.t19 C N O K (yg.fr a b c d e f i l) h nx =
 K (yg.fr a b d d e f i l) h nx:=by kernel_rfl
theorem yg.go:zR tbl N C (.of 215) [a0,a1] h nx K0=IR.run yg.t24 C N (fnO yg.res K0) (zi yg.res K0) (yg.fr a0 a1 .u .u .u .u .u .u) h nx:=yC (F:=yg) (by kernel_rfl) (λ_=>by kernel_rfl) (by kernel_rfl)
theorem yg.ret:zi yg.res K0 (yg.fr a b c d e f i l) h nx=K0 c h nx:=by kernel_rfl
theorem yj.zy:IR.run yj.t0 C N O K (yj.fr a b c d e f i l p) h nx =
 K (yj.fr a b .ze d e f i l p) h nx:=by kernel_rfl
theorem yj.zx:IR.run yj.t1 C N O K (yj.fr a b c d e f i l p) h nx =
 K (yj.fr a b c .ze e f i l p) h nx:=by kernel_rfl
theorem yj.je:IR.run yj.t2 C N O K (yj.fr a b c d e f i l p) h nx =
 K (yj.fr a b c d (I 0) f i l p) h nx:=by kernel_rfl
theorem yj.pq:IR.run yj.t3 C N O K (yj.fr a b c d e f i l p) h nx =
 K (yj.fr a b c d e (I 0) i l p) h nx:=by kernel_rfl
theorem yj.fJ:IR.run yj.t4 C N O K (yj.fr a b c d e f i l p) h nx =
 sLen a λv1=>za .lss .int f v1 λv2=>K (yj.fr a b c d e f i v2 p) h nx:=by kernel_rfl
theorem yj.v7:Arg.ev (.t (.of 7)) ⟨(yj.fr a b c d e f i l p),[]⟩=l:=by kernel_rfl
theorem yj.fC:IR.run yj.t7 C N O K (yj.fr a b c d e f i l p) h nx =
 zH 1 a f λv1=>zE v1 h λv2=>C.fn 271 (.of 271) [b,f] h nx λv3 h4 n5=>zL e e ((zE v1 h4 λv9=>zL v9 v2 ((zH 1 a f λv8=>zL v8 v1 (zL f f (zL a a (za .sub .int v2 v3 λv6=>za .sub .int v6 e λv7=>K (yj.fr a b c d e f v7 l p) h4 n5))))))):=by kernel_rfl
theorem yj.fH:IR.run yj.t8 C N O K (yj.fr a b c d e f i l p) h nx =
 K (yj.fr a b c d (I 0) f i l p) h nx:=by kernel_rfl
theorem yj.fK:IR.run yj.t9 C N O K (yj.fr a b c d e f i l p) h nx =
 za .lss .int i (I 0) λv1=>K (yj.fr a b c d e f i l v1) h nx:=by kernel_rfl
theorem yj.fT:IR.run yj.t10 C N O K (yj.fr a b c d e f i l p) h nx =
 za .add .int i (I 1000000000) λv1=>K (yj.fr a b c d e f v1 l p) h nx:=by kernel_rfl
theorem yj.di:IR.run yj.t11 C N O K (yj.fr a b c d e f i l p) h nx =
 K (yj.fr a b c d (I 1) f i l p) h nx:=by kernel_rfl
theorem yj.v8:Arg.ev (.t (.of 8)) ⟨(yj.fr a b c d e f i l p),[]⟩=p:=by kernel_rfl
theorem yj.oC:IR.run yj.t15 C N O K (yj.fr a b c d e f i l p) h nx =
 yZ 1 1 [(I 0)] [(0,1,i)] h nx λv1 h2 n3=>sO 1 8 d v1 h2 n3 λv4 h5 n6=>K (yj.fr a b c v4 e f i l p) h5 n6:=by kernel_rfl
theorem yj.ah:IR.run yj.t20 C N O K (yj.fr a b c d e f i l p) h nx =
 za .add .int f (I 1) λv1=>K (yj.fr a b c d e v1 i l p) h nx:=by kernel_rfl
theorem yj.zm5 (Inv:Nat->AV->AV->AV->T Blk->Pa->Prop) {m:Nat} (hm:m<N) (hi:Inv m d e f h nx)
  (step:∀ (m:Nat) (z3 z4 z5 z6 z7 z8:AV) (h:T Blk) (nx:Pa) (R:Ks Prop),Inv m z3 z4 z5 h nx->(∀ (m':Nat) (w3 w4 w5 w6 w7 w8:AV) (h':T Blk) (nx':Pa),m'<m->Inv m' w3 w4 w5 h' nx'->R (yj.fr a b c w3 w4 w5 w6 w7 w8) h' nx'=.ok True)->IR.run yj.t22 C N O R (yj.fr a b c z3 z4 z5 z6 z7 z8) h nx=.ok True) :
  IR.run yj.t23 C N O K (yj.fr a b c d e f i l p) h nx=.ok True:=by
 rw [yj.t23];refine yB (λm tm h nx=>∃ z3 z4 z5 z6 z7 z8,tm=(yj.fr a b c z3 z4 z5 z6 z7 z8)/\Inv m z3 z4 z5 h nx) ?_ hm ⟨_,_,_,_,_,_,rfl,hi⟩;rintro m tm h nx R ⟨z3,z4,z5,z6,z7,z8,rfl,hi⟩ hR;exact step m z3 z4 z5 z6 z7 z8 h nx R hi λm' w3 w4 w5 w6 w7 w8 h' nx' hlt hi'=>hR m' _ h' nx' hlt ⟨_,_,_,_,_,_,rfl,hi'⟩
theorem yj.zm6:IR.run yj.t26 C N O K (yj.fr a b c d e f i l p) h nx =
 C.fn 269 (.of 269) [d] h nx λv1 h2 n3=>K (yj.fr a b v1 d e f i l p) h2 n3:=by kernel_rfl
theorem yj.go:zR tbl N C (.of 217) [a0,a1] h nx K0=IR.run yj.t31 C N (fnO yj.res K0) (zi yj.res K0) (yj.fr a0 a1 .u .u .u .u .u .u .u) h nx:=yC (F:=yj) (by kernel_rfl) (λ_=>by kernel_rfl) (by kernel_rfl)
theorem yj.ret:zi yj.res K0 (yj.fr a b c d e f i l p) h nx=K0 c h nx:=by kernel_rfl
theorem jh.zy:IR.run jh.t0 C N O K (jh.fr a b c d e f i l p) h nx =
 K (jh.fr a b .ze (I 0) e f i l p) h nx:=by kernel_rfl
theorem jh.zx:IR.run jh.t1 C N O K (jh.fr a b c d e f i l p) h nx =
 sLen a λv1=>kC 1 8 [(I 0)] v1 v1 h nx λv2 h3 n4=>K (jh.fr a b c d v2 f i l p) h3 n4:=by kernel_rfl
theorem jh.je:IR.run jh.t2 C N O K (jh.fr a b c d e f i l p) h nx =
 K (jh.fr a b c d e (I 0) i l p) h nx:=by kernel_rfl
theorem jh.pq:IR.run jh.t3 C N O K (jh.fr a b c d e f i l p) h nx =
 sLen a λv1=>za .sub .int v1 (I 1) λv2=>K (jh.fr a b c d e f v2 l p) h nx:=by kernel_rfl
theorem jh.fJ:IR.run jh.t4 C N O K (jh.fr a b c d e f i l p) h nx =
 za .geq .int i (I 0) λv1=>K (jh.fr a b c d e f i l v1) h nx:=by kernel_rfl
theorem jh.v8:Arg.ev (.t (.of 8)) ⟨(jh.fr a b c d e f i l p),[]⟩=p:=by kernel_rfl
theorem jh.fC:IR.run jh.t7 C N O K (jh.fr a b c d e f i l p) h nx =
 za .mul .int f (I 1000000000) λv1=>zH 1 a i λv2=>zE v2 h λv3=>za .add .int v1 v3 λv4=>K (jh.fr a b c d e f i v4 p) h nx:=by kernel_rfl
theorem jh.fH:IR.run jh.t8 C N O K (jh.fr a b c d e f i l p) h nx =
 za .quo .int l b λv1=>zH 1 e i λv2=>zV 1 v2 v1 h nx λv3 h4 n5=>K (jh.fr a b c d e f i l p) h4 n5:=by kernel_rfl
theorem jh.fK:IR.run jh.t9 C N O K (jh.fr a b c d e f i l p) h nx =
 za .rem .int l b λv1=>K (jh.fr a b c d e v1 i l p) h nx:=by kernel_rfl
theorem jh.fU:IR.run jh.t13 C N O K (jh.fr a b c d e f i l p) h nx =
 za .sub .int i (I 1) λv1=>K (jh.fr a b c d e f v1 l p) h nx:=by kernel_rfl
theorem jh.aL (Inv:Nat->AV->AV->T Blk->Pa->Prop) {m:Nat} (hm:m<N) (hi:Inv m f i h nx)
  (step:∀ (m:Nat) (z5 z6 z7 z8:AV) (h:T Blk) (nx:Pa) (R:Ks Prop),Inv m z5 z6 h nx->(∀ (m':Nat) (w5 w6 w7 w8:AV) (h':T Blk) (nx':Pa),m'<m->Inv m' w5 w6 h' nx'->R (jh.fr a b c d e w5 w6 w7 w8) h' nx'=.ok True)->IR.run jh.t15 C N O R (jh.fr a b c d e z5 z6 z7 z8) h nx=.ok True) :
  IR.run jh.t16 C N O K (jh.fr a b c d e f i l p) h nx=.ok True:=by
 rw [jh.t16];refine yB (λm tm h nx=>∃ z5 z6 z7 z8,tm=(jh.fr a b c d e z5 z6 z7 z8)/\Inv m z5 z6 h nx) ?_ hm ⟨_,_,_,_,rfl,hi⟩;rintro m tm h nx R ⟨z5,z6,z7,z8,rfl,hi⟩ hR;exact step m z5 z6 z7 z8 h nx R hi λm' w5 w6 w7 w8 h' nx' hlt hi'=>hR m' _ h' nx' hlt ⟨_,_,_,_,rfl,hi'⟩
theorem jh.sV:IR.run jh.t19 C N O K (jh.fr a b c d e f i l p) h nx =
 C.fn 269 (.of 269) [e] h nx λv1 h2 n3=>K (jh.fr a b v1 f e f i l p) h2 n3:=by kernel_rfl
theorem jh.go:zR tbl N C (.of 268) [a0,a1] h nx K0=IR.run jh.t24 C N (fnO jh.res K0) (zi jh.res K0) (jh.fr a0 a1 .u .u .u .u .u .u .u) h nx:=yC (F:=jh) (by kernel_rfl) (λ_=>by kernel_rfl) (by kernel_rfl)
theorem jh.ret:zi jh.res K0 (jh.fr a b c d e f i l p) h nx=K0 (.tup [c,d]) h nx:=by kernel_rfl
theorem wz.zy:IR.run wz.t0 C N O K (wz.fr a b c d e f i l p s g j o q) h nx =
 xw a h nx λv1 h2 n3=>xw b h2 n3 λv4 h5 n6=>yK [(I 0),.ze] h5 n6 λv7 h8 n9=>K (wz.fr a b v1 v4 v7 f i l p s g j o q) h8 n9:=by kernel_rfl
theorem wz.zx:IR.run wz.t1 C N O K (wz.fr a b c d e f i l p s g j o q) h nx =
 zM 1 c λv1=>zE v1 h λv2=>za .eql (.nil .sl) v2 .ze λv3=>sG v3 true (λk=>zM 1 d k) λv4=>sG v3 true (λk=>zE v4 h k) λv5=>sG v3 true (λk=>za .eql (.nil .sl) v5 .ze k) λv6=>yF v3 v6 (.bool false) λv7=>K (wz.fr a b c d e f i l p s v7 j o q) h nx:=by kernel_rfl
theorem wz.je:IR.run wz.t2 C N O K (wz.fr a b c d e f i l p s g j o q) h nx =
 zM 0 c λv1=>zE v1 h λv2=>zM 0 d λv3=>zE v3 h λv4=>za .add .int v2 v4 λv5=>K (wz.fr a b c d e v5 i l p s g j o q) h nx:=by kernel_rfl
theorem wz.pq:IR.run wz.t3 C N O K (wz.fr a b c d e f i l p s g j o q) h nx =
 zM 0 c λv1=>zE v1 h λv2=>za .gtr .int f v2 λv3=>zM 0 d λv4=>zE v4 h λv5=>za .gtr .int v5 (I 0) λv6=>za .eql .bool v3 v6 λv7=>K (wz.fr a b c d e f i l p s g v7 o q) h nx:=by kernel_rfl
theorem wz.fJ:IR.run wz.t4 C N O K (wz.fr a b c d e f i l p s g j o q) h nx =
 uT [(I 0),.ze] [(0,1,f)] λv1=>zV 2 e v1 h nx λv2 h3 n4=>K (wz.fr a b c d e f i l p s g j o q) h3 n4:=by kernel_rfl
theorem wz.v11:Arg.ev (.t (.of 11)) ⟨(wz.fr a b c d e f i l p s g j o q),[]⟩=j:=by kernel_rfl
theorem wz.v10:Arg.ev (.t (.of 10)) ⟨(wz.fr a b c d e f i l p s g j o q),[]⟩=g:=by kernel_rfl
theorem wz.go:zR tbl N C (.of 197) [a0,a1] h nx K0=IR.run wz.t30 C N (fnO wz.res K0) (zi wz.res K0) (wz.fr a0 a1 .u .u .u .u .u .u .u .u .u .u .u .u) h nx:=yC (F:=wz) (by kernel_rfl) (λ_=>by kernel_rfl) (by kernel_rfl)
theorem wz.ret:zi wz.res K0 (wz.fr a b c d e f i l p s g j o q) h nx=zJ 2 e h λv1=>K0 v1 h nx:=by kernel_rfl
theorem uq.zy:IR.run uq.t0 C N O K (uq.fr a b c d e f i l p s g j o q) h nx =
 xw a h nx λv1 h2 n3=>xw b h2 n3 λv4 h5 n6=>yK [(I 0),.ze] h5 n6 λv7 h8 n9=>K (uq.fr a b v1 v4 v7 f i l p s g j o q) h8 n9:=by kernel_rfl
theorem uq.zx:IR.run uq.t1 C N O K (uq.fr a b c d e f i l p s g j o q) h nx =
 zM 1 c λv1=>zE v1 h λv2=>za .eql (.nil .sl) v2 .ze λv3=>sG v3 true (λk=>zM 1 d k) λv4=>sG v3 true (λk=>zE v4 h k) λv5=>sG v3 true (λk=>za .eql (.nil .sl) v5 .ze k) λv6=>yF v3 v6 (.bool false) λv7=>K (uq.fr a b c d e f i l p s g v7 o q) h nx:=by kernel_rfl
theorem uq.je:IR.run uq.t2 C N O K (uq.fr a b c d e f i l p s g j o q) h nx =
 zM 0 c λv1=>zE v1 h λv2=>zM 0 d λv3=>zE v3 h λv4=>C.fn 264 (.of 264) [v2] h nx λv5 h6 n7=>(zE v3 h6 λvA=>zL vA v4 ((zM 0 d λvB=>zL vB v3 (C.fn 264 (.of 264) [v4] h6 n7 λv8 h9 nB=>C.fn 263 (.of 263) [v5,v8] h9 nB λvG hB nC=>cu 0 vG λvD=>cu 1 vG λvC=>K (uq.fr a b c d e vD vC l p s g j o q) hB nC)))):=by kernel_rfl
theorem uq.pq:IR.run uq.t3 C N O K (uq.fr a b c d e f i l p s g j o q) h nx =
 za .eql .int f (.int .u64 0) λv1=>sG v1 true (λk=>k i) λv2=>sG v1 true (λk=>za .leq .int v2 (.int .u64 9223372036854775807) k) λv3=>yF v1 v3 (.bool false) λv4=>K (uq.fr a b c d e f i l p s g j v4 q) h nx:=by kernel_rfl
theorem uq.fJ:IR.run uq.t4 C N O K (uq.fr a b c d e f i l p s g j o q) h nx =
 zM 0 c λv1=>zE v1 h λv2=>za .lss .int v2 (I 0) λv3=>zM 0 d λv4=>zE v4 h λv5=>za .lss .int v5 (I 0) λv6=>za .neq .bool v3 v6 λv7=>K (uq.fr a b c d e f i l p s g j o v7) h nx:=by kernel_rfl
theorem uq.fG:IR.run uq.t5 C N O K (uq.fr a b c d e f i l p s g j o q) h nx =
 kL .i64 i λv1=>sNeg v1 λv2=>uT [(I 0),.ze] [(0,1,v2)] λv3=>zV 2 e v3 h nx λv4 h5 n6=>K (uq.fr a b c d e f i l p s g j o q) h5 n6:=by kernel_rfl
theorem uq.v13:Arg.ev (.t (.of 13)) ⟨(uq.fr a b c d e f i l p s g j o q),[]⟩=q:=by kernel_rfl
theorem uq.fK:IR.run uq.t9 C N O K (uq.fr a b c d e f i l p s g j o q) h nx =
 kL .i64 i λv1=>uT [(I 0),.ze] [(0,1,v1)] λv2=>zV 2 e v2 h nx λv3 h4 n5=>K (uq.fr a b c d e f i l p s g j o q) h4 n5:=by kernel_rfl
theorem uq.v12:Arg.ev (.t (.of 12)) ⟨(uq.fr a b c d e f i l p s g j o q),[]⟩=o:=by kernel_rfl
theorem uq.v11:Arg.ev (.t (.of 11)) ⟨(uq.fr a b c d e f i l p s g j o q),[]⟩=j:=by kernel_rfl
theorem uq.go:zR tbl N C (.of 198) [a0,a1] h nx K0=IR.run uq.t24 C N (fnO uq.res K0) (zi uq.res K0) (uq.fr a0 a1 .u .u .u .u .u .u .u .u .u .u .u .u) h nx:=yC (F:=uq) (by kernel_rfl) (λ_=>by kernel_rfl) (by kernel_rfl)
theorem uq.ret:zi uq.res K0 (uq.fr a b c d e f i l p s g j o q) h nx=zJ 2 e h λv1=>K0 v1 h nx:=by kernel_rfl
theorem ug.zy:IR.run ug.t0 C N O K (ug.fr a b c d e f i l p s g j o q u y w v) h nx =
 xw a h nx λv1 h2 n3=>xw b h2 n3 λv4 h5 n6=>yK [(I 0),.ze] h5 n6 λv7 h8 n9=>yK [(I 0),.ze] h8 n9 λvH hC nD=>K (ug.fr a b v1 v4 v7 vH i l p s g j o q u y w v) hC nD:=by kernel_rfl
theorem ug.zx:IR.run ug.t1 C N O K tm h nx=zP ug.si C ⟨tm,[]⟩ h nx (λtm h nx=>K tm.v h nx):=yT ..
theorem ug.sj:zP (ug.rQ r) C ⟨(ug.fr a b c d e f i l p s g j o q u y w v),[]⟩ h nx Kt =
 zM 1 c λv1=>zE v1 h λv2=>za .eql (.nil .sl) v2 .ze λv3=>sG v3 true (λk=>zM 1 d k) λv4=>sG v3 true (λk=>zE v4 h k) λv5=>sG v3 true (λk=>za .eql (.nil .sl) v5 .ze k) λv6=>yF v3 v6 (.bool false) λv7=>zP r C ⟨(ug.fr a b c d e f i l p s g j o q u y w v),v7::v6::v5::v4::v3::v3::v2::v1::[]⟩ h nx Kt:=by kernel_rfl
theorem ug.fZ:zP (ug.rR []) C ⟨(ug.fr a b c d e f i l p s g j o q u y w v),s0::sT⟩ h nx Kt =
 sG s0 true (λk=>zM 0 c k) λv1=>sG s0 true (λk=>zE v1 h k) λv2=>sG s0 true (λk=>za .neq .int v2 (I (-9223372036854775808)) k) λv3=>yF s0 v3 (.bool false) λv4=>Kt ⟨(ug.fr a b c d e f i l p s g j o q u v4 w v),v3::v2::v1::s0::s0::sT⟩ h nx:=by kernel_rfl
theorem ug.je:IR.run ug.t2 C N O K (ug.fr a b c d e f i l p s g j o q u y w v) h nx =
 zM 0 c λv1=>zE v1 h λv2=>zM 0 d λv3=>zE v3 h λv4=>za .quo .int v2 v4 λv5=>zM 0 c λv6=>zE v6 h λv7=>zM 0 d λv8=>zE v8 h λv9=>za .rem .int v7 v9 λvH=>K (ug.fr a b c d e f v5 vH p s g j o q u y w v) h nx:=by kernel_rfl
theorem ug.pq:IR.run ug.t3 C N O K (ug.fr a b c d e f i l p s g j o q u y w v) h nx =
 za .lss .int l (I 0) λv1=>K (ug.fr a b c d e f i l p s g j o q u y v1 v) h nx:=by kernel_rfl
theorem ug.fJ:IR.run ug.t4 C N O K (ug.fr a b c d e f i l p s g j o q u y w v) h nx =
 za .sub .int i (I 1) λv1=>zM 0 d λv2=>zE v2 h λv3=>za .add .int l v3 λv4=>K (ug.fr a b c d e f v1 v4 p s g j o q u y w v) h nx:=by kernel_rfl
theorem ug.v16:Arg.ev (.t (.of 16)) ⟨(ug.fr a b c d e f i l p s g j o q u y w v),[]⟩=w:=by kernel_rfl
theorem ug.fC:IR.run ug.t7 C N O K (ug.fr a b c d e f i l p s g j o q u y w v) h nx =
 uT [(I 0),.ze] [(0,1,i)] λv1=>uT [(I 0),.ze] [(0,1,l)] λv2=>zV 2 e v1 h nx λv3 h4 n5=>zV 2 f v2 h4 n5 λv6 h7 n8=>K (ug.fr a b c d e f i l p s g j o q u y w v) h7 n8:=by kernel_rfl
theorem ug.v15:Arg.ev (.t (.of 15)) ⟨(ug.fr a b c d e f i l p s g j o q u y w v),[]⟩=y:=by kernel_rfl
theorem ug.go:zR tbl N C (.of 201) [a0,a1] h nx K0=IR.run ug.t29 C N (fnO ug.res K0) (zi ug.res K0) (ug.fr a0 a1 .u .u .u .u .u .u .u .u .u .u .u .u .u .u .u .u) h nx:=yC (F:=ug) (by kernel_rfl) (λ_=>by kernel_rfl) (by kernel_rfl)
theorem ug.ret:zi ug.res K0 (ug.fr a b c d e f i l p s g j o q u y w v) h nx=zJ 2 e h λv1=>zJ 2 f h λv2=>K0 (.tup [v1,v2]) h nx:=by kernel_rfl
theorem qx.zy:IR.run qx.t0 C N O K (qx.fr a b c d e f i) h nx =
 xw a h nx λv1 h2 n3=>xw b h2 n3 λv4 h5 n6=>yK [(I 0),.ze] h5 n6 λv7 h8 n9=>K (qx.fr a b v1 v4 v7 f i) h8 n9:=by kernel_rfl
theorem qx.zx:IR.run qx.t1 C N O K (qx.fr a b c d e f i) h nx =
 zJ 2 d h λv1=>C.fn 194 (.of 194) [v1] h nx λv2 h3 n4=>za .lss .int v2 (I 0) λv5=>K (qx.fr a b c d e f v5) h3 n4:=by kernel_rfl
theorem qx.je:IR.run qx.t2 C N O K (qx.fr a b c d e f i) h nx =
 zJ 2 c h λv1=>zJ 2 d h λv2=>C.fn 193 (.of 193) [v1] h nx λv3 h4 n5=>(zJ 2 d h4 λvC=>zL vC v2 (C.fn 193 (.of 193) [v2] h4 n5 λv6 h7 n8=>zV 2 c v3 h7 n8 λv9 hA nA=>zV 2 d v6 hA nA λvF hD nE=>K (qx.fr a b c d e f i) hD nE)):=by kernel_rfl
theorem qx.v6:Arg.ev (.t (.of 6)) ⟨(qx.fr a b c d e f i),[]⟩=i:=by kernel_rfl
theorem qx.fG:IR.run qx.t5 C N O K (qx.fr a b c d e f i) h nx =
 zJ 2 c h λv1=>zJ 2 d h λv2=>C.fn 201 (.of 201) [v1,v2] h nx λv3 h4 n5=>cu 0 v3 λv6=>cu 1 v3 λv7=>yK [(I 0),.ze] h4 n5 λv8 h9 nB=>yK [(I 0),.ze] h9 nB λvG hB nC=>zV 2 v8 v6 hB nC λvD hE nF=>zV 2 vG v7 hE nF λvA hF nG=>K (qx.fr a b c d e v8 i) hF nG:=by kernel_rfl
theorem qx.qi:IR.run qx.t6 C N O K (qx.fr a b c d e f i) h nx =
 zJ 2 f h λv1=>zV 2 e v1 h nx λv2 h3 n4=>K (qx.fr a b c d e f i) h3 n4:=by kernel_rfl
theorem qx.go:zR tbl N C (.of 259) [a0,a1] h nx K0=IR.run qx.t10 C N (fnO qx.res K0) (zi qx.res K0) (qx.fr a0 a1 .u .u .u .u .u) h nx:=yC (F:=qx) (by kernel_rfl) (λ_=>by kernel_rfl) (by kernel_rfl)
theorem qx.ret:zi qx.res K0 (qx.fr a b c d e f i) h nx=zJ 2 e h λv1=>K0 v1 h nx:=by kernel_rfl
theorem zn.zy:IR.run zn.t0 C N O K (zn.fr a b c d e f i l p s) h nx =
 K (zn.fr a b .ze d e f i l p s) h nx:=by kernel_rfl
theorem zn.zx:IR.run zn.t1 C N O K (zn.fr a b c d e f i l p s) h nx =
 sLen a λv1=>sLen b λv2=>za .add .int v1 v2 λv3=>kC 1 8 [(I 0)] v3 v3 h nx λv4 h5 n6=>K (zn.fr a b c v4 e f i l p s) h5 n6:=by kernel_rfl
theorem zn.je:IR.run zn.t2 C N O K (zn.fr a b c d e f i l p s) h nx =
 K (zn.fr a b c d (I 0) f i l p s) h nx:=by kernel_rfl
theorem zn.pq:IR.run zn.t3 C N O K (zn.fr a b c d e f i l p s) h nx =
 sLen a λv1=>za .lss .int e v1 λv2=>K (zn.fr a b c d e f i l v2 s) h nx:=by kernel_rfl
theorem zn.v8:Arg.ev (.t (.of 8)) ⟨(zn.fr a b c d e f i l p s),[]⟩=p:=by kernel_rfl
theorem zn.qi:IR.run zn.t6 C N O K (zn.fr a b c d e f i l p s) h nx =
 K (zn.fr a b c d e (I 0) i l p s) h nx:=by kernel_rfl
theorem zn.fC:IR.run zn.t7 C N O K (zn.fr a b c d e f i l p s) h nx =
 K (zn.fr a b c d e f (I 0) l p s) h nx:=by kernel_rfl
theorem zn.fH:IR.run zn.t8 C N O K (zn.fr a b c d e f i l p s) h nx =
 sLen b λv1=>za .lss .int i v1 λv2=>K (zn.fr a b c d e f i l p v2) h nx:=by kernel_rfl
theorem zn.v9:Arg.ev (.t (.of 9)) ⟨(zn.fr a b c d e f i l p s),[]⟩=s:=by kernel_rfl
theorem zn.di:IR.run zn.t11 C N O K tm h nx=zP zn.r7_0 C ⟨tm,[]⟩ h nx (λtm h nx=>K tm.v h nx):=qV ..
theorem zn.zic:zP (zn.zfk r) C ⟨(zn.fr a b c d e f i l p s),[]⟩ h nx Kt =
 za .add .int e i λv1=>zH 1 d v1 λv2=>zE v2 h λv3=>zP r C ⟨(zn.fr a b c d e f i l p s),e::a::v3::v2::v1::i::e::d::[]⟩ h nx Kt:=by kernel_rfl
theorem zn.zdy:zP (zn.zfl r) C ⟨(zn.fr a b c d e f i l p s),s0::s1::s2::sT⟩ h nx Kt =
 zH 1 s1 s0 λv1=>zE v1 h λv2=>zH 1 b i λv3=>zE v3 h λv4=>za .mul .int v2 v4 λv5=>za .add .int s2 v5 λv6=>zP r C ⟨(zn.fr a b c d e f i l p s),v6::v5::v4::v3::i::b::v2::v1::s0::s1::s2::sT⟩ h nx Kt:=by kernel_rfl
theorem zn.zdz:zP (zn.zfm []) C ⟨(zn.fr a b c d e f i l p s),s0::sT⟩ h nx Kt =
 za .add .int s0 f λv1=>Kt ⟨(zn.fr a b c d e f i v1 p s),v1::f::s0::sT⟩ h nx:=by kernel_rfl
theorem zn.rP:IR.run zn.t12 C N O K (zn.fr a b c d e f i l p s) h nx =
 za .add .int e i λv1=>za .rem .int l (I 1000000000) λv2=>zH 1 d v1 λv3=>zV 1 v3 v2 h nx λv4 h5 n6=>K (zn.fr a b c d e f i l p s) h5 n6:=by kernel_rfl
theorem zn.fU:IR.run zn.t13 C N O K (zn.fr a b c d e f i l p s) h nx =
 za .quo .int l (I 1000000000) λv1=>K (zn.fr a b c d e v1 i l p s) h nx:=by kernel_rfl
theorem zn.rX:IR.run zn.t17 C N O K (zn.fr a b c d e f i l p s) h nx =
 za .add .int i (I 1) λv1=>K (zn.fr a b c d e f v1 l p s) h nx:=by kernel_rfl
theorem zn.zz3 (Inv:Nat->AV->AV->T Blk->Pa->Prop) {m:Nat} (hm:m<N) (hi:Inv m f i h nx)
  (step:∀ (m:Nat) (z5 z6 z7 z9:AV) (h:T Blk) (nx:Pa) (R:Ks Prop),Inv m z5 z6 h nx->(∀ (m':Nat) (w5 w6 w7 w9:AV) (h':T Blk) (nx':Pa),m'<m->Inv m' w5 w6 h' nx'->R (zn.fr a b c d e w5 w6 w7 p w9) h' nx'=.ok True)->IR.run zn.t19 C N O R (zn.fr a b c d e z5 z6 z7 p z9) h nx=.ok True) :
  IR.run zn.t20 C N O K (zn.fr a b c d e f i l p s) h nx=.ok True:=by
 rw [zn.t20];refine yB (λm tm h nx=>∃ z5 z6 z7 z9,tm=(zn.fr a b c d e z5 z6 z7 p z9)/\Inv m z5 z6 h nx) ?_ hm ⟨_,_,_,_,rfl,hi⟩;rintro m tm h nx R ⟨z5,z6,z7,z9,rfl,hi⟩ hR;exact step m z5 z6 z7 z9 h nx R hi λm' w5 w6 w7 w9 h' nx' hlt hi'=>hR m' _ h' nx' hlt ⟨_,_,_,_,rfl,hi'⟩
theorem zn.zfn:IR.run zn.t23 C N O K tm h nx=zP zn.zm7 C ⟨tm,[]⟩ h nx (λtm h nx=>K tm.v h nx):=yT ..
theorem zn.zsz:zP (zn.zm8 r) C ⟨(zn.fr a b c d e f i l p s),[]⟩ h nx Kt =
 sLen b λv1=>za .add .int e v1 λv2=>zP r C ⟨(zn.fr a b c d e f i l p s),b::e::d::v2::v1::b::e::d::[]⟩ h nx Kt:=by kernel_rfl
theorem zn.zs1:zP (zn.zm9 []) C ⟨(zn.fr a b c d e f i l p s),s0::s1::s2::s3::s4::s5::s6::s7::[]⟩ h nx Kt =
 sLen s0 λv1=>za .add .int s1 v1 λv2=>zH 1 s2 v2 λv3=>zE v3 h λv4=>za .add .int v4 f λv5=>zH 1 s7 s3 λv6=>zV 1 v6 v5 h nx λv7 h8 n9=>Kt ⟨(zn.fr a b c d e f i l p s),v6::v5::f::v4::v3::v2::v1::s0::s1::s2::s3::s4::s5::s6::s7::[]⟩ h8 n9:=by kernel_rfl
theorem zn.zac:IR.run zn.t27 C N O K (zn.fr a b c d e f i l p s) h nx =
 za .add .int e (I 1) λv1=>K (zn.fr a b c d v1 f i l p s) h nx:=by kernel_rfl
theorem zn.zz4 (Inv:Nat->AV->T Blk->Pa->Prop) {m:Nat} (hm:m<N) (hi:Inv m e h nx)
  (step:∀ (m:Nat) (z4 z5 z6 z7 z8 z9:AV) (h:T Blk) (nx:Pa) (R:Ks Prop),Inv m z4 h nx->(∀ (m':Nat) (w4 w5 w6 w7 w8 w9:AV) (h':T Blk) (nx':Pa),m'<m->Inv m' w4 h' nx'->R (zn.fr a b c d w4 w5 w6 w7 w8 w9) h' nx'=.ok True)->IR.run zn.t29 C N O R (zn.fr a b c d z4 z5 z6 z7 z8 z9) h nx=.ok True) :
  IR.run zn.t30 C N O K (zn.fr a b c d e f i l p s) h nx=.ok True:=by
 rw [zn.t30];refine yB (λm tm h nx=>∃ z4 z5 z6 z7 z8 z9,tm=(zn.fr a b c d z4 z5 z6 z7 z8 z9)/\Inv m z4 h nx) ?_ hm ⟨_,_,_,_,_,_,rfl,hi⟩;rintro m tm h nx R ⟨z4,z5,z6,z7,z8,z9,rfl,hi⟩ hR;exact step m z4 z5 z6 z7 z8 z9 h nx R hi λm' w4 w5 w6 w7 w8 w9 h' nx' hlt hi'=>hR m' _ h' nx' hlt ⟨_,_,_,_,_,_,rfl,hi'⟩
theorem zn.zad:IR.run zn.t33 C N O K (zn.fr a b c d e f i l p s) h nx =
 C.fn 269 (.of 269) [d] h nx λv1 h2 n3=>K (zn.fr a b v1 d e f i l p s) h2 n3:=by kernel_rfl
theorem zn.go:zR tbl N C (.of 218) [a0,a1] h nx K0=IR.run zn.t37 C N (fnO zn.res K0) (zi zn.res K0) (zn.fr a0 a1 .u .u .u .u .u .u .u .u) h nx:=yC (F:=zn) (by kernel_rfl) (λ_=>by kernel_rfl) (by kernel_rfl)
theorem zn.ret:zi zn.res K0 (zn.fr a b c d e f i l p s) h nx=K0 c h nx:=by kernel_rfl
theorem zm.zy:IR.run zm.t0 C N O K (zm.fr a b c d e f i l p s) h nx =
 K (zm.fr a b c (I 0) e f i l p s) h nx:=by kernel_rfl
theorem zm.zx:IR.run zm.t1 C N O K (zm.fr a b c d e f i l p s) h nx =
 sLen b λv1=>K (zm.fr a b c d v1 f i l p s) h nx:=by kernel_rfl
theorem zm.je:IR.run zm.t2 C N O K tm h nx=zP zm.r2_0 C ⟨tm,[]⟩ h nx (λtm h nx=>K tm.v h nx):=qV ..
theorem zm.zid:zP (zm.zfo r) C ⟨(zm.fr a b c d e f i l p s),[]⟩ h nx Kt =
 za .add .int c e λv1=>zH 1 a v1 λv2=>zE v2 h λv3=>za .mul .int v3 (I 1000000000) λv4=>zP r C ⟨(zm.fr a b c d e f i l p s),a::v4::v3::v2::v1::e::c::a::[]⟩ h nx Kt:=by kernel_rfl
theorem zm.zxu:zP (zm.zvr []) C ⟨(zm.fr a b c d e f i l p s),s0::s1::sT⟩ h nx Kt =
 za .add .int c e λv1=>za .sub .int v1 (I 1) λv2=>zH 1 s0 v2 λv3=>zE v3 h λv4=>za .add .int s1 v4 λv5=>Kt ⟨(zm.fr a b c d e v5 i l p s),v5::v4::v3::v2::v1::e::c::s0::s1::sT⟩ h nx:=by kernel_rfl
theorem zm.pq:IR.run zm.t3 C N O K tm h nx=zP zm.r3_0 C ⟨tm,[]⟩ h nx (λtm h nx=>K tm.v h nx):=qV ..
theorem zm.zie:zP (zm.zfp r) C ⟨(zm.fr a b c d e f i l p s),[]⟩ h nx Kt =
 za .sub .int e (I 1) λv1=>zH 1 b v1 λv2=>zE v2 h λv3=>za .quo .int f v3 λv4=>zP r C ⟨(zm.fr a b c d e f i l p s),f::v4::v3::v2::v1::e::b::f::[]⟩ h nx Kt:=by kernel_rfl
theorem zm.zif:zP (zm.zfq []) C ⟨(zm.fr a b c d e f i l p s),s0::s1::sT⟩ h nx Kt =
 za .sub .int e (I 1) λv1=>zH 1 b v1 λv2=>zE v2 h λv3=>za .rem .int s0 v3 λv4=>Kt ⟨(zm.fr a b c d e f s1 v4 p s),v4::v3::v2::v1::e::b::s0::s1::sT⟩ h nx:=by kernel_rfl
theorem zm.fJ:IR.run zm.t4 C N O K tm h nx=zP zm.aZ C ⟨tm,[]⟩ h nx (λtm h nx=>K tm.v h nx):=qV ..
theorem zm.eu:zP (zm.aJ r) C ⟨(zm.fr a b c d e f i l p s),[]⟩ h nx Kt =
 za .geq .int i (I 1000000000) λv1=>sG v1 false (λk=>k i) λv2=>sG v1 false (λk=>k b) λv3=>sG v1 false (λk=>k e) λv4=>sG v1 false (λk=>za .sub .int v4 (I 2) k) λv5=>sG v1 false (λk=>zH 1 v3 v5 k) λv6=>zP r C ⟨(zm.fr a b c d e f i l p s),v6::v5::v4::v3::v2::v1::v1::i::[]⟩ h nx Kt:=by kernel_rfl
theorem zm.aj:zP (zm.aK r) C ⟨(zm.fr a b c d e f i l p s),s0::s1::s2::s3::s4::s5::sT⟩ h nx Kt =
 sG s5 false (λk=>zE s0 h k) λv1=>sG s5 false (λk=>za .mul .int s4 v1 k) λv2=>sG s5 false (λk=>k l) λv3=>sG s5 false (λk=>za .mul .int v3 (I 1000000000) k) λv4=>sG s5 false (λk=>k a) λv5=>sG s5 false (λk=>k c) λv6=>sG s5 false (λk=>k e) λv7=>sG s5 false (λk=>za .add .int v6 v7 k) λv8=>zP r C ⟨(zm.fr a b c d e f i l p s),v8::v7::v6::v5::v4::v3::v2::v1::s0::s1::s2::s3::s4::s5::sT⟩ h nx Kt:=by kernel_rfl
theorem zm.oN:zP (zm.zae []) C ⟨(zm.fr a b c d e f i l p s),s0::s1::s2::s3::s4::s5::s6::s7::s8::s9::s10::s11::s12::s13::sT⟩ h nx Kt =
 sG s13 false (λk=>za .sub .int s0 (I 2) k) λv1=>sG s13 false (λk=>zH 1 s3 v1 k) λv2=>sG s13 false (λk=>zE v2 h k) λv3=>sG s13 false (λk=>za .add .int s4 v3 k) λv4=>sG s13 false (λk=>za .gtr .int s6 v4 k) λv5=>yF s13 (.bool true) v5 λv6=>Kt ⟨(zm.fr a b c d e f i l v6 s),v5::v4::v3::v2::v1::s0::s1::s2::s3::s4::s5::s6::s7::s8::s9::s10::s11::s12::s13::sT⟩ h nx:=by kernel_rfl
theorem zm.v8:Arg.ev (.t (.of 8)) ⟨(zm.fr a b c d e f i l p s),[]⟩=p:=by kernel_rfl
theorem zm.fC:IR.run zm.t7 C N O K (zm.fr a b c d e f i l p s) h nx =
 za .sub .int i (I 1) λv1=>K (zm.fr a b c d e f v1 l p s) h nx:=by kernel_rfl
theorem zm.fH:IR.run zm.t8 C N O K (zm.fr a b c d e f i l p s) h nx =
 za .sub .int e (I 1) λv1=>zH 1 b v1 λv2=>zE v2 h λv3=>za .add .int l v3 λv4=>K (zm.fr a b c d e f i v4 p s) h nx:=by kernel_rfl
theorem zm.fK:IR.run zm.t9 C N O K (zm.fr a b c d e f i l p s) h nx =
 za .geq .int l (I 1000000000) λv1=>K (zm.fr a b c d e f i l p v1) h nx:=by kernel_rfl
theorem zm.fT:IR.run zm.t10 C N O K (zm.fr a b c d e f i l p s) h nx =
 K (zm.fr a b c i e f i l p s) h nx:=by kernel_rfl
theorem zm.v9:Arg.ev (.t (.of 9)) ⟨(zm.fr a b c d e f i l p s),[]⟩=s:=by kernel_rfl
theorem zm.zna (Inv:Nat->AV->AV->T Blk->Pa->Prop) {m:Nat} (hm:m<N) (hi:Inv m i l h nx)
  (step:∀ (m:Nat) (z3 z6 z7 z8 z9:AV) (h:T Blk) (nx:Pa) (R:Ks Prop),Inv m z6 z7 h nx->(∀ (m':Nat) (w3 w6 w7 w8 w9:AV) (h':T Blk) (nx':Pa),m'<m->Inv m' w6 w7 h' nx'->R (zm.fr a b c w3 e f w6 w7 w8 w9) h' nx'=.ok True)->IR.run zm.t17 C N O R (zm.fr a b c z3 e f z6 z7 z8 z9) h nx=.ok True) :
  IR.run zm.t18 C N O K (zm.fr a b c d e f i l p s) h nx=.ok True:=by
 rw [zm.t18];refine yB (λm tm h nx=>∃ z3 z6 z7 z8 z9,tm=(zm.fr a b c z3 e f z6 z7 z8 z9)/\Inv m z6 z7 h nx) ?_ hm ⟨_,_,_,_,_,rfl,hi⟩;rintro m tm h nx R ⟨z3,z6,z7,z8,z9,rfl,hi⟩ hR;exact step m z3 z6 z7 z8 z9 h nx R hi λm' w3 w6 w7 w8 w9 h' nx' hlt hi'=>hR m' _ h' nx' hlt ⟨_,_,_,_,_,rfl,hi'⟩
theorem zm.ah:IR.run zm.t20 C N O K (zm.fr a b c d e f i l p s) h nx =
 K (zm.fr a b c i e f i l p s) h nx:=by kernel_rfl
theorem zm.go:zR tbl N C (.of 270) [a0,a1,a2] h nx K0=IR.run zm.t26 C N (fnO zm.res K0) (zi zm.res K0) (zm.fr a0 a1 a2 .u .u .u .u .u .u .u) h nx:=yC (F:=zm) (by kernel_rfl) (λ_=>by kernel_rfl) (by kernel_rfl)
theorem zm.ret:zi zm.res K0 (zm.fr a b c d e f i l p s) h nx=K0 d h nx:=by kernel_rfl
theorem zb.zy:IR.run zb.t0 C N O K (zb.fr a b c d e f i l p s g j o q u y w v z E A B D G H M P L Q) h nx =
 K (zb.fr a b .ze .ze e f i l p s g j o q u y w v z E A B D G H M P L Q) h nx:=by kernel_rfl
theorem zb.zx:IR.run zb.t1 C N O K (zb.fr a b c d e f i l p s g j o q u y w v z E A B D G H M P L Q) h nx =
 C.fn 216 (.of 216) [a,b] h nx λv1 h2 n3=>za .lss .int v1 (I 0) λv4=>K (zb.fr a b c d e f i l p s g j o q u y w v z E A v4 D G H M P L Q) h2 n3:=by kernel_rfl
theorem zb.je:IR.run zb.t2 C N O K (zb.fr a b c d e f i l p s g j o q u y w v z E A B D G H M P L Q) h nx =
 K (zb.fr a b .ze a e f i l p s g j o q u y w v z E A B D G H M P L Q) h nx:=by kernel_rfl
theorem zb.v21:Arg.ev (.t (.of 21)) ⟨(zb.fr a b c d e f i l p s g j o q u y w v z E A B D G H M P L Q),[]⟩=B:=by kernel_rfl
theorem zb.qi:IR.run zb.t6 C N O K (zb.fr a b c d e f i l p s g j o q u y w v z E A B D G H M P L Q) h nx =
 sLen b λv1=>za .eql .int v1 (I 1) λv2=>K (zb.fr a b c d e f i l p s g j o q u y w v z E A B v2 G H M P L Q) h nx:=by kernel_rfl
theorem zb.fC:IR.run zb.t7 C N O K (zb.fr a b c d e f i l p s g j o q u y w v z E A B D G H M P L Q) h nx =
 zH 1 b (I 0) λv1=>zE v1 h λv2=>C.fn 268 (.of 268) [a,v2] h nx λv3 h4 n5=>cu 0 v3 λv6=>cu 1 v3 λv7=>K (zb.fr a b c d v6 v7 i l p s g j o q u y w v z E A B D G H M P L Q) h4 n5:=by kernel_rfl
theorem zb.fH:IR.run zb.t8 C N O K (zb.fr a b c d e f i l p s g j o q u y w v z E A B D G H M P L Q) h nx =
 yZ 1 1 [(I 0)] [(0,1,f)] h nx λv1 h2 n3=>C.fn 269 (.of 269) [v1] h2 n3 λv4 h5 n6=>K (zb.fr a b e v4 e f i l p s g j o q u y w v z E A B D G H M P L Q) h5 n6:=by kernel_rfl
theorem zb.v22:Arg.ev (.t (.of 22)) ⟨(zb.fr a b c d e f i l p s g j o q u y w v z E A B D G H M P L Q),[]⟩=D:=by kernel_rfl
theorem zb.fU:IR.run zb.t13 C N O K (zb.fr a b c d e f i l p s g j o q u y w v z E A B D G H M P L Q) h nx =
 sLen b λv1=>za .sub .int v1 (I 1) λv2=>zH 1 b v2 λv3=>zE v3 h λv4=>za .add .int v4 (I 1) λv5=>za .quo .int (I 1000000000) v5 λv6=>yZ 1 1 [(I 0)] [(0,1,v6)] h nx λv7 h8 n9=>K (zb.fr a b c d e f v7 l p s g j o q u y w v z E A B D G H M P L Q) h8 n9:=by kernel_rfl
theorem zb.sD:IR.run zb.t14 C N O K (zb.fr a b c d e f i l p s g j o q u y w v z E A B D G H M P L Q) h nx =
 C.fn 218 (.of 218) [b,i] h nx λv1 h2 n3=>K (zb.fr a b c d e f i v1 p s g j o q u y w v z E A B D G H M P L Q) h2 n3:=by kernel_rfl
theorem zb.oC:IR.run zb.t15 C N O K (zb.fr a b c d e f i l p s g j o q u y w v z E A B D G H M P L Q) h nx =
 sLen l λv1=>K (zb.fr a b c d e f i l v1 s g j o q u y w v z E A B D G H M P L Q) h nx:=by kernel_rfl
theorem zb.aI:IR.run zb.t16 C N O K (zb.fr a b c d e f i l p s g j o q u y w v z E A B D G H M P L Q) h nx =
 yZ 1 0 [(I 0)] [] h nx λv1 h2 n3=>C.fn 218 (.of 218) [a,i] h2 n3 λv4 h5 n6=>sO 1 8 v1 v4 h5 n6 λv7 h8 n9=>K (zb.fr a b c d e f i l p v7 g j o q u y w v z E A B D G H M P L Q) h8 n9:=by kernel_rfl
theorem zb.rX:IR.run zb.t17 C N O K (zb.fr a b c d e f i l p s g j o q u y w v z E A B D G H M P L Q) h nx =
 sLen s λv1=>sLen a λv2=>za .add .int v2 (I 1) λv3=>za .lss .int v1 v3 λv4=>K (zb.fr a b c d e f i l p s g j o q u y w v z E A B D v4 H M P L Q) h nx:=by kernel_rfl
theorem zb.v23:Arg.ev (.t (.of 23)) ⟨(zb.fr a b c d e f i l p s g j o q u y w v z E A B D G H M P L Q),[]⟩=G:=by kernel_rfl
theorem zb.ah:IR.run zb.t20 C N O K (zb.fr a b c d e f i l p s g j o q u y w v z E A B D G H M P L Q) h nx =
 yZ 1 1 [(I 0)] [(0,1,(I 0))] h nx λv1 h2 n3=>sO 1 8 s v1 h2 n3 λv4 h5 n6=>K (zb.fr a b c d e f i l p v4 g j o q u y w v z E A B D G H M P L Q) h5 n6:=by kernel_rfl
theorem zb.zm5 (Inv:Nat->AV->T Blk->Pa->Prop) {m:Nat} (hm:m<N) (hi:Inv m s h nx)
  (step:∀ (m:Nat) (z9 zA:AV) (h:T Blk) (nx:Pa) (R:Ks Prop),Inv m z9 h nx->(∀ (m':Nat) (w9 wA:AV) (h':T Blk) (nx':Pa),m'<m->Inv m' w9 h' nx'->R (zb.fr a b c d e f i l p w9 g j o q u y w v z E A B D wA H M P L Q) h' nx'=.ok True)->IR.run zb.t22 C N O R (zb.fr a b c d e f i l p z9 g j o q u y w v z E A B D zA H M P L Q) h nx=.ok True) :
  IR.run zb.t23 C N O K (zb.fr a b c d e f i l p s g j o q u y w v z E A B D G H M P L Q) h nx=.ok True:=by
 rw [zb.t23];refine yB (λm tm h nx=>∃ z9 zA,tm=(zb.fr a b c d e f i l p z9 g j o q u y w v z E A B D zA H M P L Q)/\Inv m z9 h nx) ?_ hm ⟨_,_,rfl,hi⟩;rintro m tm h nx R ⟨z9,zA,rfl,hi⟩ hR;exact step m z9 zA h nx R hi λm' w9 wA h' nx' hlt hi'=>hR m' _ h' nx' hlt ⟨_,_,rfl,hi'⟩
theorem zb.zaj:IR.run zb.t25 C N O K (zb.fr a b c d e f i l p s g j o q u y w v z E A B D G H M P L Q) h nx =
 sLen s λv1=>za .sub .int v1 p λv2=>kC 1 8 [(I 0)] v2 v2 h nx λv3 h4 n5=>K (zb.fr a b c d e f i l p s v3 j o q u y w v z E A B D G H M P L Q) h4 n5:=by kernel_rfl
theorem zb.zm6:IR.run zb.t26 C N O K (zb.fr a b c d e f i l p s g j o q u y w v z E A B D G H M P L Q) h nx =
 sLen s λv1=>za .sub .int v1 p λv2=>za .sub .int v2 (I 1) λv3=>K (zb.fr a b c d e f i l p s g v3 o q u y w v z E A B D G H M P L Q) h nx:=by kernel_rfl
theorem zb.zac:IR.run zb.t27 C N O K (zb.fr a b c d e f i l p s g j o q u y w v z E A B D G H M P L Q) h nx =
 za .geq .int j (I 0) λv1=>K (zb.fr a b c d e f i l p s g j o q u y w v z E A B D G v1 M P L Q) h nx:=by kernel_rfl
theorem zb.v24:Arg.ev (.t (.of 24)) ⟨(zb.fr a b c d e f i l p s g j o q u y w v z E A B D G H M P L Q),[]⟩=H:=by kernel_rfl
theorem zb.zfr:IR.run zb.t30 C N O K (zb.fr a b c d e f i l p s g j o q u y w v z E A B D G H M P L Q) h nx =
 C.fn 270 (.of 270) [s,l,j] h nx λv1 h2 n3=>K (zb.fr a b c d e f i l p s g j v1 q u y w v z E A B D G H M P L Q) h2 n3:=by kernel_rfl
theorem zb.zfs:IR.run zb.t31 C N O K (zb.fr a b c d e f i l p s g j o q u y w v z E A B D G H M P L Q) h nx =
 K (zb.fr a b c d e f i l p s g j o (I 0) u y w v z E A B D G H M P L Q) h nx:=by kernel_rfl
theorem zb.zft:IR.run zb.t32 C N O K (zb.fr a b c d e f i l p s g j o q u y w v z E A B D G H M P L Q) h nx =
 K (zb.fr a b c d e f i l p s g j o q (I 0) y w v z E A B D G H M P L Q) h nx:=by kernel_rfl
theorem zb.zad:IR.run zb.t33 C N O K (zb.fr a b c d e f i l p s g j o q u y w v z E A B D G H M P L Q) h nx =
 za .lss .int u p λv1=>K (zb.fr a b c d e f i l p s g j o q u y w v z E A B D G H v1 P L Q) h nx:=by kernel_rfl
theorem zb.v25:Arg.ev (.t (.of 25)) ⟨(zb.fr a b c d e f i l p s g j o q u y w v z E A B D G H M P L Q),[]⟩=M:=by kernel_rfl
theorem zb.zfu:IR.run zb.t36 C N O K (zb.fr a b c d e f i l p s g j o q u y w v z E A B D G H M P L Q) h nx =
 zH 1 l u λv1=>zE v1 h λv2=>za .mul .int o v2 λv3=>za .add .int v3 q λv4=>K (zb.fr a b c d e f i l p s g j o q u v4 w v z E A B D G H M P L Q) h nx:=by kernel_rfl
theorem zb.znb:IR.run zb.t37 C N O K (zb.fr a b c d e f i l p s g j o q u y w v z E A B D G H M P L Q) h nx =
 za .add .int u j λv1=>zH 1 s v1 λv2=>zE v2 h λv3=>za .rem .int y (I 1000000000) λv4=>za .sub .int v3 v4 λv5=>K (zb.fr a b c d e f i l p s g j o q u y v5 v z E A B D G H M P L Q) h nx:=by kernel_rfl
theorem zb.znc:IR.run zb.t38 C N O K (zb.fr a b c d e f i l p s g j o q u y w v z E A B D G H M P L Q) h nx =
 za .quo .int y (I 1000000000) λv1=>K (zb.fr a b c d e f i l p s g j o v1 u y w v z E A B D G H M P L Q) h nx:=by kernel_rfl
theorem zb.zz5:IR.run zb.t39 C N O K (zb.fr a b c d e f i l p s g j o q u y w v z E A B D G H M P L Q) h nx =
 za .lss .int w (I 0) λv1=>K (zb.fr a b c d e f i l p s g j o q u y w v z E A B D G H M v1 L Q) h nx:=by kernel_rfl
theorem zb.zfv:IR.run zb.t40 C N O K (zb.fr a b c d e f i l p s g j o q u y w v z E A B D G H M P L Q) h nx =
 za .add .int w (I 1000000000) λv1=>K (zb.fr a b c d e f i l p s g j o q u y v1 v z E A B D G H M P L Q) h nx:=by kernel_rfl
theorem zb.zfw:IR.run zb.t41 C N O K (zb.fr a b c d e f i l p s g j o q u y w v z E A B D G H M P L Q) h nx =
 za .add .int q (I 1) λv1=>K (zb.fr a b c d e f i l p s g j o v1 u y w v z E A B D G H M P L Q) h nx:=by kernel_rfl
theorem zb.v26:Arg.ev (.t (.of 26)) ⟨(zb.fr a b c d e f i l p s g j o q u y w v z E A B D G H M P L Q),[]⟩=P:=by kernel_rfl
theorem zb.znd:IR.run zb.t45 C N O K (zb.fr a b c d e f i l p s g j o q u y w v z E A B D G H M P L Q) h nx =
 za .add .int u j λv1=>zH 1 s v1 λv2=>zV 1 v2 w h nx λv3 h4 n5=>K (zb.fr a b c d e f i l p s g j o q u y w v z E A B D G H M P L Q) h4 n5:=by kernel_rfl
theorem zb.zne:IR.run zb.t51 C N O K (zb.fr a b c d e f i l p s g j o q u y w v z E A B D G H M P L Q) h nx =
 za .add .int u (I 1) λv1=>K (zb.fr a b c d e f i l p s g j o q v1 y w v z E A B D G H M P L Q) h nx:=by kernel_rfl
theorem zb.zz6 (Inv:Nat->AV->AV->T Blk->Pa->Prop) {m:Nat} (hm:m<N) (hi:Inv m q u h nx)
  (step:∀ (m:Nat) (zB zC zD zF zG zI:AV) (h:T Blk) (nx:Pa) (R:Ks Prop),Inv m zB zC h nx->(∀ (m':Nat) (wB wC wD wE wF wG:AV) (h':T Blk) (nx':Pa),m'<m->Inv m' wB wC h' nx'->R (zb.fr a b c d e f i l p s g j o wB wC wD wE v z E A B D G H wF wG L Q) h' nx'=.ok True)->IR.run zb.t53 C N O R (zb.fr a b c d e f i l p s g j o zB zC zD zF v z E A B D G H zG zI L Q) h nx=.ok True) :
  IR.run zb.t54 C N O K (zb.fr a b c d e f i l p s g j o q u y w v z E A B D G H M P L Q) h nx=.ok True:=by
 rw [zb.t54];refine yB (λm tm h nx=>∃ zB zC zD zF zG zI,tm=(zb.fr a b c d e f i l p s g j o zB zC zD zF v z E A B D G H zG zI L Q)/\Inv m zB zC h nx) ?_ hm ⟨_,_,_,_,_,_,rfl,hi⟩;rintro m tm h nx R ⟨zB,zC,zD,zF,zG,zI,rfl,hi⟩ hR;exact step m zB zC zD zF zG zI h nx R hi λm' wB wC wD wE wF wG h' nx' hlt hi'=>hR m' _ h' nx' hlt ⟨_,_,_,_,_,_,rfl,hi'⟩
theorem zb.znf:IR.run zb.t57 C N O K tm h nx=zP zb.zng C ⟨tm,[]⟩ h nx (λtm h nx=>K tm.v h nx):=yT ..
theorem zb.zs2:zP (zb.znh r) C ⟨(zb.fr a b c d e f i l p s g j o q u y w v z E A B D G H M P L Q),[]⟩ h nx Kt =
 za .add .int j p λv1=>za .add .int j p λv2=>zP r C ⟨(zb.fr a b c d e f i l p s g j o q u y w v z E A B D G H M P L Q),v2::p::j::s::v1::p::j::s::[]⟩ h nx Kt:=by kernel_rfl
theorem zb.zs3:zP (zb.zni []) C ⟨(zb.fr a b c d e f i l p s g j o q u y w v z E A B D G H M P L Q),s0::s1::s2::s3::s4::s5::s6::s7::[]⟩ h nx Kt =
 zH 1 s3 s0 λv1=>zE v1 h λv2=>za .sub .int v2 q λv3=>zH 1 s7 s4 λv4=>zV 1 v4 v3 h nx λv5 h6 n7=>Kt ⟨(zb.fr a b c d e f i l p s g j o q u y w v z E A B D G H M P L Q),v4::v3::q::v2::v1::s0::s1::s2::s3::s4::s5::s6::s7::[]⟩ h6 n7:=by kernel_rfl
theorem zb.znj:IR.run zb.t58 C N O K (zb.fr a b c d e f i l p s g j o q u y w v z E A B D G H M P L Q) h nx =
 za .add .int j p λv1=>zH 1 s v1 λv2=>zE v2 h λv3=>za .lss .int v3 (I 0) λv4=>K (zb.fr a b c d e f i l p s g j o q u y w v z E A B D G H M P v4 Q) h nx:=by kernel_rfl
theorem zb.znk:IR.run zb.t59 C N O K (zb.fr a b c d e f i l p s g j o q u y w v z E A B D G H M P L Q) h nx =
 za .sub .int o (I 1) λv1=>K (zb.fr a b c d e f i l p s g j v1 q u y w v z E A B D G H M P L Q) h nx:=by kernel_rfl
theorem zb.znl:IR.run zb.t60 C N O K (zb.fr a b c d e f i l p s g j o q u y w v z E A B D G H M P L Q) h nx =
 K (zb.fr a b c d e f i l p s g j o q u y w (I 0) z E A B D G H M P L Q) h nx:=by kernel_rfl
theorem zb.zj0:IR.run zb.t61 C N O K (zb.fr a b c d e f i l p s g j o q u y w v z E A B D G H M P L Q) h nx =
 K (zb.fr a b c d e f i l p s g j o q u y w v (I 0) E A B D G H M P L Q) h nx:=by kernel_rfl
theorem zb.zz7:IR.run zb.t62 C N O K (zb.fr a b c d e f i l p s g j o q u y w v z E A B D G H M P L Q) h nx =
 za .lss .int z p λv1=>K (zb.fr a b c d e f i l p s g j o q u y w v z E A B D G H M P L v1) h nx:=by kernel_rfl
theorem zb.v28:Arg.ev (.t (.of 28)) ⟨(zb.fr a b c d e f i l p s g j o q u y w v z E A B D G H M P L Q),[]⟩=Q:=by kernel_rfl
theorem zb.zz8:IR.run zb.t65 C N O K tm h nx=zP zb.znm C ⟨tm,[]⟩ h nx (λtm h nx=>K tm.v h nx):=qV ..
theorem zb.zs4:zP (zb.znn r) C ⟨(zb.fr a b c d e f i l p s g j o q u y w v z E A B D G H M P L Q),[]⟩ h nx Kt =
 za .add .int z j λv1=>zH 1 s v1 λv2=>zE v2 h λv3=>zP r C ⟨(zb.fr a b c d e f i l p s g j o q u y w v z E A B D G H M P L Q),z::l::v3::v2::v1::j::z::s::[]⟩ h nx Kt:=by kernel_rfl
theorem zb.zs5:zP (zb.zno []) C ⟨(zb.fr a b c d e f i l p s g j o q u y w v z E A B D G H M P L Q),s0::s1::s2::sT⟩ h nx Kt =
 zH 1 s1 s0 λv1=>zE v1 h λv2=>za .add .int s2 v2 λv3=>za .add .int v3 v λv4=>Kt ⟨(zb.fr a b c d e f i l p s g j o q u y w v z v4 A B D G H M P L Q),v4::v::v3::v2::v1::s0::s1::s2::sT⟩ h nx:=by kernel_rfl
theorem zb.zj1:IR.run zb.t66 C N O K (zb.fr a b c d e f i l p s g j o q u y w v z E A B D G H M P L Q) h nx =
 za .add .int z j λv1=>za .rem .int E (I 1000000000) λv2=>zH 1 s v1 λv3=>zV 1 v3 v2 h nx λv4 h5 n6=>K (zb.fr a b c d e f i l p s g j o q u y w v z E A B D G H M P L Q) h5 n6:=by kernel_rfl
theorem zb.znp:IR.run zb.t67 C N O K (zb.fr a b c d e f i l p s g j o q u y w v z E A B D G H M P L Q) h nx =
 za .quo .int E (I 1000000000) λv1=>K (zb.fr a b c d e f i l p s g j o q u y w v1 z E A B D G H M P L Q) h nx:=by kernel_rfl
theorem zb.znq:IR.run zb.t71 C N O K (zb.fr a b c d e f i l p s g j o q u y w v z E A B D G H M P L Q) h nx =
 za .add .int z (I 1) λv1=>K (zb.fr a b c d e f i l p s g j o q u y w v v1 E A B D G H M P L Q) h nx:=by kernel_rfl
theorem zb.zz9 (Inv:Nat->AV->AV->T Blk->Pa->Prop) {m:Nat} (hm:m<N) (hi:Inv m v z h nx)
  (step:∀ (m:Nat) (zK zN zO zQ:AV) (h:T Blk) (nx:Pa) (R:Ks Prop),Inv m zK zN h nx->(∀ (m':Nat) (wH wI wJ wK:AV) (h':T Blk) (nx':Pa),m'<m->Inv m' wH wI h' nx'->R (zb.fr a b c d e f i l p s g j o q u y w wH wI wJ A B D G H M P L wK) h' nx'=.ok True)->IR.run zb.t73 C N O R (zb.fr a b c d e f i l p s g j o q u y w zK zN zO A B D G H M P L zQ) h nx=.ok True) :
  IR.run zb.t74 C N O K (zb.fr a b c d e f i l p s g j o q u y w v z E A B D G H M P L Q) h nx=.ok True:=by
 rw [zb.t74];refine yB (λm tm h nx=>∃ zK zN zO zQ,tm=(zb.fr a b c d e f i l p s g j o q u y w zK zN zO A B D G H M P L zQ)/\Inv m zK zN h nx) ?_ hm ⟨_,_,_,_,rfl,hi⟩;rintro m tm h nx R ⟨zK,zN,zO,zQ,rfl,hi⟩ hR;exact step m zK zN zO zQ h nx R hi λm' wH wI wJ wK h' nx' hlt hi'=>hR m' _ h' nx' hlt ⟨_,_,_,_,rfl,hi'⟩
theorem zb.znr:IR.run zb.t77 C N O K tm h nx=zP zb.zns C ⟨tm,[]⟩ h nx (λtm h nx=>K tm.v h nx):=yT ..
theorem zb.zs6:zP (zb.znt r) C ⟨(zb.fr a b c d e f i l p s g j o q u y w v z E A B D G H M P L Q),[]⟩ h nx Kt =
 za .add .int j p λv1=>za .add .int j p λv2=>zP r C ⟨(zb.fr a b c d e f i l p s g j o q u y w v z E A B D G H M P L Q),v2::p::j::s::v1::p::j::s::[]⟩ h nx Kt:=by kernel_rfl
theorem zb.zs7:zP (zb.znu []) C ⟨(zb.fr a b c d e f i l p s g j o q u y w v z E A B D G H M P L Q),s0::s1::s2::s3::s4::s5::s6::s7::[]⟩ h nx Kt =
 zH 1 s3 s0 λv1=>zE v1 h λv2=>za .add .int v2 v λv3=>zH 1 s7 s4 λv4=>zV 1 v4 v3 h nx λv5 h6 n7=>Kt ⟨(zb.fr a b c d e f i l p s g j o q u y w v z E A B D G H M P L Q),v4::v3::v::v2::v1::s0::s1::s2::s3::s4::s5::s6::s7::[]⟩ h6 n7:=by kernel_rfl
theorem zb.v27:Arg.ev (.t (.of 27)) ⟨(zb.fr a b c d e f i l p s g j o q u y w v z E A B D G H M P L Q),[]⟩=L:=by kernel_rfl
theorem zb.qaa:IR.run zb.t83 C N O K (zb.fr a b c d e f i l p s g j o q u y w v z E A B D G H M P L Q) h nx =
 zH 1 g j λv1=>zV 1 v1 o h nx λv2 h3 n4=>K (zb.fr a b c d e f i l p s g j o q u y w v z E A B D G H M P L Q) h3 n4:=by kernel_rfl
theorem zb.qab:IR.run zb.t90 C N O K (zb.fr a b c d e f i l p s g j o q u y w v z E A B D G H M P L Q) h nx =
 za .sub .int j (I 1) λv1=>K (zb.fr a b c d e f i l p s g v1 o q u y w v z E A B D G H M P L Q) h nx:=by kernel_rfl
theorem zb.qac (Inv:Nat->AV->T Blk->Pa->Prop) {m:Nat} (hm:m<N) (hi:Inv m j h nx)
  (step:∀ (m:Nat) (zS zT zB zC zD zF zK zN zO zU zG zI zW zQ:AV) (h:T Blk) (nx:Pa) (R:Ks Prop),Inv m zS h nx->(∀ (m':Nat) (wL wM wB wC wD wE wH wI wJ wN wF wG wO wK:AV) (h':T Blk) (nx':Pa),m'<m->Inv m' wL h' nx'->R (zb.fr a b c d e f i l p s g wL wM wB wC wD wE wH wI wJ A B D G wN wF wG wO wK) h' nx'=.ok True)->IR.run zb.t92 C N O R (zb.fr a b c d e f i l p s g zS zT zB zC zD zF zK zN zO A B D G zU zG zI zW zQ) h nx=.ok True) :
  IR.run zb.t93 C N O K (zb.fr a b c d e f i l p s g j o q u y w v z E A B D G H M P L Q) h nx=.ok True:=by
 rw [zb.t93];refine yB (λm tm h nx=>∃ zS zT zB zC zD zF zK zN zO zU zG zI zW zQ,tm=(zb.fr a b c d e f i l p s g zS zT zB zC zD zF zK zN zO A B D G zU zG zI zW zQ)/\Inv m zS h nx) ?_ hm ⟨_,_,_,_,_,_,_,_,_,_,_,_,_,_,rfl,hi⟩;rintro m tm h nx R ⟨zS,zT,zB,zC,zD,zF,zK,zN,zO,zU,zG,zI,zW,zQ,rfl,hi⟩ hR;exact step m zS zT zB zC zD zF zK zN zO zU zG zI zW zQ h nx R hi λm' wL wM wB wC wD wE wH wI wJ wN wF wG wO wK h' nx' hlt hi'=>hR m' _ h' nx' hlt ⟨_,_,_,_,_,_,_,_,_,_,_,_,_,_,rfl,hi'⟩
theorem zb.znv:IR.run zb.t96 C N O K (zb.fr a b c d e f i l p s g j o q u y w v z E A B D G H M P L Q) h nx =
 vJ 1 s none (some p) none λv1=>zH 1 i (I 0) λv2=>zE v2 h λv3=>C.fn 269 (.of 269) [v1] h nx λv4 h5 n6=>(zE v2 h5 λvE=>zL vE v3 ((zH 1 i (I 0) λvF=>zL vF v2 (zL i i (C.fn 268 (.of 268) [v4,v3] h5 n6 λv7 h8 n9=>cu 0 v7 λvH=>cu 1 v7 λvG=>K (zb.fr a b c d e f i l p s g j o q u y w v z E vH B D G H M P L Q) h8 n9))))):=by kernel_rfl
theorem zb.qad:IR.run zb.t97 C N O K (zb.fr a b c d e f i l p s g j o q u y w v z E A B D G H M P L Q) h nx =
 C.fn 269 (.of 269) [g] h nx λv1 h2 n3=>K (zb.fr a b v1 A e f i l p s g j o q u y w v z E A B D G H M P L Q) h2 n3:=by kernel_rfl
theorem zb.go:zR tbl N C (.of 213) [a0,a1] h nx K0=IR.run zb.t109 C N (fnO zb.res K0) (zi zb.res K0) (zb.fr a0 a1 .u .u .u .u .u .u .u .u .u .u .u .u .u .u .u .u .u .u .u .u .u .u .u .u .u .u .u) h nx:=yC (F:=zb) (by kernel_rfl) (λ_=>by kernel_rfl) (by kernel_rfl)
theorem zb.ret:zi zb.res K0 (zb.fr a b c d e f i l p s g j o q u y w v z E A B D G H M P L Q) h nx=K0 (.tup [c,d]) h nx:=by kernel_rfl
theorem qg.zy:IR.run qg.t0 C N O K (qg.fr a b c d e f i) h nx =
 xw a h nx λv1 h2 n3=>xw b h2 n3 λv4 h5 n6=>yK [(.bool false),.ze] h5 n6 λv7 h8 n9=>K (qg.fr a b v1 v4 v7 f i) h8 n9:=by kernel_rfl
theorem qg.zx:IR.run qg.t1 C N O K (qg.fr a b c d e f i) h nx =
 zM 0 c λv1=>zE v1 h λv2=>zM 0 d λv3=>zE v3 h λv4=>za .eql .bool v2 v4 λv5=>K (qg.fr a b c d e v5 i) h nx:=by kernel_rfl
theorem qg.je:IR.run qg.t2 C N O K (qg.fr a b c d e f i) h nx =
 zM 0 c λv1=>zE v1 h λv2=>zM 1 c λv3=>zE v3 h λv4=>zM 1 d λv5=>zE v5 h λv6=>C.fn 215 (.of 215) [v4,v6] h nx λv7 h8 n9=>(zE v1 h8 λvA=>zL vA v2 ((zM 0 c λvB=>zL vB v1 (C.fn 214 (.of 214) [v2,v7] h8 n9 λvH hC nD=>zV 2 e vH hC nD λvE hG nH=>K (qg.fr a b c d e f i) hG nH)))):=by kernel_rfl
theorem qg.v5:Arg.ev (.t (.of 5)) ⟨(qg.fr a b c d e f i),[]⟩=f:=by kernel_rfl
theorem qg.qi:IR.run qg.t6 C N O K (qg.fr a b c d e f i) h nx =
 zM 1 c λv1=>zE v1 h λv2=>zM 1 d λv3=>zE v3 h λv4=>C.fn 216 (.of 216) [v2,v4] h nx λv5 h6 n7=>za .geq .int v5 (I 0) λv8=>K (qg.fr a b c d e f v8) h6 n7:=by kernel_rfl
theorem qg.fC:IR.run qg.t7 C N O K (qg.fr a b c d e f i) h nx =
 zM 0 c λv1=>zE v1 h λv2=>zM 1 c λv3=>zE v3 h λv4=>zM 1 d λv5=>zE v5 h λv6=>C.fn 217 (.of 217) [v4,v6] h nx λv7 h8 n9=>(zE v1 h8 λvA=>zL vA v2 ((zM 0 c λvB=>zL vB v1 (C.fn 214 (.of 214) [v2,v7] h8 n9 λvH hC nD=>zV 2 e vH hC nD λvE hG nH=>K (qg.fr a b c d e f i) hG nH)))):=by kernel_rfl
theorem qg.v6:Arg.ev (.t (.of 6)) ⟨(qg.fr a b c d e f i),[]⟩=i:=by kernel_rfl
theorem qg.di:IR.run qg.t11 C N O K (qg.fr a b c d e f i) h nx =
 zM 0 d λv1=>zE v1 h λv2=>zM 1 d λv3=>zE v3 h λv4=>zM 1 c λv5=>zE v5 h λv6=>C.fn 217 (.of 217) [v4,v6] h nx λv7 h8 n9=>(zE v1 h8 λvA=>zL vA v2 ((zM 0 d λvB=>zL vB v1 (C.fn 214 (.of 214) [v2,v7] h8 n9 λvH hC nD=>zV 2 e vH hC nD λvE hG nH=>K (qg.fr a b c d e f i) hG nH)))):=by kernel_rfl
theorem qg.go:zR tbl N C (.of 131) [a0,a1] h nx K0=IR.run qg.t15 C N (fnO qg.res K0) (zi qg.res K0) (qg.fr a0 a1 .u .u .u .u .u) h nx:=yC (F:=qg) (by kernel_rfl) (λ_=>by kernel_rfl) (by kernel_rfl)
theorem qg.ret:zi qg.res K0 (qg.fr a b c d e f i) h nx=zJ 2 e h λv1=>K0 v1 h nx:=by kernel_rfl
theorem nk.zy:IR.run nk.t0 C N O K (nk.fr a b c) h nx =
 xw a h nx λv1 h2 n3=>yK [(.bool false),.ze] h2 n3 λv4 h5 n6=>K (nk.fr a v1 v4) h5 n6:=by kernel_rfl
theorem nk.zx:IR.run nk.t1 C N O K (nk.fr a b c) h nx =
 zM 0 b λv1=>zE v1 h λv2=>sNot v2 λv3=>zM 1 b λv4=>zE v4 h λv5=>C.fn 214 (.of 214) [v3,v5] h nx λv6 h7 n8=>zV 2 c v6 h7 n8 λv9 hA nA=>K (nk.fr a b c) hA nA:=by kernel_rfl
theorem nk.go:zR tbl N C (.of 212) [a0] h nx K0=IR.run nk.t3 C N (fnO nk.res K0) (zi nk.res K0) (nk.fr a0 .u .u) h nx:=yC (F:=nk) (by kernel_rfl) (λ_=>by kernel_rfl) (by kernel_rfl)
theorem nk.ret:zi nk.res K0 (nk.fr a b c) h nx=zJ 2 c h λv1=>K0 v1 h nx:=by kernel_rfl
theorem nu.zy:IR.run nu.t0 C N O K (nu.fr a b c d e) h nx =
 xw a h nx λv1 h2 n3=>xw b h2 n3 λv4 h5 n6=>yK [(.bool false),.ze] h5 n6 λv7 h8 n9=>K (nu.fr a b v1 v4 v7) h8 n9:=by kernel_rfl
theorem nu.zx:IR.run nu.t1 C N O K (nu.fr a b c d e) h nx =
 zM 0 c λv1=>zE v1 h λv2=>zM 0 d λv3=>zE v3 h λv4=>za .neq .bool v2 v4 λv5=>zM 1 c λv6=>zE v6 h λv7=>zM 1 d λv8=>zE v8 h λv9=>C.fn 218 (.of 218) [v7,v9] h nx λvH hC nD=>(za .neq .bool v2 v4 λvI=>zL vI v5 ((zE v3 hC λvK=>zL vK v4 ((zM 0 d λvL=>zL vL v3 ((zE v1 hC λvM=>zL vM v2 ((zM 0 c λvN=>zL vN v1 (C.fn 214 (.of 214) [v5,vH] hC nD λvE hG nH=>zV 2 e vE hG nH λvB hH nI=>K (nu.fr a b c d e) hH nI)))))))))):=by kernel_rfl
theorem nu.go:zR tbl N C (.of 132) [a0,a1] h nx K0=IR.run nu.t3 C N (fnO nu.res K0) (zi nu.res K0) (nu.fr a0 a1 .u .u .u) h nx:=yC (F:=nu) (by kernel_rfl) (λ_=>by kernel_rfl) (by kernel_rfl)
theorem nu.ret:zi nu.res K0 (nu.fr a b c d e) h nx=zJ 2 e h λv1=>K0 v1 h nx:=by kernel_rfl
theorem qa.zy:IR.run qa.t0 C N O K (qa.fr a b c d e) h nx =
 K (qa.fr a b .ze d e) h nx:=by kernel_rfl
theorem qa.zx:IR.run qa.t1 C N O K (qa.fr a b c d e) h nx =
 sLen b λv1=>za .gtr .int v1 (I 0) λv2=>K (qa.fr a b c d v2) h nx:=by kernel_rfl
theorem qa.v4:Arg.ev (.t (.of 4)) ⟨(qa.fr a b c d e),[]⟩=e:=by kernel_rfl
theorem qa.fJ:IR.run qa.t4 C N O K (qa.fr a b c d e) h nx =
 C.fn 213 (.of 213) [a,b] h nx λv1 h2 n3=>cu 0 v1 λv4=>cu 1 v1 λv5=>K (qa.fr a b c v5 e) h2 n3:=by kernel_rfl
theorem qa.fG:IR.run qa.t5 C N O K (qa.fr a b c d e) h nx =
 K (qa.fr b d c d e) h nx:=by kernel_rfl
theorem qa.t9_L (Inv:Nat->AV->AV->T Blk->Pa->Prop) {m:Nat} (hm:m<N) (hi:Inv m a b h nx)
  (step:∀ (m:Nat) (z0 z1 z3 z4:AV) (h:T Blk) (nx:Pa) (R:Ks Prop),Inv m z0 z1 h nx->(∀ (m':Nat) (w0 w1 w3 w4:AV) (h':T Blk) (nx':Pa),m'<m->Inv m' w0 w1 h' nx'->R (qa.fr w0 w1 c w3 w4) h' nx'=.ok True)->IR.run qa.t8 C N O R (qa.fr z0 z1 c z3 z4) h nx=.ok True) :
  IR.run qa.t9 C N O K (qa.fr a b c d e) h nx=.ok True:=by
 rw [qa.t9];refine yB (λm tm h nx=>∃ z0 z1 z3 z4,tm=(qa.fr z0 z1 c z3 z4)/\Inv m z0 z1 h nx) ?_ hm ⟨_,_,_,_,rfl,hi⟩;rintro m tm h nx R ⟨z0,z1,z3,z4,rfl,hi⟩ hR;exact step m z0 z1 z3 z4 h nx R hi λm' w0 w1 w3 w4 h' nx' hlt hi'=>hR m' _ h' nx' hlt ⟨_,_,_,_,rfl,hi'⟩
theorem qa.di:IR.run qa.t11 C N O K (qa.fr a b c d e) h nx =
 K (qa.fr a b a d e) h nx:=by kernel_rfl
theorem qa.go:zR tbl N C (.of 208) [a0,a1] h nx K0=IR.run qa.t14 C N (fnO qa.res K0) (zi qa.res K0) (qa.fr a0 a1 .u .u .u) h nx:=yC (F:=qa) (by kernel_rfl) (λ_=>by kernel_rfl) (by kernel_rfl)
theorem qa.ret:zi qa.res K0 (qa.fr a b c d e) h nx=K0 c h nx:=by kernel_rfl
theorem qw.zy:IR.run qw.t0 C N O K (qw.fr a b c d) h nx =
 K (qw.fr a b (I 0) d) h nx:=by kernel_rfl
theorem qw.zx:IR.run qw.t1 C N O K (qw.fr a b c d) h nx =
 za .gtr .int b (I 0) λv1=>K (qw.fr a b c v1) h nx:=by kernel_rfl
theorem qw.v3:Arg.ev (.t (.of 3)) ⟨(qw.fr a b c d),[]⟩=d:=by kernel_rfl
theorem qw.fJ:IR.run qw.t4 C N O K (qw.fr a b c d) h nx =
 za .rem .int a b λv1=>K (qw.fr b v1 c d) h nx:=by kernel_rfl
theorem qw.t7_L (Inv:Nat->AV->AV->T Blk->Pa->Prop) {m:Nat} (hm:m<N) (hi:Inv m a b h nx)
  (step:∀ (m:Nat) (z0 z1 z3:AV) (h:T Blk) (nx:Pa) (R:Ks Prop),Inv m z0 z1 h nx->(∀ (m':Nat) (w0 w1 w3:AV) (h':T Blk) (nx':Pa),m'<m->Inv m' w0 w1 h' nx'->R (qw.fr w0 w1 c w3) h' nx'=.ok True)->IR.run qw.t6 C N O R (qw.fr z0 z1 c z3) h nx=.ok True) :
  IR.run qw.t7 C N O K (qw.fr a b c d) h nx=.ok True:=by
 rw [qw.t7];refine yB (λm tm h nx=>∃ z0 z1 z3,tm=(qw.fr z0 z1 c z3)/\Inv m z0 z1 h nx) ?_ hm ⟨_,_,_,rfl,hi⟩;rintro m tm h nx R ⟨z0,z1,z3,rfl,hi⟩ hR;exact step m z0 z1 z3 h nx R hi λm' w0 w1 w3 h' nx' hlt hi'=>hR m' _ h' nx' hlt ⟨_,_,_,rfl,hi'⟩
theorem qw.fK:IR.run qw.t9 C N O K (qw.fr a b c d) h nx =
 K (qw.fr a b a d) h nx:=by kernel_rfl
theorem qw.go:zR tbl N C (.of 210) [a0,a1] h nx K0=IR.run qw.t12 C N (fnO qw.res K0) (zi qw.res K0) (qw.fr a0 a1 .u .u) h nx:=yC (F:=qw) (by kernel_rfl) (λ_=>by kernel_rfl) (by kernel_rfl)
theorem qw.ret:zi qw.res K0 (qw.fr a b c d) h nx=K0 c h nx:=by kernel_rfl
theorem ja.zy:IR.run ja.t0 C N O K (ja.fr a b c d e f i) h nx =
 yK [(.bool false),.ze] h nx λv1 h2 n3=>K (ja.fr a v1 c d e f i) h2 n3:=by kernel_rfl
theorem ja.zx:IR.run ja.t1 C N O K (ja.fr a b c d e f i) h nx =
 K (ja.fr a b .ze d e f i) h nx:=by kernel_rfl
theorem ja.je:IR.run ja.t2 C N O K (ja.fr a b c d e f i) h nx =
 za .lss .int a (I 0) λv1=>K (ja.fr a b c v1 e f i) h nx:=by kernel_rfl
theorem ja.pq:IR.run ja.t3 C N O K (ja.fr a b c d e f i) h nx =
 za .neq .int a (I 0) λv1=>K (ja.fr a b c d e v1 i) h nx:=by kernel_rfl
theorem ja.v5:Arg.ev (.t (.of 5)) ⟨(ja.fr a b c d e f i),[]⟩=f:=by kernel_rfl
theorem ja.qi:IR.run ja.t6 C N O K (ja.fr a b c d e f i) h nx =
 za .rem .int a (I 1000000000) λv1=>K (ja.fr a b c d v1 f i) h nx:=by kernel_rfl
theorem ja.fC:IR.run ja.t7 C N O K (ja.fr a b c d e f i) h nx =
 za .lss .int e (I 0) λv1=>K (ja.fr a b c d e f v1) h nx:=by kernel_rfl
theorem ja.fH:IR.run ja.t8 C N O K (ja.fr a b c d e f i) h nx =
 za .sub .int (I 0) e λv1=>K (ja.fr a b c d v1 f i) h nx:=by kernel_rfl
theorem ja.v6:Arg.ev (.t (.of 6)) ⟨(ja.fr a b c d e f i),[]⟩=i:=by kernel_rfl
theorem ja.di:IR.run ja.t11 C N O K (ja.fr a b c d e f i) h nx =
 yZ 1 1 [(I 0)] [(0,1,e)] h nx λv1 h2 n3=>sO 1 8 c v1 h2 n3 λv4 h5 n6=>K (ja.fr a b v4 d e f i) h5 n6:=by kernel_rfl
theorem ja.rP:IR.run ja.t12 C N O K (ja.fr a b c d e f i) h nx =
 za .quo .int a (I 1000000000) λv1=>K (ja.fr v1 b c d e f i) h nx:=by kernel_rfl
theorem ja.zna (Inv:Nat->AV->AV->T Blk->Pa->Prop) {m:Nat} (hm:m<N) (hi:Inv m a c h nx)
  (step:∀ (m:Nat) (z0 z2 z4 z5 z6:AV) (h:T Blk) (nx:Pa) (R:Ks Prop),Inv m z0 z2 h nx->(∀ (m':Nat) (w0 w2 w4 w5 w6:AV) (h':T Blk) (nx':Pa),m'<m->Inv m' w0 w2 h' nx'->R (ja.fr w0 b w2 d w4 w5 w6) h' nx'=.ok True)->IR.run ja.t17 C N O R (ja.fr z0 b z2 d z4 z5 z6) h nx=.ok True) :
  IR.run ja.t18 C N O K (ja.fr a b c d e f i) h nx=.ok True:=by
 rw [ja.t18];refine yB (λm tm h nx=>∃ z0 z2 z4 z5 z6,tm=(ja.fr z0 b z2 d z4 z5 z6)/\Inv m z0 z2 h nx) ?_ hm ⟨_,_,_,_,_,rfl,hi⟩;rintro m tm h nx R ⟨z0,z2,z4,z5,z6,rfl,hi⟩ hR;exact step m z0 z2 z4 z5 z6 h nx R hi λm' w0 w2 w4 w5 w6 h' nx' hlt hi'=>hR m' _ h' nx' hlt ⟨_,_,_,_,_,rfl,hi'⟩
theorem ja.ah:IR.run ja.t20 C N O K (ja.fr a b c d e f i) h nx =
 C.fn 214 (.of 214) [d,c] h nx λv1 h2 n3=>zV 2 b v1 h2 n3 λv4 h5 n6=>K (ja.fr a b c d e f i) h5 n6:=by kernel_rfl
theorem ja.go:zR tbl N C (.of 134) [a0] h nx K0=IR.run ja.t25 C N (fnO ja.res K0) (zi ja.res K0) (ja.fr a0 .u .u .u .u .u .u) h nx:=yC (F:=ja) (by kernel_rfl) (λ_=>by kernel_rfl) (by kernel_rfl)
theorem ja.ret:zi ja.res K0 (ja.fr a b c d e f i) h nx=zJ 2 b h λv1=>K0 v1 h nx:=by kernel_rfl
theorem jg.zy:IR.run jg.t0 C N O K (jg.fr a b c d e) h nx =
 K (jg.fr a b (.str []) d e) h nx:=by kernel_rfl
theorem jg.zx:IR.run jg.t1 C N O K (jg.fr a b c d e) h nx =
 K (jg.fr a b c (.str []) e) h nx:=by kernel_rfl
theorem jg.je:IR.run jg.t2 C N O K tm h nx=zP jg.r2_0 C ⟨tm,[]⟩ h nx (λtm h nx=>K tm.v h nx):=yT ..
theorem jg.zid:zP (jg.zfo []) C ⟨(jg.fr a b c d e),[]⟩ h nx Kt =
 za .gtr .int a (I 0) λv1=>sG v1 false (λk=>k d) λv2=>sG v1 false (λk=>uH v2 k) λv3=>sG v1 false (λk=>k b) λv4=>sG v1 false (λk=>za .lss .int v3 v4 k) λv5=>yF v1 (.bool true) v5 λv6=>Kt ⟨(jg.fr a b c d v6),v5::v4::v3::v2::v1::v1::a::[]⟩ h nx:=by kernel_rfl
theorem jg.v4:Arg.ev (.t (.of 4)) ⟨(jg.fr a b c d e),[]⟩=e:=by kernel_rfl
theorem jg.fG:IR.run jg.t5 C N O K (jg.fr a b c d e) h nx =
 za .rem .int a (I 10) λv1=>za .rem .int a (I 10) λv2=>za .add .int v2 (I 1) λv3=>jR (.str [48,49,50,51,52,53,54,55,56,57]) (some v1) (some v3) λv4=>za .add .str v4 d λv5=>K (jg.fr a b c v5 e) h nx:=by kernel_rfl
theorem jg.qi:IR.run jg.t6 C N O K (jg.fr a b c d e) h nx =
 za .quo .int a (I 10) λv1=>K (jg.fr v1 b c d e) h nx:=by kernel_rfl
theorem jg.znw (Inv:Nat->AV->AV->T Blk->Pa->Prop) {m:Nat} (hm:m<N) (hi:Inv m a d h nx)
  (step:∀ (m:Nat) (z0 z3 z4:AV) (h:T Blk) (nx:Pa) (R:Ks Prop),Inv m z0 z3 h nx->(∀ (m':Nat) (w0 w3 w4:AV) (h':T Blk) (nx':Pa),m'<m->Inv m' w0 w3 h' nx'->R (jg.fr w0 b c w3 w4) h' nx'=.ok True)->IR.run jg.t9 C N O R (jg.fr z0 b c z3 z4) h nx=.ok True) :
  IR.run jg.t10 C N O K (jg.fr a b c d e) h nx=.ok True:=by
 rw [jg.t10];refine yB (λm tm h nx=>∃ z0 z3 z4,tm=(jg.fr z0 b c z3 z4)/\Inv m z0 z3 h nx) ?_ hm ⟨_,_,_,rfl,hi⟩;rintro m tm h nx R ⟨z0,z3,z4,rfl,hi⟩ hR;exact step m z0 z3 z4 h nx R hi λm' w0 w3 w4 h' nx' hlt hi'=>hR m' _ h' nx' hlt ⟨_,_,_,rfl,hi'⟩
theorem jg.rP:IR.run jg.t12 C N O K (jg.fr a b c d e) h nx =
 K (jg.fr a b d d e) h nx:=by kernel_rfl
theorem jg.go:zR tbl N C (.of 211) [a0,a1] h nx K0=IR.run jg.t16 C N (fnO jg.res K0) (zi jg.res K0) (jg.fr a0 a1 .u .u .u) h nx:=yC (F:=jg) (by kernel_rfl) (λ_=>by kernel_rfl) (by kernel_rfl)
theorem jg.ret:zi jg.res K0 (jg.fr a b c d e) h nx=K0 c h nx:=by kernel_rfl
theorem jb.zy:IR.run jb.t0 C N O K (jb.fr a b c d e f i l) h nx =
 xw a h nx λv1 h2 n3=>K (jb.fr a v1 (.str []) d e f i l) h2 n3:=by kernel_rfl
theorem jb.zx:IR.run jb.t1 C N O K (jb.fr a b c d e f i l) h nx =
 zM 1 b λv1=>zE v1 h λv2=>sLen v2 λv3=>za .eql .int v3 (I 0) λv4=>K (jb.fr a b c d e v4 i l) h nx:=by kernel_rfl
theorem jb.je:IR.run jb.t2 C N O K (jb.fr a b c d e f i l) h nx =
 K (jb.fr a b (.str [48]) d e f i l) h nx:=by kernel_rfl
theorem jb.v5:Arg.ev (.t (.of 5)) ⟨(jb.fr a b c d e f i l),[]⟩=f:=by kernel_rfl
theorem jb.qi:IR.run jb.t6 C N O K (jb.fr a b c d e f i l) h nx =
 zM 1 b λv1=>zE v1 h λv2=>zM 1 b λv3=>zE v3 h λv4=>sLen v4 λv5=>za .sub .int v5 (I 1) λv6=>zH 1 v2 v6 λv7=>zE v7 h λv8=>C.fn 211 (.of 211) [v8,(I 1)] h nx λv9 hA nA=>K (jb.fr a b c v9 e f i l) hA nA:=by kernel_rfl
theorem jb.fC:IR.run jb.t7 C N O K (jb.fr a b c d e f i l) h nx =
 zM 1 b λv1=>zE v1 h λv2=>sLen v2 λv3=>za .sub .int v3 (I 2) λv4=>K (jb.fr a b c d v4 f i l) h nx:=by kernel_rfl
theorem jb.fH:IR.run jb.t8 C N O K (jb.fr a b c d e f i l) h nx =
 za .geq .int e (I 0) λv1=>K (jb.fr a b c d e f v1 l) h nx:=by kernel_rfl
theorem jb.v6:Arg.ev (.t (.of 6)) ⟨(jb.fr a b c d e f i l),[]⟩=i:=by kernel_rfl
theorem jb.di:IR.run jb.t11 C N O K (jb.fr a b c d e f i l) h nx =
 zM 1 b λv1=>zE v1 h λv2=>zH 1 v2 e λv3=>zE v3 h λv4=>C.fn 211 (.of 211) [v4,(I 9)] h nx λv5 h6 n7=>za .add .str d v5 λv8=>K (jb.fr a b c v8 e f i l) h6 n7:=by kernel_rfl
theorem jb.fU:IR.run jb.t13 C N O K (jb.fr a b c d e f i l) h nx =
 za .sub .int e (I 1) λv1=>K (jb.fr a b c d v1 f i l) h nx:=by kernel_rfl
theorem jb.aL (Inv:Nat->AV->AV->T Blk->Pa->Prop) {m:Nat} (hm:m<N) (hi:Inv m d e h nx)
  (step:∀ (m:Nat) (z3 z4 z6:AV) (h:T Blk) (nx:Pa) (R:Ks Prop),Inv m z3 z4 h nx->(∀ (m':Nat) (w3 w4 w6:AV) (h':T Blk) (nx':Pa),m'<m->Inv m' w3 w4 h' nx'->R (jb.fr a b c w3 w4 f w6 l) h' nx'=.ok True)->IR.run jb.t15 C N O R (jb.fr a b c z3 z4 f z6 l) h nx=.ok True) :
  IR.run jb.t16 C N O K (jb.fr a b c d e f i l) h nx=.ok True:=by
 rw [jb.t16];refine yB (λm tm h nx=>∃ z3 z4 z6,tm=(jb.fr a b c z3 z4 f z6 l)/\Inv m z3 z4 h nx) ?_ hm ⟨_,_,_,rfl,hi⟩;rintro m tm h nx R ⟨z3,z4,z6,rfl,hi⟩ hR;exact step m z3 z4 z6 h nx R hi λm' w3 w4 w6 h' nx' hlt hi'=>hR m' _ h' nx' hlt ⟨_,_,_,rfl,hi'⟩
theorem jb.sV:IR.run jb.t19 C N O K (jb.fr a b c d e f i l) h nx =
 zM 0 b λv1=>zE v1 h λv2=>K (jb.fr a b c d e f i v2) h nx:=by kernel_rfl
theorem jb.ah:IR.run jb.t20 C N O K (jb.fr a b c d e f i l) h nx =
 za .add .str (.str [45]) d λv1=>K (jb.fr a b v1 d e f i l) h nx:=by kernel_rfl
theorem jb.v7:Arg.ev (.t (.of 7)) ⟨(jb.fr a b c d e f i l),[]⟩=l:=by kernel_rfl
theorem jb.oD:IR.run jb.t24 C N O K (jb.fr a b c d e f i l) h nx =
 K (jb.fr a b d d e f i l) h nx:=by kernel_rfl
theorem jb.go:zR tbl N C (.of 133) [a0] h nx K0=IR.run jb.t30 C N (fnO jb.res K0) (zi jb.res K0) (jb.fr a0 .u .u .u .u .u .u .u) h nx:=yC (F:=jb) (by kernel_rfl) (λ_=>by kernel_rfl) (by kernel_rfl)
theorem jb.ret:zi jb.res K0 (jb.fr a b c d e f i l) h nx=K0 c h nx:=by kernel_rfl
theorem uo.zy:IR.run uo.t0 C N O K (uo.fr a b c d e) h nx =
 K (uo.fr a (I 0) c d e) h nx:=by kernel_rfl
theorem uo.zx:IR.run uo.t1 C N O K (uo.fr a b c d e) h nx =
 K (uo.fr a b (I 0) d e) h nx:=by kernel_rfl
theorem uo.je:IR.run uo.t2 C N O K (uo.fr a b c d e) h nx =
 K (uo.fr a b c (I 0) e) h nx:=by kernel_rfl
theorem uo.pq:IR.run uo.t3 C N O K (uo.fr a b c d e) h nx =
 uH a λv1=>za .lss .int d v1 λv2=>K (uo.fr a b c d v2) h nx:=by kernel_rfl
theorem uo.v4:Arg.ev (.t (.of 4)) ⟨(uo.fr a b c d e),[]⟩=e:=by kernel_rfl
theorem uo.qi:IR.run uo.t6 C N O K (uo.fr a b c d e) h nx =
 za .mul .int (I 10) c λv1=>jM a d λv2=>kL .i64 v2 λv3=>za .add .int v1 v3 λv4=>za .sub .int v4 (I 48) λv5=>K (uo.fr a b v5 d e) h nx:=by kernel_rfl
theorem uo.fH:IR.run uo.t8 C N O K (uo.fr a b c d e) h nx =
 za .add .int d (I 1) λv1=>K (uo.fr a b c v1 e) h nx:=by kernel_rfl
theorem uo.zfx (Inv:Nat->AV->AV->T Blk->Pa->Prop) {m:Nat} (hm:m<N) (hi:Inv m c d h nx)
  (step:∀ (m:Nat) (z2 z3 z4:AV) (h:T Blk) (nx:Pa) (R:Ks Prop),Inv m z2 z3 h nx->(∀ (m':Nat) (w2 w3 w4:AV) (h':T Blk) (nx':Pa),m'<m->Inv m' w2 w3 h' nx'->R (uo.fr a b w2 w3 w4) h' nx'=.ok True)->IR.run uo.t10 C N O R (uo.fr a b z2 z3 z4) h nx=.ok True) :
  IR.run uo.t11 C N O K (uo.fr a b c d e) h nx=.ok True:=by
 rw [uo.t11];refine yB (λm tm h nx=>∃ z2 z3 z4,tm=(uo.fr a b z2 z3 z4)/\Inv m z2 z3 h nx) ?_ hm ⟨_,_,_,rfl,hi⟩;rintro m tm h nx R ⟨z2,z3,z4,rfl,hi⟩ hR;exact step m z2 z3 z4 h nx R hi λm' w2 w3 w4 h' nx' hlt hi'=>hR m' _ h' nx' hlt ⟨_,_,_,rfl,hi'⟩
theorem uo.sD:IR.run uo.t14 C N O K (uo.fr a b c d e) h nx =
 K (uo.fr a c c d e) h nx:=by kernel_rfl
theorem uo.go:zR tbl N C (.of 209) [a0] h nx K0=IR.run uo.t18 C N (fnO uo.res K0) (zi uo.res K0) (uo.fr a0 .u .u .u .u) h nx:=yC (F:=uo) (by kernel_rfl) (λ_=>by kernel_rfl) (by kernel_rfl)
theorem uo.ret:zi uo.res K0 (uo.fr a b c d e) h nx=K0 b h nx:=by kernel_rfl
theorem jf.zy:IR.run jf.t0 C N O K (jf.fr a b c d e f) h nx =
 yK [(.bool false),.ze] h nx λv1 h2 n3=>K (jf.fr a v1 c d e f) h2 n3:=by kernel_rfl
theorem jf.zx:IR.run jf.t1 C N O K (jf.fr a b c d e f) h nx =
 uH a λv1=>za .gtr .int v1 (I 0) λv2=>sG v2 true (λk=>k a) λv3=>sG v2 true (λk=>jM v3 (I 0) k) λv4=>sG v2 true (λk=>za .eql .int v4 (.int .u8 45) k) λv5=>yF v2 v5 (.bool false) λv6=>K (jf.fr a b v6 d e f) h nx:=by kernel_rfl
theorem jf.je:IR.run jf.t2 C N O K (jf.fr a b c d e f) h nx =
 K (jf.fr a b c d c f) h nx:=by kernel_rfl
theorem jf.pq:IR.run jf.t3 C N O K (jf.fr a b c d e f) h nx =
 jR a (some (I 1)) none λv1=>K (jf.fr v1 b c d e f) h nx:=by kernel_rfl
theorem jf.v4:Arg.ev (.t (.of 4)) ⟨(jf.fr a b c d e f),[]⟩=e:=by kernel_rfl
theorem jf.qi:IR.run jf.t6 C N O K (jf.fr a b c d e f) h nx =
 K (jf.fr a b c .ze e f) h nx:=by kernel_rfl
theorem jf.fC:IR.run jf.t7 C N O K (jf.fr a b c d e f) h nx =
 uH a λv1=>za .gtr .int v1 (I 9) λv2=>K (jf.fr a b c d e v2) h nx:=by kernel_rfl
theorem jf.v5:Arg.ev (.t (.of 5)) ⟨(jf.fr a b c d e f),[]⟩=f:=by kernel_rfl
theorem jf.fT:IR.run jf.t10 C N O K (jf.fr a b c d e f) h nx =
 uH a λv1=>za .sub .int v1 (I 9) λv2=>jR a (some v2) none λv3=>C.fn 209 (.of 209) [v3] h nx λv4 h5 n6=>yZ 1 1 [(I 0)] [(0,1,v4)] h5 n6 λv7 h8 n9=>sO 1 8 d v7 h8 n9 λvH hC nD=>K (jf.fr a b c vH e f) hC nD:=by kernel_rfl
theorem jf.di:IR.run jf.t11 C N O K (jf.fr a b c d e f) h nx =
 uH a λv1=>za .sub .int v1 (I 9) λv2=>jR a none (some v2) λv3=>K (jf.fr v3 b c d e f) h nx:=by kernel_rfl
theorem jf.zfy (Inv:Nat->AV->AV->T Blk->Pa->Prop) {m:Nat} (hm:m<N) (hi:Inv m a d h nx)
  (step:∀ (m:Nat) (z0 z3 z5:AV) (h:T Blk) (nx:Pa) (R:Ks Prop),Inv m z0 z3 h nx->(∀ (m':Nat) (w0 w3 w5:AV) (h':T Blk) (nx':Pa),m'<m->Inv m' w0 w3 h' nx'->R (jf.fr w0 b c w3 e w5) h' nx'=.ok True)->IR.run jf.t14 C N O R (jf.fr z0 b c z3 e z5) h nx=.ok True) :
  IR.run jf.t15 C N O K (jf.fr a b c d e f) h nx=.ok True:=by
 rw [jf.t15];refine yB (λm tm h nx=>∃ z0 z3 z5,tm=(jf.fr z0 b c z3 e z5)/\Inv m z0 z3 h nx) ?_ hm ⟨_,_,_,rfl,hi⟩;rintro m tm h nx R ⟨z0,z3,z5,rfl,hi⟩ hR;exact step m z0 z3 z5 h nx R hi λm' w0 w3 w5 h' nx' hlt hi'=>hR m' _ h' nx' hlt ⟨_,_,_,rfl,hi'⟩
theorem jf.rX:IR.run jf.t17 C N O K (jf.fr a b c d e f) h nx =
 C.fn 209 (.of 209) [a] h nx λv1 h2 n3=>yZ 1 1 [(I 0)] [(0,1,v1)] h2 n3 λv4 h5 n6=>sO 1 8 d v4 h5 n6 λv7 h8 n9=>C.fn 214 (.of 214) [c,v7] h8 n9 λvH hC nD=>zV 2 b vH hC nD λvE hG nH=>K (jf.fr a b c d e f) hG nH:=by kernel_rfl
theorem jf.go:zR tbl N C (.of 205) [a0] h nx K0=IR.run jf.t23 C N (fnO jf.res K0) (zi jf.res K0) (jf.fr a0 .u .u .u .u .u) h nx:=yC (F:=jf) (by kernel_rfl) (λ_=>by kernel_rfl) (by kernel_rfl)
theorem jf.ret:zi jf.res K0 (jf.fr a b c d e f) h nx=zJ 2 b h λv1=>K0 v1 h nx:=by kernel_rfl
theorem gm.zy:IR.run gm.t0 C N O K (gm.fr a b c d e) h nx =
 K (gm.fr a (I 0) c d e) h nx:=by kernel_rfl
theorem gm.zx:IR.run gm.t1 C N O K (gm.fr a b c d e) h nx =
 K (gm.fr a b (I 0) d e) h nx:=by kernel_rfl
theorem gm.je:IR.run gm.t2 C N O K (gm.fr a b c d e) h nx =
 uH a λv1=>za .lss .int c v1 λv2=>K (gm.fr a b c v2 e) h nx:=by kernel_rfl
theorem gm.v3:Arg.ev (.t (.of 3)) ⟨(gm.fr a b c d e),[]⟩=d:=by kernel_rfl
theorem gm.fG:IR.run gm.t5 C N O K (gm.fr a b c d e) h nx =
 jM a c λv1=>za .eql .int v1 (.int .u8 47) λv2=>K (gm.fr a b c d v2) h nx:=by kernel_rfl
theorem gm.qi:IR.run gm.t6 C N O K (gm.fr a b c d e) h nx =
 K (gm.fr a c c d e) h nx:=by kernel_rfl
theorem gm.v4:Arg.ev (.t (.of 4)) ⟨(gm.fr a b c d e),[]⟩=e:=by kernel_rfl
theorem gm.di:IR.run gm.t11 C N O K (gm.fr a b c d e) h nx =
 za .add .int c (I 1) λv1=>K (gm.fr a b v1 d e) h nx:=by kernel_rfl
theorem gm.znx (Inv:Nat->AV->T Blk->Pa->Prop) {m:Nat} (hm:m<N) (hi:Inv m c h nx)
  (step:∀ (m:Nat) (z1 z2 z3 z4:AV) (h:T Blk) (nx:Pa) (R:Ks Prop),Inv m z2 h nx->(∀ (m':Nat) (w1 w2 w3 w4:AV) (h':T Blk) (nx':Pa),m'<m->Inv m' w2 h' nx'->R (gm.fr a w1 w2 w3 w4) h' nx'=.ok True)->IR.run gm.t13 C N O R (gm.fr a z1 z2 z3 z4) h nx=.ok True) :
  IR.run gm.t14 C N O K (gm.fr a b c d e) h nx=.ok True:=by
 rw [gm.t14];refine yB (λm tm h nx=>∃ z1 z2 z3 z4,tm=(gm.fr a z1 z2 z3 z4)/\Inv m z2 h nx) ?_ hm ⟨_,_,_,_,rfl,hi⟩;rintro m tm h nx R ⟨z1,z2,z3,z4,rfl,hi⟩ hR;exact step m z1 z2 z3 z4 h nx R hi λm' w1 w2 w3 w4 h' nx' hlt hi'=>hR m' _ h' nx' hlt ⟨_,_,_,_,rfl,hi'⟩
theorem gm.rX:IR.run gm.t17 C N O K (gm.fr a b c d e) h nx =
 uH a λv1=>K (gm.fr a v1 c d e) h nx:=by kernel_rfl
theorem gm.go:zR tbl N C (.of 206) [a0] h nx K0=IR.run gm.t20 C N (fnO gm.res K0) (zi gm.res K0) (gm.fr a0 .u .u .u .u) h nx:=yC (F:=gm) (by kernel_rfl) (λ_=>by kernel_rfl) (by kernel_rfl)
theorem gm.ret:zi gm.res K0 (gm.fr a b c d e) h nx=K0 b h nx:=by kernel_rfl
theorem qm.zy:IR.run qm.t0 C N O K (qm.fr a b c d e f) h nx =
 yK [(.bool false),.ze] h nx λv1 h2 n3=>yK [(.bool false),.ze] h2 n3 λv4 h5 n6=>K (qm.fr a v1 v4 d e f) h5 n6:=by kernel_rfl
theorem qm.zx:IR.run qm.t1 C N O K (qm.fr a b c d e f) h nx =
 K (qm.fr a b c a e f) h nx:=by kernel_rfl
theorem qm.je:IR.run qm.t2 C N O K (qm.fr a b c d e f) h nx =
 C.fn 206 (.of 206) [d] h nx λv1 h2 n3=>K (qm.fr a b c d v1 f) h2 n3:=by kernel_rfl
theorem qm.pq:IR.run qm.t3 C N O K (qm.fr a b c d e f) h nx =
 uH d λv1=>za .eql .int e v1 λv2=>K (qm.fr a b c d e v2) h nx:=by kernel_rfl
theorem qm.fJ:IR.run qm.t4 C N O K (qm.fr a b c d e f) h nx =
 C.fn 205 (.of 205) [d] h nx λv1 h2 n3=>C.fn 134 (.of 134) [(I 1)] h2 n3 λv4 h5 n6=>zV 2 b v1 h5 n6 λv7 h8 n9=>zV 2 c v4 h8 n9 λvH hC nD=>K (qm.fr a b c d e f) hC nD:=by kernel_rfl
theorem qm.v5:Arg.ev (.t (.of 5)) ⟨(qm.fr a b c d e f),[]⟩=f:=by kernel_rfl
theorem qm.fH:IR.run qm.t8 C N O K (qm.fr a b c d e f) h nx =
 jR d none (some e) λv1=>za .add .int e (I 1) λv2=>jR d (some v2) none λv3=>C.fn 205 (.of 205) [v1] h nx λv4 h5 n6=>(jR d (some v2) none λvA=>zL vA v3 ((za .add .int e (I 1) λvB=>zL vB v2 (zL e e (zL d d (C.fn 205 (.of 205) [v3] h5 n6 λv7 h8 n9=>zV 2 b v4 h8 n9 λvH hC nD=>zV 2 c v7 hC nD λvE hG nH=>K (qm.fr a b c d e f) hG nH)))))):=by kernel_rfl
theorem qm.go:zR tbl N C (.of 129) [a0] h nx K0=IR.run qm.t13 C N (fnO qm.res K0) (zi qm.res K0) (qm.fr a0 .u .u .u .u .u) h nx:=yC (F:=qm) (by kernel_rfl) (λ_=>by kernel_rfl) (by kernel_rfl)
theorem qm.ret:zi qm.res K0 (qm.fr a b c d e f) h nx=zJ 2 b h λv1=>zJ 2 c h λv2=>K0 (.tup [v1,v2]) h nx:=by kernel_rfl
theorem pz.zy:IR.run pz.t0 C N O K (pz.fr a b c d) h nx =
 xw a h nx λv1 h2 n3=>yK [(I 0),.ze] h2 n3 λv4 h5 n6=>K (pz.fr a v1 v4 d) h5 n6:=by kernel_rfl
theorem pz.zx:IR.run pz.t1 C N O K (pz.fr a b c d) h nx =
 zM 0 b λv1=>zE v1 h λv2=>za .lss .int v2 (I 0) λv3=>K (pz.fr a b c v3) h nx:=by kernel_rfl
theorem pz.je:IR.run pz.t2 C N O K (pz.fr a b c d) h nx =
 zJ 2 b h λv1=>C.fn 193 (.of 193) [v1] h nx λv2 h3 n4=>zV 2 c v2 h3 n4 λv5 h6 n7=>K (pz.fr a b c d) h6 n7:=by kernel_rfl
theorem pz.v3:Arg.ev (.t (.of 3)) ⟨(pz.fr a b c d),[]⟩=d:=by kernel_rfl
theorem pz.qi:IR.run pz.t6 C N O K (pz.fr a b c d) h nx =
 zJ 2 b h λv1=>zV 2 c v1 h nx λv2 h3 n4=>K (pz.fr a b c d) h3 n4:=by kernel_rfl
theorem pz.go:zR tbl N C (.of 299) [a0] h nx K0=IR.run pz.t9 C N (fnO pz.res K0) (zi pz.res K0) (pz.fr a0 .u .u .u) h nx:=yC (F:=pz) (by kernel_rfl) (λ_=>by kernel_rfl) (by kernel_rfl)
theorem pz.ret:zi pz.res K0 (pz.fr a b c d) h nx=zJ 2 c h λv1=>K0 v1 h nx:=by kernel_rfl
theorem uy.zy:IR.run uy.t0 C N O K (uy.fr a b c d e f i) h nx =
 xw a h nx λv1 h2 n3=>xw b h2 n3 λv4 h5 n6=>yK [(I 0),.ze] h5 n6 λv7 h8 n9=>K (uy.fr a b v1 v4 v7 f i) h8 n9:=by kernel_rfl
theorem uy.zx:IR.run uy.t1 C N O K (uy.fr a b c d e f i) h nx =
 zJ 2 c h λv1=>zJ 2 d h λv2=>C.fn 299 (.of 299) [v1] h nx λv3 h4 n5=>(zJ 2 d h4 λvC=>zL vC v2 (C.fn 299 (.of 299) [v2] h4 n5 λv6 h7 n8=>zV 2 c v3 h7 n8 λv9 hA nA=>zV 2 d v6 hA nA λvF hD nE=>K (uy.fr a b c d e f i) hD nE)):=by kernel_rfl
theorem uy.je:IR.run uy.t2 C N O K (uy.fr a b c d e f i) h nx =
 zJ 2 d h λv1=>C.fn 194 (.of 194) [v1] h nx λv2 h3 n4=>za .neq .int v2 (I 0) λv5=>K (uy.fr a b c d e f v5) h3 n4:=by kernel_rfl
theorem uy.v6:Arg.ev (.t (.of 6)) ⟨(uy.fr a b c d e f i),[]⟩=i:=by kernel_rfl
theorem uy.fG:IR.run uy.t5 C N O K (uy.fr a b c d e f i) h nx =
 zJ 2 c h λv1=>zJ 2 d h λv2=>C.fn 201 (.of 201) [v1,v2] h nx λv3 h4 n5=>cu 0 v3 λv6=>cu 1 v3 λv7=>yK [(I 0),.ze] h4 n5 λv8 h9 nB=>yK [(I 0),.ze] h9 nB λvG hB nC=>zV 2 v8 v6 hB nC λvD hE nF=>zV 2 vG v7 hE nF λvA hF nG=>K (uy.fr a b c d e vG i) hF nG:=by kernel_rfl
theorem uy.qi:IR.run uy.t6 C N O K (uy.fr a b c d e f i) h nx =
 zJ 2 d h λv1=>zJ 2 f h λv2=>zV 2 c v1 h nx λv3 h4 n5=>(zJ 2 f h4 λv9=>zL v9 v2 (zV 2 d v2 h4 n5 λv6 h7 n8=>K (uy.fr a b c d e f i) h7 n8)):=by kernel_rfl
theorem uy.znw (Inv:Nat->T Blk->Pa->Prop) {m:Nat} (hm:m<N) (hi:Inv m h nx)
  (step:∀ (m:Nat) (z5 z6:AV) (h:T Blk) (nx:Pa) (R:Ks Prop),Inv m h nx->(∀ (m':Nat) (w5 w6:AV) (h':T Blk) (nx':Pa),m'<m->Inv m' h' nx'->R (uy.fr a b c d e w5 w6) h' nx'=.ok True)->IR.run uy.t9 C N O R (uy.fr a b c d e z5 z6) h nx=.ok True) :
  IR.run uy.t10 C N O K (uy.fr a b c d e f i) h nx=.ok True:=by
 rw [uy.t10];refine yB (λm tm h nx=>∃ z5 z6,tm=(uy.fr a b c d e z5 z6)/\Inv m h nx) ?_ hm ⟨_,_,rfl,hi⟩;rintro m tm h nx R ⟨z5,z6,rfl,hi⟩ hR;exact step m z5 z6 h nx R hi λm' w5 w6 h' nx' hlt hi'=>hR m' _ h' nx' hlt ⟨_,_,rfl,hi'⟩
theorem uy.rP:IR.run uy.t12 C N O K (uy.fr a b c d e f i) h nx =
 zJ 2 c h λv1=>zV 2 e v1 h nx λv2 h3 n4=>K (uy.fr a b c d e f i) h3 n4:=by kernel_rfl
theorem uy.go:zR tbl N C (.of 258) [a0,a1] h nx K0=IR.run uy.t16 C N (fnO uy.res K0) (zi uy.res K0) (uy.fr a0 a1 .u .u .u .u .u) h nx:=yC (F:=uy) (by kernel_rfl) (λ_=>by kernel_rfl) (by kernel_rfl)
theorem uy.ret:zi uy.res K0 (uy.fr a b c d e f i) h nx=zJ 2 e h λv1=>K0 v1 h nx:=by kernel_rfl
theorem dw.zy:IR.run dw.t0 C N O K (dw.fr a b c) h nx =
 xw a h nx λv1 h2 n3=>K (dw.fr a v1 (.bool false)) h2 n3:=by kernel_rfl
theorem dw.zx:IR.run dw.t1 C N O K tm h nx=zP dw.si C ⟨tm,[]⟩ h nx (λtm h nx=>K tm.v h nx):=yT ..
theorem dw.sj:zP (dw.rQ r) C ⟨(dw.fr a b c),[]⟩ h nx Kt =
 zM 2 b λv1=>zM 1 v1 λv2=>zE v2 h λv3=>za .eql (.nil .sl) v3 .ze λv4=>sG v4 true (λk=>zM 2 b k) λv5=>sG v4 true (λk=>zM 0 v5 k) λv6=>sG v4 true (λk=>zE v6 h k) λv7=>zP r C ⟨(dw.fr a b c),v7::v6::v5::v4::v4::v3::v2::v1::[]⟩ h nx Kt:=by kernel_rfl
theorem dw.fZ:zP (dw.rR []) C ⟨(dw.fr a b c),s0::s1::s2::s3::sT⟩ h nx Kt =
 sG s3 true (λk=>za .eql .int s0 (I 1) k) λv1=>yF s3 v1 (.bool false) λv2=>Kt ⟨(dw.fr a b v2),v2::v1::s0::s1::s2::s3::sT⟩ h nx:=by kernel_rfl
theorem dw.go:zR tbl N C (.of 122) [a0] h nx K0=IR.run dw.t3 C N (fnO dw.res K0) (zi dw.res K0) (dw.fr a0 .u .u) h nx:=yC (F:=dw) (by kernel_rfl) (λ_=>by kernel_rfl) (by kernel_rfl)
theorem dw.ret:zi dw.res K0 (dw.fr a b c) h nx=K0 c h nx:=by kernel_rfl
theorem ny.zy:IR.run ny.t0 C N O K (ny.fr a b c) h nx =
 xw a h nx λv1 h2 n3=>yK [(I 0),.ze,(I 0),.ze] h2 n3 λv4 h5 n6=>K (ny.fr a v1 v4) h5 n6:=by kernel_rfl
theorem ny.zx:IR.run ny.t1 C N O K (ny.fr a b c) h nx =
 zJ 2 b h λv1=>C.fn 187 (.of 187) [(I 1)] h nx λv2 h3 n4=>(zJ 2 b h3 λv9=>zL v9 v1 (uT [(I 0),.ze,(I 0),.ze] [(0,2,v1),(2,2,v2)] λv5=>zV 4 c v5 h3 n4 λv6 h7 n8=>K (ny.fr a b c) h7 n8)):=by kernel_rfl
theorem ny.go:zR tbl N C (.of 186) [a0] h nx K0=IR.run ny.t3 C N (fnO ny.res K0) (zi ny.res K0) (ny.fr a0 .u .u) h nx:=yC (F:=ny) (by kernel_rfl) (λ_=>by kernel_rfl) (by kernel_rfl)
theorem ny.ret:zi ny.res K0 (ny.fr a b c) h nx=zJ 4 c h λv1=>K0 v1 h nx:=by kernel_rfl
theorem F96.zy:IR.run F96.t0 C N O K (F96.fr a b) h nx =
 yK [(I 0),.ze,(I 0),.ze] h nx λv1 h2 n3=>K (F96.fr a v1) h2 n3:=by kernel_rfl
theorem F96.zx:IR.run F96.t1 C N O K (F96.fr a b) h nx =
 C.fn 187 (.of 187) [a] h nx λv1 h2 n3=>C.fn 186 (.of 186) [v1] h2 n3 λv4 h5 n6=>zV 4 b v4 h5 n6 λv7 h8 n9=>K (F96.fr a b) h8 n9:=by kernel_rfl
theorem F96.go:zR tbl N C (.of 96) [a0] h nx K0=IR.run F96.t3 C N (fnO F96.res K0) (zi F96.res K0) (F96.fr a0 .u) h nx:=yC (F:=F96) (by kernel_rfl) (λ_=>by kernel_rfl) (by kernel_rfl)
theorem F96.ret:zi F96.res K0 (F96.fr a b) h nx=zJ 4 b h λv1=>K0 v1 h nx:=by kernel_rfl
theorem gq.zy:IR.run gq.t0 C N O K (gq.fr a b c d e f i l) h nx =
 xw a h nx λv1 h2 n3=>xw b h2 n3 λv4 h5 n6=>yK [(I 0),.ze,(I 0),.ze] h5 n6 λv7 h8 n9=>K (gq.fr a b v1 v4 v7 f i l) h8 n9:=by kernel_rfl
theorem gq.zx:IR.run gq.t1 C N O K (gq.fr a b c d e f i l) h nx =
 zJ 2 d h λv1=>C.fn 194 (.of 194) [v1] h nx λv2 h3 n4=>za .lss .int v2 (I 0) λv5=>K (gq.fr a b c d e f v5 l) h3 n4:=by kernel_rfl
theorem gq.je:IR.run gq.t2 C N O K (gq.fr a b c d e f i l) h nx =
 zJ 2 c h λv1=>zJ 2 d h λv2=>C.fn 193 (.of 193) [v1] h nx λv3 h4 n5=>(zJ 2 d h4 λvC=>zL vC v2 (C.fn 193 (.of 193) [v2] h4 n5 λv6 h7 n8=>zV 2 c v3 h7 n8 λv9 hA nA=>zV 2 d v6 hA nA λvF hD nE=>K (gq.fr a b c d e f i l) hD nE)):=by kernel_rfl
theorem gq.v6:Arg.ev (.t (.of 6)) ⟨(gq.fr a b c d e f i l),[]⟩=i:=by kernel_rfl
theorem gq.fG:IR.run gq.t5 C N O K (gq.fr a b c d e f i l) h nx =
 zM 1 d λv1=>zE v1 h λv2=>za .eql (.nil .sl) v2 .ze λv3=>sG v3 true (λk=>zM 0 d k) λv4=>sG v3 true (λk=>zE v4 h k) λv5=>sG v3 true (λk=>za .eql .int v5 (I 1) k) λv6=>yF v3 v6 (.bool false) λv7=>K (gq.fr a b c d e f i v7) h nx:=by kernel_rfl
theorem gq.qi:IR.run gq.t6 C N O K (gq.fr a b c d e f i l) h nx =
 zJ 2 c h λv1=>zJ 2 d h λv2=>uT [(I 0),.ze,(I 0),.ze] [(0,2,v1),(2,2,v2)] λv3=>zV 4 e v3 h nx λv4 h5 n6=>K (gq.fr a b c d e f i l) h5 n6:=by kernel_rfl
theorem gq.v7:Arg.ev (.t (.of 7)) ⟨(gq.fr a b c d e f i l),[]⟩=l:=by kernel_rfl
theorem gq.fT:IR.run gq.t10 C N O K (gq.fr a b c d e f i l) h nx =
 zJ 2 c h λv1=>zJ 2 d h λv2=>C.fn 258 (.of 258) [v1,v2] h nx λv3 h4 n5=>yK [(I 0),.ze] h4 n5 λv6 h7 n8=>zV 2 v6 v3 h7 n8 λv9 hA nA=>K (gq.fr a b c d e v6 i l) hA nA:=by kernel_rfl
theorem gq.di:IR.run gq.t11 C N O K (gq.fr a b c d e f i l) h nx =
 zJ 2 c h λv1=>zJ 2 f h λv2=>zJ 2 d h λv3=>zJ 2 f h λv4=>C.fn 259 (.of 259) [v1,v2] h nx λv5 h6 n7=>(zJ 2 f h6 λvB=>zL vB v4 ((zJ 2 d h6 λvC=>zL vC v3 (C.fn 259 (.of 259) [v3,v4] h6 n7 λv8 h9 nB=>uT [(I 0),.ze,(I 0),.ze] [(0,2,v5),(2,2,v8)] λvG=>zV 4 e vG h9 nB λvF hD nE=>K (gq.fr a b c d e f i l) hD nE)))):=by kernel_rfl
theorem gq.go:zR tbl N C (.of 195) [a0,a1] h nx K0=IR.run gq.t16 C N (fnO gq.res K0) (zi gq.res K0) (gq.fr a0 a1 .u .u .u .u .u .u) h nx:=yC (F:=gq) (by kernel_rfl) (λ_=>by kernel_rfl) (by kernel_rfl)
theorem gq.ret:zi gq.res K0 (gq.fr a b c d e f i l) h nx=zJ 4 e h λv1=>K0 v1 h nx:=by kernel_rfl
theorem rq.zy:IR.run rq.t0 C N O K (rq.fr a b c) h nx =
 xw a h nx λv1 h2 n3=>K (rq.fr a v1 (I 0)) h2 n3:=by kernel_rfl
theorem rq.zx:IR.run rq.t1 C N O K (rq.fr a b c) h nx =
 zM 0 b λv1=>zJ 2 v1 h λv2=>C.fn 194 (.of 194) [v2] h nx λv3 h4 n5=>K (rq.fr a b v3) h4 n5:=by kernel_rfl
theorem rq.go:zR tbl N C (.of 110) [a0] h nx K0=IR.run rq.t3 C N (fnO rq.res K0) (zi rq.res K0) (rq.fr a0 .u .u) h nx:=yC (F:=rq) (by kernel_rfl) (λ_=>by kernel_rfl) (by kernel_rfl)
theorem rq.ret:zi rq.res K0 (rq.fr a b c) h nx=K0 c h nx:=by kernel_rfl
theorem ru.zy:IR.run ru.t0 C N O K (ru.fr a b c) h nx =
 xw a h nx λv1 h2 n3=>yK [(I 0),.ze,(I 0),.ze] h2 n3 λv4 h5 n6=>K (ru.fr a v1 v4) h5 n6:=by kernel_rfl
theorem ru.zx:IR.run ru.t1 C N O K (ru.fr a b c) h nx =
 zM 0 b λv1=>zJ 2 v1 h λv2=>zM 2 b λv3=>zJ 2 v3 h λv4=>C.fn 193 (.of 193) [v2] h nx λv5 h6 n7=>(zJ 2 v3 h6 λvE=>zL vE v4 ((zM 2 b λvF=>zL vF v3 (uT [(I 0),.ze,(I 0),.ze] [(0,2,v5),(2,2,v4)] λv8=>zV 4 c v8 h6 n7 λv9 hA nA=>K (ru.fr a b c) hA nA)))):=by kernel_rfl
theorem ru.go:zR tbl N C (.of 107) [a0] h nx K0=IR.run ru.t3 C N (fnO ru.res K0) (zi ru.res K0) (ru.fr a0 .u .u) h nx:=yC (F:=ru) (by kernel_rfl) (λ_=>by kernel_rfl) (by kernel_rfl)
theorem ru.ret:zi ru.res K0 (ru.fr a b c) h nx=zJ 4 c h λv1=>K0 v1 h nx:=by kernel_rfl
theorem rz.zy:IR.run rz.t0 C N O K (rz.fr a b c) h nx =
 xw a h nx λv1 h2 n3=>yK [(I 0),.ze,(I 0),.ze] h2 n3 λv4 h5 n6=>K (rz.fr a v1 v4) h5 n6:=by kernel_rfl
theorem rz.zx:IR.run rz.t1 C N O K (rz.fr a b c) h nx =
 zM 2 b λv1=>zJ 2 v1 h λv2=>zM 0 b λv3=>zJ 2 v3 h λv4=>C.fn 195 (.of 195) [v2,v4] h nx λv5 h6 n7=>zV 4 c v5 h6 n7 λv8 h9 nB=>K (rz.fr a b c) h9 nB:=by kernel_rfl
theorem rz.go:zR tbl N C (.of 112) [a0] h nx K0=IR.run rz.t3 C N (fnO rz.res K0) (zi rz.res K0) (rz.fr a0 .u .u) h nx:=yC (F:=rz) (by kernel_rfl) (λ_=>by kernel_rfl) (by kernel_rfl)
theorem rz.ret:zi rz.res K0 (rz.fr a b c) h nx=zJ 4 c h λv1=>K0 v1 h nx:=by kernel_rfl
theorem rA.zy:IR.run rA.t0 C N O K (rA.fr a b c d e) h nx =
 xw a h nx λv1 h2 n3=>xw b h2 n3 λv4 h5 n6=>yK [(I 0),.ze,(I 0),.ze] h5 n6 λv7 h8 n9=>K (rA.fr a b v1 v4 v7) h8 n9:=by kernel_rfl
theorem rA.zx:IR.run rA.t1 C N O K (rA.fr a b c d e) h nx =
 zM 0 c λv1=>zJ 2 v1 h λv2=>zM 0 d λv3=>zJ 2 v3 h λv4=>zM 2 c λv5=>zJ 2 v5 h λv6=>zM 2 d λv7=>zJ 2 v7 h λv8=>C.fn 198 (.of 198) [v2,v4] h nx λv9 hA nA=>(zJ 2 v7 hA λvO=>zL vO v8 ((zM 2 d λvI=>zL vI v7 ((zJ 2 v5 hA λvK=>zL vK v6 ((zM 2 c λvL=>zL vL v5 (C.fn 198 (.of 198) [v6,v8] hA nA λvF hD nE=>C.fn 195 (.of 195) [v9,vF] hD nE λvC hI nJ=>zV 4 e vC hI nJ λvP hJ nK=>K (rA.fr a b c d e) hJ nK)))))))):=by kernel_rfl
theorem rA.go:zR tbl N C (.of 119) [a0,a1] h nx K0=IR.run rA.t3 C N (fnO rA.res K0) (zi rA.res K0) (rA.fr a0 a1 .u .u .u) h nx:=yC (F:=rA) (by kernel_rfl) (λ_=>by kernel_rfl) (by kernel_rfl)
theorem rA.ret:zi rA.res K0 (rA.fr a b c d e) h nx=zJ 4 e h λv1=>K0 v1 h nx:=by kernel_rfl
theorem xk.zy:IR.run xk.t0 C N O K (xk.fr a b c d e f) h nx =
 xw a h nx λv1 h2 n3=>xw b h2 n3 λv4 h5 n6=>yK [(I 0),.ze,(I 0),.ze] h5 n6 λv7 h8 n9=>K (xk.fr a b v1 v4 v7 f) h8 n9:=by kernel_rfl
theorem xk.zx:IR.run xk.t1 C N O K (xk.fr a b c d e f) h nx =
 zJ 4 c h λv1=>C.fn 122 (.of 122) [v1] h nx λv2 h3 n4=>sG v2 true (λk=>zJ 4 d h3 k) λv5=>sGW v2 true (λk=>C.fn 122 (.of 122) [v5] h3 n4 k) h3 n4 λv6 h7 n8=>yF v2 v6 (.bool false) λv9=>K (xk.fr a b c d e v9) h7 n8:=by kernel_rfl
theorem xk.je:IR.run xk.t2 C N O K (xk.fr a b c d e f) h nx =
 zM 0 c λv1=>zJ 2 v1 h λv2=>zM 0 d λv3=>zJ 2 v3 h λv4=>C.fn 197 (.of 197) [v2,v4] h nx λv5 h6 n7=>C.fn 186 (.of 186) [v5] h6 n7 λv8 h9 nB=>zV 4 e v8 h9 nB λvG hB nC=>K (xk.fr a b c d e f) hB nC:=by kernel_rfl
theorem xk.v5:Arg.ev (.t (.of 5)) ⟨(xk.fr a b c d e f),[]⟩=f:=by kernel_rfl
theorem xk.qi:IR.run xk.t6 C N O K (xk.fr a b c d e f) h nx =
 zM 0 c λv1=>zJ 2 v1 h λv2=>zM 2 d λv3=>zJ 2 v3 h λv4=>zM 0 d λv5=>zJ 2 v5 h λv6=>zM 2 c λv7=>zJ 2 v7 h λv8=>zM 2 c λv9=>zJ 2 v9 h λvH=>zM 2 d λvG=>zJ 2 vG h λvF=>C.fn 198 (.of 198) [v2,v4] h nx λvE hG nH=>(zJ 2 vG hG λvQ=>zL vQ vF ((zM 2 d λvR=>zL vR vG ((zJ 2 v9 hG λvS=>zL vS vH ((zM 2 c λvT=>zL vT v9 ((zJ 2 v7 hG λvU=>zL vU v8 ((zM 2 c λvV=>zL vV v7 ((zJ 2 v5 hG λvW=>zL vW v6 ((zM 0 d λvX=>zL vX v5 (C.fn 198 (.of 198) [v6,v8] hG nH λvB hH nI=>(zJ 2 vG hH λvY=>zL vY vF ((zM 2 d λvZ=>zL vZ vG ((zJ 2 v9 hH λv36=>zL v36 vH ((zM 2 c λv35=>zL v35 v9 (C.fn 197 (.of 197) [vE,vB] hH nI λvN hK nL=>(zJ 2 vG hK λv34=>zL v34 vF ((zM 2 d λv33=>zL v33 vG ((zJ 2 v9 hK λv32=>zL v32 vH ((zM 2 c λv31=>zL v31 v9 (C.fn 198 (.of 198) [vH,vF] hK nL λvK hL nM=>C.fn 195 (.of 195) [vN,vK] hL nM λv25 hM nN=>zV 4 e v25 hM nN λv28 hN nO=>K (xk.fr a b c d e f) hN nO)))))))))))))))))))))))))))))))):=by kernel_rfl
theorem xk.go:zR tbl N C (.of 114) [a0,a1] h nx K0=IR.run xk.t9 C N (fnO xk.res K0) (zi xk.res K0) (xk.fr a0 a1 .u .u .u .u) h nx:=yC (F:=xk) (by kernel_rfl) (λ_=>by kernel_rfl) (by kernel_rfl)
theorem xk.ret:zi xk.res K0 (xk.fr a b c d e f) h nx=zJ 4 e h λv1=>K0 v1 h nx:=by kernel_rfl
theorem rC.zy:IR.run rC.t0 C N O K (rC.fr a b c d e) h nx =
 xw a h nx λv1 h2 n3=>xw b h2 n3 λv4 h5 n6=>yK [(I 0),.ze,(I 0),.ze] h5 n6 λv7 h8 n9=>K (rC.fr a b v1 v4 v7) h8 n9:=by kernel_rfl
theorem rC.zx:IR.run rC.t1 C N O K (rC.fr a b c d e) h nx =
 zJ 4 c h λv1=>zJ 4 d h λv2=>C.fn 107 (.of 107) [v2] h nx λv3 h4 n5=>(zJ 4 c h4 λvF=>zL vF v1 (C.fn 114 (.of 114) [v1,v3] h4 n5 λv6 h7 n8=>zV 4 e v6 h7 n8 λv9 hA nA=>K (rC.fr a b c d e) hA nA)):=by kernel_rfl
theorem rC.go:zR tbl N C (.of 192) [a0,a1] h nx K0=IR.run rC.t3 C N (fnO rC.res K0) (zi rC.res K0) (rC.fr a0 a1 .u .u .u) h nx:=yC (F:=rC) (by kernel_rfl) (λ_=>by kernel_rfl) (by kernel_rfl)
theorem rC.ret:zi rC.res K0 (rC.fr a b c d e) h nx=zJ 4 e h λv1=>K0 v1 h nx:=by kernel_rfl
theorem yt.zy:IR.run yt.t0 C N O K (yt.fr a b c d e f i l p s g) h nx =
 xw a h nx λv1 h2 n3=>xw b h2 n3 λv4 h5 n6=>K (yt.fr a b v1 v4 (.str []) f i l p s g) h5 n6:=by kernel_rfl
theorem yt.zx:IR.run yt.t1 C N O K (yt.fr a b c d e f i l p s g) h nx =
 zM 0 d λv1=>zE v1 h λv2=>K (yt.fr a b c d e f i l p v2 g) h nx:=by kernel_rfl
theorem yt.je:IR.run yt.t2 C N O K (yt.fr a b c d e f i l p s g) h nx =
 zJ 2 c h λv1=>zJ 2 d h λv2=>C.fn 212 (.of 212) [v1] h nx λv3 h4 n5=>(zJ 2 d h4 λvC=>zL vC v2 (C.fn 212 (.of 212) [v2] h4 n5 λv6 h7 n8=>zV 2 c v3 h7 n8 λv9 hA nA=>zV 2 d v6 hA nA λvF hD nE=>K (yt.fr a b c d e f i l p s g) hD nE)):=by kernel_rfl
theorem yt.v9:Arg.ev (.t (.of 9)) ⟨(yt.fr a b c d e f i l p s g),[]⟩=s:=by kernel_rfl
theorem yt.fG:IR.run yt.t5 C N O K (yt.fr a b c d e f i l p s g) h nx =
 zM 1 c λv1=>zE v1 h λv2=>zM 1 d λv3=>zE v3 h λv4=>C.fn 208 (.of 208) [v2,v4] h nx λv5 h6 n7=>K (yt.fr a b c d e v5 i l p s g) h6 n7:=by kernel_rfl
theorem yt.qi:IR.run yt.t6 C N O K (yt.fr a b c d e f i l p s g) h nx =
 zM 1 c λv1=>zE v1 h λv2=>C.fn 213 (.of 213) [v2,f] h nx λv3 h4 n5=>cu 0 v3 λv6=>cu 1 v3 λv7=>K (yt.fr a b c d e f v6 l p s g) h4 n5:=by kernel_rfl
theorem yt.fC:IR.run yt.t7 C N O K (yt.fr a b c d e f i l p s g) h nx =
 zM 1 d λv1=>zE v1 h λv2=>C.fn 213 (.of 213) [v2,f] h nx λv3 h4 n5=>cu 0 v3 λv6=>cu 1 v3 λv7=>K (yt.fr a b c d e f i v6 p s g) h4 n5:=by kernel_rfl
theorem yt.fH:IR.run yt.t8 C N O K (yt.fr a b c d e f i l p s g) h nx =
 zM 0 c λv1=>zE v1 h λv2=>C.fn 214 (.of 214) [v2,i] h nx λv3 h4 n5=>C.fn 133 (.of 133) [v3] h4 n5 λv6 h7 n8=>K (yt.fr a b c d e f i l v6 s g) h7 n8:=by kernel_rfl
theorem yt.fK:IR.run yt.t9 C N O K tm h nx=zP yt.r6_0 C ⟨tm,[]⟩ h nx (λtm h nx=>K tm.v h nx):=yT ..
theorem yt.zny:zP (yt.zvs r) C ⟨(yt.fr a b c d e f i l p s g),[]⟩ h nx Kt =
 sLen l λv1=>za .eql .int v1 (I 1) λv2=>sG v2 true (λk=>k l) λv3=>sG v2 true (λk=>zH 1 v3 (I 0) k) λv4=>sG v2 true (λk=>zE v4 h k) λv5=>sG v2 true (λk=>za .eql .int v5 (I 1) k) λv6=>zP r C ⟨(yt.fr a b c d e f i l p s g),v6::v5::v4::v3::v2::v2::v1::l::[]⟩ h nx Kt:=by kernel_rfl
theorem yt.zih:zP (yt.zvt []) C ⟨(yt.fr a b c d e f i l p s g),s0::s1::s2::s3::s4::sT⟩ h nx Kt =
 yF s4 s0 (.bool false) λv1=>Kt ⟨(yt.fr a b c d e f i l p s v1),s0::s1::s2::s3::s4::sT⟩ h nx:=by kernel_rfl
theorem yt.fT:IR.run yt.t10 C N O K (yt.fr a b c d e f i l p s g) h nx =
 K (yt.fr a b c d p f i l p s g) h nx:=by kernel_rfl
theorem yt.v10:Arg.ev (.t (.of 10)) ⟨(yt.fr a b c d e f i l p s g),[]⟩=g:=by kernel_rfl
theorem yt.sD:IR.run yt.t14 C N O K (yt.fr a b c d e f i l p s g) h nx =
 za .add .str p (.str [47]) λv1=>C.fn 214 (.of 214) [(.bool false),l] h nx λv2 h3 n4=>C.fn 133 (.of 133) [v2] h3 n4 λv5 h6 n7=>za .add .str v1 v5 λv8=>K (yt.fr a b c d v8 f i l p s g) h6 n7:=by kernel_rfl
theorem yt.go:zR tbl N C (.of 130) [a0,a1] h nx K0=IR.run yt.t22 C N (fnO yt.res K0) (zi yt.res K0) (yt.fr a0 a1 .u .u .u .u .u .u .u .u .u) h nx:=yC (F:=yt) (by kernel_rfl) (λ_=>by kernel_rfl) (by kernel_rfl)
theorem yt.ret:zi yt.res K0 (yt.fr a b c d e f i l p s g) h nx=K0 e h nx:=by kernel_rfl
theorem zo.zy:IR.run zo.t0 C N O K (zo.fr a b c d e f i l p s g j o q) h nx =
 K (zo.fr a (I 0) (I 0) (.bool false) e f i l p s g j o q) h nx:=by kernel_rfl
theorem zo.zx:IR.run zo.t1 C N O K (zo.fr a b c d e f i l p s g j o q) h nx =
 K (zo.fr a b c d a f i l p s g j o q) h nx:=by kernel_rfl
theorem zo.je:IR.run zo.t2 C N O K (zo.fr a b c d e f i l p s g j o q) h nx =
 uH e λv1=>za .gtr .int v1 (I 20) λv2=>K (zo.fr a b c d e f i l p v2 g j o q) h nx:=by kernel_rfl
theorem zo.pq:IR.run zo.t3 C N O K (zo.fr a b c d e f i l p s g j o q) h nx =
 K (zo.fr a (I 0) (I 0) (.bool false) e f i l p s g j o q) h nx:=by kernel_rfl
theorem zo.v9:Arg.ev (.t (.of 9)) ⟨(zo.fr a b c d e f i l p s g j o q),[]⟩=s:=by kernel_rfl
theorem zo.fC:IR.run zo.t7 C N O K (zo.fr a b c d e f i l p s g j o q) h nx =
 uH e λv1=>za .gtr .int v1 (I 0) λv2=>sG v2 true (λk=>k e) λv3=>sG v2 true (λk=>jM v3 (I 0) k) λv4=>sG v2 true (λk=>za .eql .int v4 (.int .u8 45) k) λv5=>yF v2 v5 (.bool false) λv6=>K (zo.fr a b c d e v6 i l p s g j o q) h nx:=by kernel_rfl
theorem zo.fH:IR.run zo.t8 C N O K (zo.fr a b c d e f i l p s g j o q) h nx =
 K (zo.fr a b c d e f i l p s f j o q) h nx:=by kernel_rfl
theorem zo.fK:IR.run zo.t9 C N O K (zo.fr a b c d e f i l p s g j o q) h nx =
 jR e (some (I 1)) none λv1=>K (zo.fr a b c d v1 f i l p s g j o q) h nx:=by kernel_rfl
theorem zo.v10:Arg.ev (.t (.of 10)) ⟨(zo.fr a b c d e f i l p s g j o q),[]⟩=g:=by kernel_rfl
theorem zo.rP:IR.run zo.t12 C N O K (zo.fr a b c d e f i l p s g j o q) h nx =
 C.fn 206 (.of 206) [e] h nx λv1 h2 n3=>K (zo.fr a b c d e f v1 l p s g j o q) h2 n3:=by kernel_rfl
theorem zo.fU:IR.run zo.t13 C N O K tm h nx=zP zo.r8_0 C ⟨tm,[]⟩ h nx (λtm h nx=>K tm.v h nx):=yT ..
theorem zo.zxv:zP (zo.zvu r) C ⟨(zo.fr a b c d e f i l p s g j o q),[]⟩ h nx Kt =
 za .gtr .int i (I 9) λv1=>sG v1 false (λk=>k e) λv2=>sG v1 false (λk=>uH v2 k) λv3=>sG v1 false (λk=>k i) λv4=>sG v1 false (λk=>za .sub .int v3 v4 k) λv5=>sG v1 false (λk=>za .gtr .int v5 (I 10) k) λv6=>zP r C ⟨(zo.fr a b c d e f i l p s g j o q),v6::v5::v4::v3::v2::v1::v1::i::[]⟩ h nx Kt:=by kernel_rfl
theorem zo.znz:zP (zo.zvv []) C ⟨(zo.fr a b c d e f i l p s g j o q),s0::s1::s2::s3::s4::s5::sT⟩ h nx Kt =
 yF s5 (.bool true) s0 λv1=>Kt ⟨(zo.fr a b c d e f i l p s g v1 o q),s0::s1::s2::s3::s4::s5::sT⟩ h nx:=by kernel_rfl
theorem zo.sD:IR.run zo.t14 C N O K (zo.fr a b c d e f i l p s g j o q) h nx =
 K (zo.fr a (I 0) (I 0) (.bool false) e f i l p s g j o q) h nx:=by kernel_rfl
theorem zo.v11:Arg.ev (.t (.of 11)) ⟨(zo.fr a b c d e f i l p s g j o q),[]⟩=j:=by kernel_rfl
theorem zo.zn0:IR.run zo.t18 C N O K (zo.fr a b c d e f i l p s g j o q) h nx =
 jR e none (some i) λv1=>C.fn 209 (.of 209) [v1] h nx λv2 h3 n4=>K (zo.fr a b c d e f i v2 (I 1) s g j o q) h3 n4:=by kernel_rfl
theorem zo.sV:IR.run zo.t19 C N O K (zo.fr a b c d e f i l p s g j o q) h nx =
 uH e λv1=>za .lss .int i v1 λv2=>K (zo.fr a b c d e f i l p s g j v2 q) h nx:=by kernel_rfl
theorem zo.ah:IR.run zo.t20 C N O K (zo.fr a b c d e f i l p s g j o q) h nx =
 za .add .int i (I 1) λv1=>jR e (some v1) none λv2=>C.fn 209 (.of 209) [v2] h nx λv3 h4 n5=>K (zo.fr a b c d e f i l v3 s g j o q) h4 n5:=by kernel_rfl
theorem zo.v12:Arg.ev (.t (.of 12)) ⟨(zo.fr a b c d e f i l p s g j o q),[]⟩=o:=by kernel_rfl
theorem zo.zfn:IR.run zo.t23 C N O K (zo.fr a b c d e f i l p s g j o q) h nx =
 K (zo.fr a b c d e f i l p s g j o f) h nx:=by kernel_rfl
theorem zo.oD:IR.run zo.t24 C N O K (zo.fr a b c d e f i l p s g j o q) h nx =
 za .sub .int (I 0) l λv1=>K (zo.fr a b c d e f i v1 p s g j o q) h nx:=by kernel_rfl
theorem zo.v13:Arg.ev (.t (.of 13)) ⟨(zo.fr a b c d e f i l p s g j o q),[]⟩=q:=by kernel_rfl
theorem zo.zac:IR.run zo.t27 C N O K (zo.fr a b c d e f i l p s g j o q) h nx =
 K (zo.fr a l p (.bool true) e f i l p s g j o q) h nx:=by kernel_rfl
theorem zo.go:zR tbl N C (.of 127) [a0] h nx K0=IR.run zo.t38 C N (fnO zo.res K0) (zi zo.res K0) (zo.fr a0 .u .u .u .u .u .u .u .u .u .u .u .u .u) h nx:=yC (F:=zo) (by kernel_rfl) (λ_=>by kernel_rfl) (by kernel_rfl)
theorem zo.ret:zi zo.res K0 (zo.fr a b c d e f i l p s g j o q) h nx=K0 (.tup [b,c,d]) h nx:=by kernel_rfl
theorem zu.zy:IR.run zu.t0 C N O K (zu.fr a b c d e f i l p) h nx =
 K (zu.fr a b (.str []) d e f i l p) h nx:=by kernel_rfl
theorem zu.zx:IR.run zu.t1 C N O K tm h nx=zP zu.si C ⟨tm,[]⟩ h nx (λtm h nx=>K tm.v h nx):=yT ..
theorem zu.sj:zP (zu.rQ r) C ⟨(zu.fr a b c d e f i l p),[]⟩ h nx Kt =
 za .lss .int a (I (-4000000000000000000)) λv1=>sG v1 false (λk=>k a) λv2=>sG v1 false (λk=>za .gtr .int v2 (I 4000000000000000000) k) λv3=>yF v1 (.bool true) v3 λv4=>sG v4 false (λk=>k b) λv5=>zP r C ⟨(zu.fr a b c d e f i l p),v5::v4::v4::v3::v2::v1::v1::a::[]⟩ h nx Kt:=by kernel_rfl
theorem zu.fZ:zP (zu.rR []) C ⟨(zu.fr a b c d e f i l p),s0::s1::sT⟩ h nx Kt =
 sG s1 false (λk=>za .lss .int s0 (I (-4000000000000000000)) k) λv1=>yF s1 (.bool true) v1 λv2=>sG v2 false (λk=>k b) λv3=>sG v2 false (λk=>za .gtr .int v3 (I 4000000000000000000) k) λv4=>yF v2 (.bool true) v4 λv5=>Kt ⟨(zu.fr a b c d e v5 i l p),v4::v3::v2::v2::v1::s0::s1::sT⟩ h nx:=by kernel_rfl
theorem zu.je:IR.run zu.t2 C N O K (zu.fr a b c d e f i l p) h nx =
 C.fn 134 (.of 134) [a] h nx λv1 h2 n3=>C.fn 134 (.of 134) [b] h2 n3 λv4 h5 n6=>C.fn 130 (.of 130) [v1,v4] h5 n6 λv7 h8 n9=>K (zu.fr a b v7 d e f i l p) h8 n9:=by kernel_rfl
theorem zu.v5:Arg.ev (.t (.of 5)) ⟨(zu.fr a b c d e f i l p),[]⟩=f:=by kernel_rfl
theorem zu.qi:IR.run zu.t6 C N O K (zu.fr a b c d e f i l p) h nx =
 za .lss .int b (I 0) λv1=>K (zu.fr a b c d e f v1 l p) h nx:=by kernel_rfl
theorem zu.fC:IR.run zu.t7 C N O K (zu.fr a b c d e f i l p) h nx =
 za .sub .int (I 0) a λv1=>za .sub .int (I 0) b λv2=>K (zu.fr v1 v2 c d e f i l p) h nx:=by kernel_rfl
theorem zu.v6:Arg.ev (.t (.of 6)) ⟨(zu.fr a b c d e f i l p),[]⟩=i:=by kernel_rfl
theorem zu.fT:IR.run zu.t10 C N O K (zu.fr a b c d e f i l p) h nx =
 za .sub .int (I 0) a λv1=>sMin true a [v1] λv2=>C.fn 210 (.of 210) [v2,b] h nx λv3 h4 n5=>K (zu.fr a b c v3 e f i l p) h4 n5:=by kernel_rfl
theorem zu.di:IR.run zu.t11 C N O K (zu.fr a b c d e f i l p) h nx =
 za .quo .int a d λv1=>za .quo .int b d λv2=>K (zu.fr v1 v2 c d e f i l p) h nx:=by kernel_rfl
theorem zu.rP:IR.run zu.t12 C N O K (zu.fr a b c d e f i l p) h nx =
 K (zu.fr a b c d (.str []) f i l p) h nx:=by kernel_rfl
theorem zu.fU:IR.run zu.t13 C N O K (zu.fr a b c d e f i l p) h nx =
 za .lss .int a (I 0) λv1=>K (zu.fr a b c d e f i v1 p) h nx:=by kernel_rfl
theorem zu.sD:IR.run zu.t14 C N O K (zu.fr a b c d e f i l p) h nx =
 K (zu.fr a b c d (.str [45]) f i l p) h nx:=by kernel_rfl
theorem zu.v7:Arg.ev (.t (.of 7)) ⟨(zu.fr a b c d e f i l p),[]⟩=l:=by kernel_rfl
theorem zu.rX:IR.run zu.t17 C N O K (zu.fr a b c d e f i l p) h nx =
 za .sub .int (I 0) a λv1=>sMin true a [v1] λv2=>C.fn 211 (.of 211) [v2,(I 1)] h nx λv3 h4 n5=>za .add .str e v3 λv6=>K (zu.fr a b c d v6 f i l p) h4 n5:=by kernel_rfl
theorem zu.zn0:IR.run zu.t18 C N O K (zu.fr a b c d e f i l p) h nx =
 za .gtr .int b (I 1) λv1=>K (zu.fr a b c d e f i l v1) h nx:=by kernel_rfl
theorem zu.sV:IR.run zu.t19 C N O K (zu.fr a b c d e f i l p) h nx =
 za .add .str e (.str [47]) λv1=>C.fn 211 (.of 211) [b,(I 1)] h nx λv2 h3 n4=>za .add .str v1 v2 λv5=>K (zu.fr a b c d v5 f i l p) h3 n4:=by kernel_rfl
theorem zu.v8:Arg.ev (.t (.of 8)) ⟨(zu.fr a b c d e f i l p),[]⟩=p:=by kernel_rfl
theorem zu.aX:IR.run zu.t22 C N O K (zu.fr a b c d e f i l p) h nx =
 K (zu.fr a b e d e f i l p) h nx:=by kernel_rfl
theorem zu.go:zR tbl N C (.of 128) [a0,a1] h nx K0=IR.run zu.t32 C N (fnO zu.res K0) (zi zu.res K0) (zu.fr a0 a1 .u .u .u .u .u .u .u) h nx:=yC (F:=zu) (by kernel_rfl) (λ_=>by kernel_rfl) (by kernel_rfl)
theorem zu.ret:zi zu.res K0 (zu.fr a b c d e f i l p) h nx=K0 c h nx:=by kernel_rfl
theorem F40.zy:IR.run F40.t0 C N O K (F40.fr a b c d e f i l p s g j o q) h nx =
 K (F40.fr a b (.str []) d e f i l p s g j o q) h nx:=by kernel_rfl
theorem F40.zx:IR.run F40.t1 C N O K (F40.fr a b c d e f i l p s g j o q) h nx =
 C.fn 127 (.of 127) [a] h nx λv1 h2 n3=>cu 0 v1 λv4=>cu 1 v1 λv5=>cu 2 v1 λv6=>K (F40.fr a b c v4 v5 v6 i l p s g j o q) h2 n3:=by kernel_rfl
theorem F40.je:IR.run F40.t2 C N O K (F40.fr a b c d e f i l p s g j o q) h nx =
 C.fn 127 (.of 127) [b] h nx λv1 h2 n3=>cu 0 v1 λv4=>cu 1 v1 λv5=>cu 2 v1 λv6=>K (F40.fr a b c d e f v4 v5 v6 s g j o q) h2 n3:=by kernel_rfl
theorem F40.pq:IR.run F40.t3 C N O K (F40.fr a b c d e f i l p s g j o q) h nx =
 sG f true (λk=>k p) λv1=>yF f v1 (.bool false) λv2=>K (F40.fr a b c d e f i l p s g j o v2) h nx:=by kernel_rfl
theorem F40.fJ:IR.run F40.t4 C N O K (F40.fr a b c d e f i l p s g j o q) h nx =
 za .mul .int d l λv1=>za .mul .int i e λv2=>za .add .int v1 v2 λv3=>za .mul .int e l λv4=>C.fn 128 (.of 128) [v3,v4] h nx λv5 h6 n7=>K (F40.fr a b v5 d e f i l p s g j o q) h6 n7:=by kernel_rfl
theorem F40.v13:Arg.ev (.t (.of 13)) ⟨(F40.fr a b c d e f i l p s g j o q),[]⟩=q:=by kernel_rfl
theorem F40.fH:IR.run F40.t8 C N O K (F40.fr a b c d e f i l p s g j o q) h nx =
 C.fn 129 (.of 129) [a] h nx λv1 h2 n3=>cu 0 v1 λv4=>cu 1 v1 λv5=>yK [(.bool false),.ze] h2 n3 λv6 h7 n8=>yK [(.bool false),.ze] h7 n8 λv9 hA nA=>zV 2 v6 v4 hA nA λvF hD nE=>zV 2 v9 v5 hD nE λvC hI nJ=>K (F40.fr a b c d e f i l p v6 v9 j o q) hI nJ:=by kernel_rfl
theorem F40.fK:IR.run F40.t9 C N O K (F40.fr a b c d e f i l p s g j o q) h nx =
 C.fn 129 (.of 129) [b] h nx λv1 h2 n3=>cu 0 v1 λv4=>cu 1 v1 λv5=>yK [(.bool false),.ze] h2 n3 λv6 h7 n8=>yK [(.bool false),.ze] h7 n8 λv9 hA nA=>zV 2 v6 v4 hA nA λvF hD nE=>zV 2 v9 v5 hD nE λvC hI nJ=>K (F40.fr a b c d e f i l p s g v6 v9 q) hI nJ:=by kernel_rfl
theorem F40.fT:IR.run F40.t10 C N O K (F40.fr a b c d e f i l p s g j o q) h nx =
 zJ 2 s h λv1=>zJ 2 o h λv2=>zJ 2 j h λv3=>zJ 2 g h λv4=>zJ 2 g h λv5=>zJ 2 o h λv6=>C.fn 132 (.of 132) [v1,v2] h nx λv7 h8 n9=>(zJ 2 o h8 λv29=>zL v29 v6 ((zJ 2 g h8 λv28=>zL v28 v5 ((zJ 2 g h8 λv27=>zL v27 v4 ((zJ 2 j h8 λv26=>zL v26 v3 (C.fn 132 (.of 132) [v3,v4] h8 n9 λvH hC nD=>(zJ 2 o hC λv25=>zL v25 v6 ((zJ 2 g hC λvO=>zL vO v5 (C.fn 131 (.of 131) [v7,vH] hC nD λvE hG nH=>(zJ 2 o hG λvI=>zL vI v6 ((zJ 2 g hG λvK=>zL vK v5 (C.fn 132 (.of 132) [v5,v6] hG nH λvB hH nI=>C.fn 130 (.of 130) [vE,vB] hH nI λvN hK nL=>K (F40.fr a b vN d e f i l p s g j o q) hK nL)))))))))))))))):=by kernel_rfl
theorem F40.go:zR tbl N C (.of 40) [a0,a1] h nx K0=IR.run F40.t17 C N (fnO F40.res K0) (zi F40.res K0) (F40.fr a0 a1 .u .u .u .u .u .u .u .u .u .u .u .u) h nx:=yC (F:=F40) (by kernel_rfl) (λ_=>by kernel_rfl) (by kernel_rfl)
theorem F40.ret:zi F40.res K0 (F40.fr a b c d e f i l p s g j o q) h nx=K0 c h nx:=by kernel_rfl
theorem F41.zy:IR.run F41.t0 C N O K (F41.fr a b c d e f i l p s g j o q) h nx =
 K (F41.fr a b (.str []) d e f i l p s g j o q) h nx:=by kernel_rfl
theorem F41.zx:IR.run F41.t1 C N O K (F41.fr a b c d e f i l p s g j o q) h nx =
 C.fn 127 (.of 127) [a] h nx λv1 h2 n3=>cu 0 v1 λv4=>cu 1 v1 λv5=>cu 2 v1 λv6=>K (F41.fr a b c v4 v5 v6 i l p s g j o q) h2 n3:=by kernel_rfl
theorem F41.je:IR.run F41.t2 C N O K (F41.fr a b c d e f i l p s g j o q) h nx =
 C.fn 127 (.of 127) [b] h nx λv1 h2 n3=>cu 0 v1 λv4=>cu 1 v1 λv5=>cu 2 v1 λv6=>K (F41.fr a b c d e f v4 v5 v6 s g j o q) h2 n3:=by kernel_rfl
theorem F41.pq:IR.run F41.t3 C N O K (F41.fr a b c d e f i l p s g j o q) h nx =
 sG f true (λk=>k p) λv1=>yF f v1 (.bool false) λv2=>K (F41.fr a b c d e f i l p s g j o v2) h nx:=by kernel_rfl
theorem F41.fJ:IR.run F41.t4 C N O K (F41.fr a b c d e f i l p s g j o q) h nx =
 za .mul .int d i λv1=>za .mul .int e l λv2=>C.fn 128 (.of 128) [v1,v2] h nx λv3 h4 n5=>K (F41.fr a b v3 d e f i l p s g j o q) h4 n5:=by kernel_rfl
theorem F41.v13:Arg.ev (.t (.of 13)) ⟨(F41.fr a b c d e f i l p s g j o q),[]⟩=q:=by kernel_rfl
theorem F41.fH:IR.run F41.t8 C N O K (F41.fr a b c d e f i l p s g j o q) h nx =
 C.fn 129 (.of 129) [a] h nx λv1 h2 n3=>cu 0 v1 λv4=>cu 1 v1 λv5=>yK [(.bool false),.ze] h2 n3 λv6 h7 n8=>yK [(.bool false),.ze] h7 n8 λv9 hA nA=>zV 2 v6 v4 hA nA λvF hD nE=>zV 2 v9 v5 hD nE λvC hI nJ=>K (F41.fr a b c d e f i l p v6 v9 j o q) hI nJ:=by kernel_rfl
theorem F41.fK:IR.run F41.t9 C N O K (F41.fr a b c d e f i l p s g j o q) h nx =
 C.fn 129 (.of 129) [b] h nx λv1 h2 n3=>cu 0 v1 λv4=>cu 1 v1 λv5=>yK [(.bool false),.ze] h2 n3 λv6 h7 n8=>yK [(.bool false),.ze] h7 n8 λv9 hA nA=>zV 2 v6 v4 hA nA λvF hD nE=>zV 2 v9 v5 hD nE λvC hI nJ=>K (F41.fr a b c d e f i l p s g v6 v9 q) hI nJ:=by kernel_rfl
theorem F41.fT:IR.run F41.t10 C N O K (F41.fr a b c d e f i l p s g j o q) h nx =
 zJ 2 s h λv1=>zJ 2 j h λv2=>zJ 2 g h λv3=>zJ 2 o h λv4=>C.fn 132 (.of 132) [v1,v2] h nx λv5 h6 n7=>(zJ 2 o h6 λvC=>zL vC v4 ((zJ 2 g h6 λvD=>zL vD v3 (C.fn 132 (.of 132) [v3,v4] h6 n7 λv8 h9 nB=>C.fn 130 (.of 130) [v5,v8] h9 nB λvG hB nC=>K (F41.fr a b vG d e f i l p s g j o q) hB nC)))):=by kernel_rfl
theorem F41.go:zR tbl N C (.of 41) [a0,a1] h nx K0=IR.run F41.t17 C N (fnO F41.res K0) (zi F41.res K0) (F41.fr a0 a1 .u .u .u .u .u .u .u .u .u .u .u .u) h nx:=yC (F:=F41) (by kernel_rfl) (λ_=>by kernel_rfl) (by kernel_rfl)
theorem F41.ret:zi F41.res K0 (F41.fr a b c d e f i l p s g j o q) h nx=K0 c h nx:=by kernel_rfl
theorem F39.zy:IR.run F39.t0 C N O K (F39.fr a b) h nx =
 K (F39.fr a (.bool false)) h nx:=by kernel_rfl
theorem F39.zx:IR.run F39.t1 C N O K (F39.fr a b) h nx =
 za .eql .str a (.str [48]) λv1=>K (F39.fr a v1) h nx:=by kernel_rfl
theorem F39.go:zR tbl N C (.of 39) [a0] h nx K0=IR.run F39.t3 C N (fnO F39.res K0) (zi F39.res K0) (F39.fr a0 .u) h nx:=yC (F:=F39) (by kernel_rfl) (λ_=>by kernel_rfl) (by kernel_rfl)
theorem F39.ret:zi F39.res K0 (F39.fr a b) h nx=K0 b h nx:=by kernel_rfl
theorem fI.zy:IR.run fI.t0 C N O K (fI.fr a b c) h nx =
 K (fI.fr a (I 0) c) h nx:=by kernel_rfl
theorem fI.zx:IR.run fI.t1 C N O K (fI.fr a b c) h nx =
 C.fn 312 (.of 312) [a] h nx λv1 h2 n3=>C.fn 329 (.of 329) [v1] h2 n3 λv4 h5 n6=>K (fI.fr a b v4) h5 n6:=by kernel_rfl
theorem fI.je:IR.run fI.t2 C N O K (fI.fr a b c) h nx =
 zak 1 20 (.fp (layL 2)) c λv1=>zE v1 h λv2=>za .geq .int a v2 λv3=>C.fn 330 (.of 330) [v3] h nx λv4 h5 n6=>za .add .int c v4 λv7=>K (fI.fr a v7 c) h5 n6:=by kernel_rfl
theorem fI.go:zR tbl N C (.of 316) [a0] h nx K0=IR.run fI.t5 C N (fnO fI.res K0) (zi fI.res K0) (fI.fr a0 .u .u) h nx:=yC (F:=fI) (by kernel_rfl) (λ_=>by kernel_rfl) (by kernel_rfl)
theorem fI.ret:zi fI.res K0 (fI.fr a b c) h nx=K0 b h nx:=by kernel_rfl
theorem rD.zy:IR.run rD.t0 C N O K (rD.fr a b) h nx =
 K (rD.fr a (I 0)) h nx:=by kernel_rfl
theorem rD.zx:IR.run rD.t1 C N O K (rD.fr a b) h nx =
 za .mul .int a (I 78913) λv1=>za .shr .int v1 (.int .u64 18) λv2=>K (rD.fr a v2) h nx:=by kernel_rfl
theorem rD.go:zR tbl N C (.of 329) [a0] h nx K0=IR.run rD.t3 C N (fnO rD.res K0) (zi rD.res K0) (rD.fr a0 .u) h nx:=yC (F:=rD) (by kernel_rfl) (λ_=>by kernel_rfl) (by kernel_rfl)
theorem rD.ret:zi rD.res K0 (rD.fr a b) h nx=K0 b h nx:=by kernel_rfl
theorem mg.zy:IR.run mg.t0 C N O K (mg.fr a b c) h nx =
 K (mg.fr a (I 0) c) h nx:=by kernel_rfl
theorem mg.zx:IR.run mg.t1 C N O K (mg.fr a b c) h nx =
 K (mg.fr a b a) h nx:=by kernel_rfl
theorem mg.je:IR.run mg.t2 C N O K (mg.fr a b c) h nx =
 K (mg.fr a (I 1) c) h nx:=by kernel_rfl
theorem mg.v2:Arg.ev (.t (.of 2)) ⟨(mg.fr a b c),[]⟩=c:=by kernel_rfl
theorem mg.qi:IR.run mg.t6 C N O K (mg.fr a b c) h nx =
 K (mg.fr a (I 0) c) h nx:=by kernel_rfl
theorem mg.go:zR tbl N C (.of 330) [a0] h nx K0=IR.run mg.t9 C N (fnO mg.res K0) (zi mg.res K0) (mg.fr a0 .u .u) h nx:=yC (F:=mg) (by kernel_rfl) (λ_=>by kernel_rfl) (by kernel_rfl)
theorem mg.ret:zi mg.res K0 (mg.fr a b c) h nx=K0 b h nx:=by kernel_rfl
theorem zh.zy:IR.run zh.t0 C N O K (zh.fr a b c d e f i l p s g j o q u y w v z) h nx =
 sLen a λv1=>K (zh.fr a b v1 d e f i l p s g j o q u y w v z) h nx:=by kernel_rfl
theorem zh.zx:IR.run zh.t1 C N O K (zh.fr a b c d e f i l p s g j o q u y w v z) h nx =
 za .geq .int c (I 8) λv1=>K (zh.fr a b c d e f i l p s g j o q u v1 w v z) h nx:=by kernel_rfl
theorem zh.v15:Arg.ev (.t (.of 15)) ⟨(zh.fr a b c d e f i l p s g j o q u y w v z),[]⟩=y:=by kernel_rfl
theorem zh.fJ:IR.run zh.t4 C N O K (zh.fr a b c d e f i l p s g j o q u y w v z) h nx =
 za .rem .int b (.int .u64 100000000) λv1=>kL .u32 v1 λv2=>K (zh.fr a b c v2 e f i l p s g j o q u y w v z) h nx:=by kernel_rfl
theorem zh.fG:IR.run zh.t5 C N O K (zh.fr a b c d e f i l p s g j o q u y w v z) h nx =
 za .quo .int b (.int .u64 100000000) λv1=>K (zh.fr a v1 c d e f i l p s g j o q u y w v z) h nx:=by kernel_rfl
theorem zh.qi:IR.run zh.t6 C N O K (zh.fr a b c d e f i l p s g j o q u y w v z) h nx =
 za .quo .int d (.int .u32 10000) λv1=>za .rem .int d (.int .u32 10000) λv2=>K (zh.fr a b c d v1 v2 i l p s g j o q u y w v z) h nx:=by kernel_rfl
theorem zh.fC:IR.run zh.t7 C N O K (zh.fr a b c d e f i l p s g j o q u y w v z) h nx =
 za .quo .int f (.int .u32 100) λv1=>za .mul .int v1 (.int .u32 2) λv2=>za .rem .int f (.int .u32 100) λv3=>za .mul .int v3 (.int .u32 2) λv4=>K (zh.fr a b c d e f v2 v4 p s g j o q u y w v z) h nx:=by kernel_rfl
theorem zh.fH:IR.run zh.t8 C N O K (zh.fr a b c d e f i l p s g j o q u y w v z) h nx =
 za .quo .int e (.int .u32 100) λv1=>za .mul .int v1 (.int .u32 2) λv2=>za .rem .int e (.int .u32 100) λv3=>za .mul .int v3 (.int .u32 2) λv4=>K (zh.fr a b c d e f i l v2 v4 g j o q u y w v z) h nx:=by kernel_rfl
theorem zh.fK:IR.run zh.t9 C N O K (zh.fr a b c d e f i l p s g j o q u y w v z) h nx =
 za .sub .int c (I 1) λv1=>za .sub .int c (I 2) λv2=>za .add .int l (.int .u32 1) λv3=>jM (.str [48,48,48,49,48,50,48,51,48,52,48,53,48,54,48,55,48,56,48,57,49,48,49,49,49,50,49,51,49,52,49,53,49,54,49,55,49,56,49,57,50,48,50,49,50,50,50,51,50,52,50,53,50,54,50,55,50,56,50,57,51,48,51,49,51,50,51,51,51,52,51,53,51,54,51,55,51,56,51,57,52,48,52,49,52,50,52,51,52,52,52,53,52,54,52,55,52,56,52,57,53,48,53,49,53,50,53,51,53,52,53,53,53,54,53,55,53,56,53,57,54,48,54,49,54,50,54,51,54,52,54,53,54,54,54,55,54,56,54,57,55,48,55,49,55,50,55,51,55,52,55,53,55,54,55,55,55,56,55,57,56,48,56,49,56,50,56,51,56,52,56,53,56,54,56,55,56,56,56,57,57,48,57,49,57,50,57,51,57,52,57,53,57,54,57,55,57,56,57,57]) v3 λv4=>jM (.str [48,48,48,49,48,50,48,51,48,52,48,53,48,54,48,55,48,56,48,57,49,48,49,49,49,50,49,51,49,52,49,53,49,54,49,55,49,56,49,57,50,48,50,49,50,50,50,51,50,52,50,53,50,54,50,55,50,56,50,57,51,48,51,49,51,50,51,51,51,52,51,53,51,54,51,55,51,56,51,57,52,48,52,49,52,50,52,51,52,52,52,53,52,54,52,55,52,56,52,57,53,48,53,49,53,50,53,51,53,52,53,53,53,54,53,55,53,56,53,57,54,48,54,49,54,50,54,51,54,52,54,53,54,54,54,55,54,56,54,57,55,48,55,49,55,50,55,51,55,52,55,53,55,54,55,55,55,56,55,57,56,48,56,49,56,50,56,51,56,52,56,53,56,54,56,55,56,56,56,57,57,48,57,49,57,50,57,51,57,52,57,53,57,54,57,55,57,56,57,57]) l λv5=>zH 1 a v1 λv6=>zV 1 v6 v4 h nx λv7 h8 n9=>(jM (.str [48,48,48,49,48,50,48,51,48,52,48,53,48,54,48,55,48,56,48,57,49,48,49,49,49,50,49,51,49,52,49,53,49,54,49,55,49,56,49,57,50,48,50,49,50,50,50,51,50,52,50,53,50,54,50,55,50,56,50,57,51,48,51,49,51,50,51,51,51,52,51,53,51,54,51,55,51,56,51,57,52,48,52,49,52,50,52,51,52,52,52,53,52,54,52,55,52,56,52,57,53,48,53,49,53,50,53,51,53,52,53,53,53,54,53,55,53,56,53,57,54,48,54,49,54,50,54,51,54,52,54,53,54,54,54,55,54,56,54,57,55,48,55,49,55,50,55,51,55,52,55,53,55,54,55,55,55,56,55,57,56,48,56,49,56,50,56,51,56,52,56,53,56,54,56,55,56,56,56,57,57,48,57,49,57,50,57,51,57,52,57,53,57,54,57,55,57,56,57,57]) l λvC=>zL vC v5 (zL l l ((za .sub .int c (I 2) λvD=>zL vD v2 (zL c c (zL a a (zH 1 a v2 λvH=>zV 1 vH v5 h8 n9 λvG hB nC=>K (zh.fr a b c d e f i l p s g j o q u y w v z) hB nC))))))):=by kernel_rfl
theorem zh.fT:IR.run zh.t10 C N O K (zh.fr a b c d e f i l p s g j o q u y w v z) h nx =
 za .sub .int c (I 3) λv1=>za .sub .int c (I 4) λv2=>za .add .int i (.int .u32 1) λv3=>jM (.str [48,48,48,49,48,50,48,51,48,52,48,53,48,54,48,55,48,56,48,57,49,48,49,49,49,50,49,51,49,52,49,53,49,54,49,55,49,56,49,57,50,48,50,49,50,50,50,51,50,52,50,53,50,54,50,55,50,56,50,57,51,48,51,49,51,50,51,51,51,52,51,53,51,54,51,55,51,56,51,57,52,48,52,49,52,50,52,51,52,52,52,53,52,54,52,55,52,56,52,57,53,48,53,49,53,50,53,51,53,52,53,53,53,54,53,55,53,56,53,57,54,48,54,49,54,50,54,51,54,52,54,53,54,54,54,55,54,56,54,57,55,48,55,49,55,50,55,51,55,52,55,53,55,54,55,55,55,56,55,57,56,48,56,49,56,50,56,51,56,52,56,53,56,54,56,55,56,56,56,57,57,48,57,49,57,50,57,51,57,52,57,53,57,54,57,55,57,56,57,57]) v3 λv4=>jM (.str [48,48,48,49,48,50,48,51,48,52,48,53,48,54,48,55,48,56,48,57,49,48,49,49,49,50,49,51,49,52,49,53,49,54,49,55,49,56,49,57,50,48,50,49,50,50,50,51,50,52,50,53,50,54,50,55,50,56,50,57,51,48,51,49,51,50,51,51,51,52,51,53,51,54,51,55,51,56,51,57,52,48,52,49,52,50,52,51,52,52,52,53,52,54,52,55,52,56,52,57,53,48,53,49,53,50,53,51,53,52,53,53,53,54,53,55,53,56,53,57,54,48,54,49,54,50,54,51,54,52,54,53,54,54,54,55,54,56,54,57,55,48,55,49,55,50,55,51,55,52,55,53,55,54,55,55,55,56,55,57,56,48,56,49,56,50,56,51,56,52,56,53,56,54,56,55,56,56,56,57,57,48,57,49,57,50,57,51,57,52,57,53,57,54,57,55,57,56,57,57]) i λv5=>zH 1 a v1 λv6=>zV 1 v6 v4 h nx λv7 h8 n9=>(jM (.str [48,48,48,49,48,50,48,51,48,52,48,53,48,54,48,55,48,56,48,57,49,48,49,49,49,50,49,51,49,52,49,53,49,54,49,55,49,56,49,57,50,48,50,49,50,50,50,51,50,52,50,53,50,54,50,55,50,56,50,57,51,48,51,49,51,50,51,51,51,52,51,53,51,54,51,55,51,56,51,57,52,48,52,49,52,50,52,51,52,52,52,53,52,54,52,55,52,56,52,57,53,48,53,49,53,50,53,51,53,52,53,53,53,54,53,55,53,56,53,57,54,48,54,49,54,50,54,51,54,52,54,53,54,54,54,55,54,56,54,57,55,48,55,49,55,50,55,51,55,52,55,53,55,54,55,55,55,56,55,57,56,48,56,49,56,50,56,51,56,52,56,53,56,54,56,55,56,56,56,57,57,48,57,49,57,50,57,51,57,52,57,53,57,54,57,55,57,56,57,57]) i λvC=>zL vC v5 (zL i i ((za .sub .int c (I 4) λvD=>zL vD v2 (zL c c (zL a a (zH 1 a v2 λvH=>zV 1 vH v5 h8 n9 λvG hB nC=>K (zh.fr a b c d e f i l p s g j o q u y w v z) hB nC))))))):=by kernel_rfl
theorem zh.di:IR.run zh.t11 C N O K (zh.fr a b c d e f i l p s g j o q u y w v z) h nx =
 za .sub .int c (I 5) λv1=>za .sub .int c (I 6) λv2=>za .add .int s (.int .u32 1) λv3=>jM (.str [48,48,48,49,48,50,48,51,48,52,48,53,48,54,48,55,48,56,48,57,49,48,49,49,49,50,49,51,49,52,49,53,49,54,49,55,49,56,49,57,50,48,50,49,50,50,50,51,50,52,50,53,50,54,50,55,50,56,50,57,51,48,51,49,51,50,51,51,51,52,51,53,51,54,51,55,51,56,51,57,52,48,52,49,52,50,52,51,52,52,52,53,52,54,52,55,52,56,52,57,53,48,53,49,53,50,53,51,53,52,53,53,53,54,53,55,53,56,53,57,54,48,54,49,54,50,54,51,54,52,54,53,54,54,54,55,54,56,54,57,55,48,55,49,55,50,55,51,55,52,55,53,55,54,55,55,55,56,55,57,56,48,56,49,56,50,56,51,56,52,56,53,56,54,56,55,56,56,56,57,57,48,57,49,57,50,57,51,57,52,57,53,57,54,57,55,57,56,57,57]) v3 λv4=>jM (.str [48,48,48,49,48,50,48,51,48,52,48,53,48,54,48,55,48,56,48,57,49,48,49,49,49,50,49,51,49,52,49,53,49,54,49,55,49,56,49,57,50,48,50,49,50,50,50,51,50,52,50,53,50,54,50,55,50,56,50,57,51,48,51,49,51,50,51,51,51,52,51,53,51,54,51,55,51,56,51,57,52,48,52,49,52,50,52,51,52,52,52,53,52,54,52,55,52,56,52,57,53,48,53,49,53,50,53,51,53,52,53,53,53,54,53,55,53,56,53,57,54,48,54,49,54,50,54,51,54,52,54,53,54,54,54,55,54,56,54,57,55,48,55,49,55,50,55,51,55,52,55,53,55,54,55,55,55,56,55,57,56,48,56,49,56,50,56,51,56,52,56,53,56,54,56,55,56,56,56,57,57,48,57,49,57,50,57,51,57,52,57,53,57,54,57,55,57,56,57,57]) s λv5=>zH 1 a v1 λv6=>zV 1 v6 v4 h nx λv7 h8 n9=>(jM (.str [48,48,48,49,48,50,48,51,48,52,48,53,48,54,48,55,48,56,48,57,49,48,49,49,49,50,49,51,49,52,49,53,49,54,49,55,49,56,49,57,50,48,50,49,50,50,50,51,50,52,50,53,50,54,50,55,50,56,50,57,51,48,51,49,51,50,51,51,51,52,51,53,51,54,51,55,51,56,51,57,52,48,52,49,52,50,52,51,52,52,52,53,52,54,52,55,52,56,52,57,53,48,53,49,53,50,53,51,53,52,53,53,53,54,53,55,53,56,53,57,54,48,54,49,54,50,54,51,54,52,54,53,54,54,54,55,54,56,54,57,55,48,55,49,55,50,55,51,55,52,55,53,55,54,55,55,55,56,55,57,56,48,56,49,56,50,56,51,56,52,56,53,56,54,56,55,56,56,56,57,57,48,57,49,57,50,57,51,57,52,57,53,57,54,57,55,57,56,57,57]) s λvC=>zL vC v5 (zL s s ((za .sub .int c (I 6) λvD=>zL vD v2 (zL c c (zL a a (zH 1 a v2 λvH=>zV 1 vH v5 h8 n9 λvG hB nC=>K (zh.fr a b c d e f i l p s g j o q u y w v z) hB nC))))))):=by kernel_rfl
theorem zh.rP:IR.run zh.t12 C N O K (zh.fr a b c d e f i l p s g j o q u y w v z) h nx =
 za .sub .int c (I 7) λv1=>za .sub .int c (I 8) λv2=>za .add .int p (.int .u32 1) λv3=>jM (.str [48,48,48,49,48,50,48,51,48,52,48,53,48,54,48,55,48,56,48,57,49,48,49,49,49,50,49,51,49,52,49,53,49,54,49,55,49,56,49,57,50,48,50,49,50,50,50,51,50,52,50,53,50,54,50,55,50,56,50,57,51,48,51,49,51,50,51,51,51,52,51,53,51,54,51,55,51,56,51,57,52,48,52,49,52,50,52,51,52,52,52,53,52,54,52,55,52,56,52,57,53,48,53,49,53,50,53,51,53,52,53,53,53,54,53,55,53,56,53,57,54,48,54,49,54,50,54,51,54,52,54,53,54,54,54,55,54,56,54,57,55,48,55,49,55,50,55,51,55,52,55,53,55,54,55,55,55,56,55,57,56,48,56,49,56,50,56,51,56,52,56,53,56,54,56,55,56,56,56,57,57,48,57,49,57,50,57,51,57,52,57,53,57,54,57,55,57,56,57,57]) v3 λv4=>jM (.str [48,48,48,49,48,50,48,51,48,52,48,53,48,54,48,55,48,56,48,57,49,48,49,49,49,50,49,51,49,52,49,53,49,54,49,55,49,56,49,57,50,48,50,49,50,50,50,51,50,52,50,53,50,54,50,55,50,56,50,57,51,48,51,49,51,50,51,51,51,52,51,53,51,54,51,55,51,56,51,57,52,48,52,49,52,50,52,51,52,52,52,53,52,54,52,55,52,56,52,57,53,48,53,49,53,50,53,51,53,52,53,53,53,54,53,55,53,56,53,57,54,48,54,49,54,50,54,51,54,52,54,53,54,54,54,55,54,56,54,57,55,48,55,49,55,50,55,51,55,52,55,53,55,54,55,55,55,56,55,57,56,48,56,49,56,50,56,51,56,52,56,53,56,54,56,55,56,56,56,57,57,48,57,49,57,50,57,51,57,52,57,53,57,54,57,55,57,56,57,57]) p λv5=>zH 1 a v1 λv6=>zV 1 v6 v4 h nx λv7 h8 n9=>(jM (.str [48,48,48,49,48,50,48,51,48,52,48,53,48,54,48,55,48,56,48,57,49,48,49,49,49,50,49,51,49,52,49,53,49,54,49,55,49,56,49,57,50,48,50,49,50,50,50,51,50,52,50,53,50,54,50,55,50,56,50,57,51,48,51,49,51,50,51,51,51,52,51,53,51,54,51,55,51,56,51,57,52,48,52,49,52,50,52,51,52,52,52,53,52,54,52,55,52,56,52,57,53,48,53,49,53,50,53,51,53,52,53,53,53,54,53,55,53,56,53,57,54,48,54,49,54,50,54,51,54,52,54,53,54,54,54,55,54,56,54,57,55,48,55,49,55,50,55,51,55,52,55,53,55,54,55,55,55,56,55,57,56,48,56,49,56,50,56,51,56,52,56,53,56,54,56,55,56,56,56,57,57,48,57,49,57,50,57,51,57,52,57,53,57,54,57,55,57,56,57,57]) p λvC=>zL vC v5 (zL p p ((za .sub .int c (I 8) λvD=>zL vD v2 (zL c c (zL a a (zH 1 a v2 λvH=>zV 1 vH v5 h8 n9 λvG hB nC=>K (zh.fr a b c d e f i l p s g j o q u y w v z) hB nC))))))):=by kernel_rfl
theorem zh.fU:IR.run zh.t13 C N O K (zh.fr a b c d e f i l p s g j o q u y w v z) h nx =
 za .sub .int c (I 8) λv1=>K (zh.fr a b v1 d e f i l p s g j o q u y w v z) h nx:=by kernel_rfl
theorem zh.qae (Inv:Nat->AV->AV->T Blk->Pa->Prop) {m:Nat} (hm:m<N) (hi:Inv m b c h nx)
  (step:∀ (m:Nat) (z1 z2 z3 z4 z5 z6 z7 z8 z9 zD:AV) (h:T Blk) (nx:Pa) (R:Ks Prop),Inv m z1 z2 h nx->(∀ (m':Nat) (w1 w2 w3 w4 w5 w6 w7 w8 w9 wD:AV) (h':T Blk) (nx':Pa),m'<m->Inv m' w1 w2 h' nx'->R (zh.fr a w1 w2 w3 w4 w5 w6 w7 w8 w9 g j o q u wD w v z) h' nx'=.ok True)->IR.run zh.t24 C N O R (zh.fr a z1 z2 z3 z4 z5 z6 z7 z8 z9 g j o q u zD w v z) h nx=.ok True) :
  IR.run zh.t25 C N O K (zh.fr a b c d e f i l p s g j o q u y w v z) h nx=.ok True:=by
 rw [zh.t25];refine yB (λm tm h nx=>∃ z1 z2 z3 z4 z5 z6 z7 z8 z9 zD,tm=(zh.fr a z1 z2 z3 z4 z5 z6 z7 z8 z9 g j o q u zD w v z)/\Inv m z1 z2 h nx) ?_ hm ⟨_,_,_,_,_,_,_,_,_,_,rfl,hi⟩;rintro m tm h nx R ⟨z1,z2,z3,z4,z5,z6,z7,z8,z9,zD,rfl,hi⟩ hR;exact step m z1 z2 z3 z4 z5 z6 z7 z8 z9 zD h nx R hi λm' w1 w2 w3 w4 w5 w6 w7 w8 w9 wD h' nx' hlt hi'=>hR m' _ h' nx' hlt ⟨_,_,_,_,_,_,_,_,_,_,rfl,hi'⟩
theorem zh.zac:IR.run zh.t27 C N O K (zh.fr a b c d e f i l p s g j o q u y w v z) h nx =
 kL .u32 b λv1=>K (zh.fr a b c d e f i l p s v1 j o q u y w v z) h nx:=by kernel_rfl
theorem zh.zfj:IR.run zh.t28 C N O K (zh.fr a b c d e f i l p s g j o q u y w v z) h nx =
 za .geq .int c (I 4) λv1=>K (zh.fr a b c d e f i l p s g j o q u y v1 v z) h nx:=by kernel_rfl
theorem zh.zn1:IR.run zh.t29 C N O K (zh.fr a b c d e f i l p s g j o q u y w v z) h nx =
 za .rem .int g (.int .u32 10000) λv1=>K (zh.fr a b c d e f i l p s g v1 o q u y w v z) h nx:=by kernel_rfl
theorem zh.zfr:IR.run zh.t30 C N O K (zh.fr a b c d e f i l p s g j o q u y w v z) h nx =
 za .quo .int g (.int .u32 10000) λv1=>K (zh.fr a b c d e f i l p s v1 j o q u y w v z) h nx:=by kernel_rfl
theorem zh.zfs:IR.run zh.t31 C N O K (zh.fr a b c d e f i l p s g j o q u y w v z) h nx =
 za .quo .int j (.int .u32 100) λv1=>za .mul .int v1 (.int .u32 2) λv2=>za .rem .int j (.int .u32 100) λv3=>za .mul .int v3 (.int .u32 2) λv4=>K (zh.fr a b c d e f i l p s g j v2 v4 u y w v z) h nx:=by kernel_rfl
theorem zh.zft:IR.run zh.t32 C N O K (zh.fr a b c d e f i l p s g j o q u y w v z) h nx =
 za .sub .int c (I 1) λv1=>za .sub .int c (I 2) λv2=>za .add .int q (.int .u32 1) λv3=>jM (.str [48,48,48,49,48,50,48,51,48,52,48,53,48,54,48,55,48,56,48,57,49,48,49,49,49,50,49,51,49,52,49,53,49,54,49,55,49,56,49,57,50,48,50,49,50,50,50,51,50,52,50,53,50,54,50,55,50,56,50,57,51,48,51,49,51,50,51,51,51,52,51,53,51,54,51,55,51,56,51,57,52,48,52,49,52,50,52,51,52,52,52,53,52,54,52,55,52,56,52,57,53,48,53,49,53,50,53,51,53,52,53,53,53,54,53,55,53,56,53,57,54,48,54,49,54,50,54,51,54,52,54,53,54,54,54,55,54,56,54,57,55,48,55,49,55,50,55,51,55,52,55,53,55,54,55,55,55,56,55,57,56,48,56,49,56,50,56,51,56,52,56,53,56,54,56,55,56,56,56,57,57,48,57,49,57,50,57,51,57,52,57,53,57,54,57,55,57,56,57,57]) v3 λv4=>jM (.str [48,48,48,49,48,50,48,51,48,52,48,53,48,54,48,55,48,56,48,57,49,48,49,49,49,50,49,51,49,52,49,53,49,54,49,55,49,56,49,57,50,48,50,49,50,50,50,51,50,52,50,53,50,54,50,55,50,56,50,57,51,48,51,49,51,50,51,51,51,52,51,53,51,54,51,55,51,56,51,57,52,48,52,49,52,50,52,51,52,52,52,53,52,54,52,55,52,56,52,57,53,48,53,49,53,50,53,51,53,52,53,53,53,54,53,55,53,56,53,57,54,48,54,49,54,50,54,51,54,52,54,53,54,54,54,55,54,56,54,57,55,48,55,49,55,50,55,51,55,52,55,53,55,54,55,55,55,56,55,57,56,48,56,49,56,50,56,51,56,52,56,53,56,54,56,55,56,56,56,57,57,48,57,49,57,50,57,51,57,52,57,53,57,54,57,55,57,56,57,57]) q λv5=>zH 1 a v1 λv6=>zV 1 v6 v4 h nx λv7 h8 n9=>(jM (.str [48,48,48,49,48,50,48,51,48,52,48,53,48,54,48,55,48,56,48,57,49,48,49,49,49,50,49,51,49,52,49,53,49,54,49,55,49,56,49,57,50,48,50,49,50,50,50,51,50,52,50,53,50,54,50,55,50,56,50,57,51,48,51,49,51,50,51,51,51,52,51,53,51,54,51,55,51,56,51,57,52,48,52,49,52,50,52,51,52,52,52,53,52,54,52,55,52,56,52,57,53,48,53,49,53,50,53,51,53,52,53,53,53,54,53,55,53,56,53,57,54,48,54,49,54,50,54,51,54,52,54,53,54,54,54,55,54,56,54,57,55,48,55,49,55,50,55,51,55,52,55,53,55,54,55,55,55,56,55,57,56,48,56,49,56,50,56,51,56,52,56,53,56,54,56,55,56,56,56,57,57,48,57,49,57,50,57,51,57,52,57,53,57,54,57,55,57,56,57,57]) q λvC=>zL vC v5 (zL q q ((za .sub .int c (I 2) λvD=>zL vD v2 (zL c c (zL a a (zH 1 a v2 λvH=>zV 1 vH v5 h8 n9 λvG hB nC=>K (zh.fr a b c d e f i l p s g j o q u y w v z) hB nC))))))):=by kernel_rfl
theorem zh.zad:IR.run zh.t33 C N O K (zh.fr a b c d e f i l p s g j o q u y w v z) h nx =
 za .sub .int c (I 3) λv1=>za .sub .int c (I 4) λv2=>za .add .int o (.int .u32 1) λv3=>jM (.str [48,48,48,49,48,50,48,51,48,52,48,53,48,54,48,55,48,56,48,57,49,48,49,49,49,50,49,51,49,52,49,53,49,54,49,55,49,56,49,57,50,48,50,49,50,50,50,51,50,52,50,53,50,54,50,55,50,56,50,57,51,48,51,49,51,50,51,51,51,52,51,53,51,54,51,55,51,56,51,57,52,48,52,49,52,50,52,51,52,52,52,53,52,54,52,55,52,56,52,57,53,48,53,49,53,50,53,51,53,52,53,53,53,54,53,55,53,56,53,57,54,48,54,49,54,50,54,51,54,52,54,53,54,54,54,55,54,56,54,57,55,48,55,49,55,50,55,51,55,52,55,53,55,54,55,55,55,56,55,57,56,48,56,49,56,50,56,51,56,52,56,53,56,54,56,55,56,56,56,57,57,48,57,49,57,50,57,51,57,52,57,53,57,54,57,55,57,56,57,57]) v3 λv4=>jM (.str [48,48,48,49,48,50,48,51,48,52,48,53,48,54,48,55,48,56,48,57,49,48,49,49,49,50,49,51,49,52,49,53,49,54,49,55,49,56,49,57,50,48,50,49,50,50,50,51,50,52,50,53,50,54,50,55,50,56,50,57,51,48,51,49,51,50,51,51,51,52,51,53,51,54,51,55,51,56,51,57,52,48,52,49,52,50,52,51,52,52,52,53,52,54,52,55,52,56,52,57,53,48,53,49,53,50,53,51,53,52,53,53,53,54,53,55,53,56,53,57,54,48,54,49,54,50,54,51,54,52,54,53,54,54,54,55,54,56,54,57,55,48,55,49,55,50,55,51,55,52,55,53,55,54,55,55,55,56,55,57,56,48,56,49,56,50,56,51,56,52,56,53,56,54,56,55,56,56,56,57,57,48,57,49,57,50,57,51,57,52,57,53,57,54,57,55,57,56,57,57]) o λv5=>zH 1 a v1 λv6=>zV 1 v6 v4 h nx λv7 h8 n9=>(jM (.str [48,48,48,49,48,50,48,51,48,52,48,53,48,54,48,55,48,56,48,57,49,48,49,49,49,50,49,51,49,52,49,53,49,54,49,55,49,56,49,57,50,48,50,49,50,50,50,51,50,52,50,53,50,54,50,55,50,56,50,57,51,48,51,49,51,50,51,51,51,52,51,53,51,54,51,55,51,56,51,57,52,48,52,49,52,50,52,51,52,52,52,53,52,54,52,55,52,56,52,57,53,48,53,49,53,50,53,51,53,52,53,53,53,54,53,55,53,56,53,57,54,48,54,49,54,50,54,51,54,52,54,53,54,54,54,55,54,56,54,57,55,48,55,49,55,50,55,51,55,52,55,53,55,54,55,55,55,56,55,57,56,48,56,49,56,50,56,51,56,52,56,53,56,54,56,55,56,56,56,57,57,48,57,49,57,50,57,51,57,52,57,53,57,54,57,55,57,56,57,57]) o λvC=>zL vC v5 (zL o o ((za .sub .int c (I 4) λvD=>zL vD v2 (zL c c (zL a a (zH 1 a v2 λvH=>zV 1 vH v5 h8 n9 λvG hB nC=>K (zh.fr a b c d e f i l p s g j o q u y w v z) hB nC))))))):=by kernel_rfl
theorem zh.zab:IR.run zh.t34 C N O K (zh.fr a b c d e f i l p s g j o q u y w v z) h nx =
 za .sub .int c (I 4) λv1=>K (zh.fr a b v1 d e f i l p s g j o q u y w v z) h nx:=by kernel_rfl
theorem zh.v16:Arg.ev (.t (.of 16)) ⟨(zh.fr a b c d e f i l p s g j o q u y w v z),[]⟩=w:=by kernel_rfl
theorem zh.qaf:IR.run zh.t42 C N O K (zh.fr a b c d e f i l p s g j o q u y w v z) h nx =
 za .geq .int c (I 2) λv1=>K (zh.fr a b c d e f i l p s g j o q u y w v1 z) h nx:=by kernel_rfl
theorem zh.qag:IR.run zh.t43 C N O K (zh.fr a b c d e f i l p s g j o q u y w v z) h nx =
 za .rem .int g (.int .u32 100) λv1=>za .mul .int v1 (.int .u32 2) λv2=>K (zh.fr a b c d e f i l p s g j o q v2 y w v z) h nx:=by kernel_rfl
theorem zh.zfz:IR.run zh.t44 C N O K (zh.fr a b c d e f i l p s g j o q u y w v z) h nx =
 za .quo .int g (.int .u32 100) λv1=>K (zh.fr a b c d e f i l p s v1 j o q u y w v z) h nx:=by kernel_rfl
theorem zh.znd:IR.run zh.t45 C N O K (zh.fr a b c d e f i l p s g j o q u y w v z) h nx =
 za .sub .int c (I 1) λv1=>za .sub .int c (I 2) λv2=>za .add .int u (.int .u32 1) λv3=>jM (.str [48,48,48,49,48,50,48,51,48,52,48,53,48,54,48,55,48,56,48,57,49,48,49,49,49,50,49,51,49,52,49,53,49,54,49,55,49,56,49,57,50,48,50,49,50,50,50,51,50,52,50,53,50,54,50,55,50,56,50,57,51,48,51,49,51,50,51,51,51,52,51,53,51,54,51,55,51,56,51,57,52,48,52,49,52,50,52,51,52,52,52,53,52,54,52,55,52,56,52,57,53,48,53,49,53,50,53,51,53,52,53,53,53,54,53,55,53,56,53,57,54,48,54,49,54,50,54,51,54,52,54,53,54,54,54,55,54,56,54,57,55,48,55,49,55,50,55,51,55,52,55,53,55,54,55,55,55,56,55,57,56,48,56,49,56,50,56,51,56,52,56,53,56,54,56,55,56,56,56,57,57,48,57,49,57,50,57,51,57,52,57,53,57,54,57,55,57,56,57,57]) v3 λv4=>jM (.str [48,48,48,49,48,50,48,51,48,52,48,53,48,54,48,55,48,56,48,57,49,48,49,49,49,50,49,51,49,52,49,53,49,54,49,55,49,56,49,57,50,48,50,49,50,50,50,51,50,52,50,53,50,54,50,55,50,56,50,57,51,48,51,49,51,50,51,51,51,52,51,53,51,54,51,55,51,56,51,57,52,48,52,49,52,50,52,51,52,52,52,53,52,54,52,55,52,56,52,57,53,48,53,49,53,50,53,51,53,52,53,53,53,54,53,55,53,56,53,57,54,48,54,49,54,50,54,51,54,52,54,53,54,54,54,55,54,56,54,57,55,48,55,49,55,50,55,51,55,52,55,53,55,54,55,55,55,56,55,57,56,48,56,49,56,50,56,51,56,52,56,53,56,54,56,55,56,56,56,57,57,48,57,49,57,50,57,51,57,52,57,53,57,54,57,55,57,56,57,57]) u λv5=>zH 1 a v1 λv6=>zV 1 v6 v4 h nx λv7 h8 n9=>(jM (.str [48,48,48,49,48,50,48,51,48,52,48,53,48,54,48,55,48,56,48,57,49,48,49,49,49,50,49,51,49,52,49,53,49,54,49,55,49,56,49,57,50,48,50,49,50,50,50,51,50,52,50,53,50,54,50,55,50,56,50,57,51,48,51,49,51,50,51,51,51,52,51,53,51,54,51,55,51,56,51,57,52,48,52,49,52,50,52,51,52,52,52,53,52,54,52,55,52,56,52,57,53,48,53,49,53,50,53,51,53,52,53,53,53,54,53,55,53,56,53,57,54,48,54,49,54,50,54,51,54,52,54,53,54,54,54,55,54,56,54,57,55,48,55,49,55,50,55,51,55,52,55,53,55,54,55,55,55,56,55,57,56,48,56,49,56,50,56,51,56,52,56,53,56,54,56,55,56,56,56,57,57,48,57,49,57,50,57,51,57,52,57,53,57,54,57,55,57,56,57,57]) u λvC=>zL vC v5 (zL u u ((za .sub .int c (I 2) λvD=>zL vD v2 (zL c c (zL a a (zH 1 a v2 λvH=>zV 1 vH v5 h8 n9 λvG hB nC=>K (zh.fr a b c d e f i l p s g j o q u y w v z) hB nC))))))):=by kernel_rfl
theorem zh.qah:IR.run zh.t46 C N O K (zh.fr a b c d e f i l p s g j o q u y w v z) h nx =
 za .sub .int c (I 2) λv1=>K (zh.fr a b v1 d e f i l p s g j o q u y w v z) h nx:=by kernel_rfl
theorem zh.v17:Arg.ev (.t (.of 17)) ⟨(zh.fr a b c d e f i l p s g j o q u y w v z),[]⟩=v:=by kernel_rfl
theorem zh.qai:IR.run zh.t52 C N O K (zh.fr a b c d e f i l p s g j o q u y w v z) h nx =
 za .gtr .int c (I 0) λv1=>K (zh.fr a b c d e f i l p s g j o q u y w v v1) h nx:=by kernel_rfl
theorem zh.qaj:IR.run zh.t53 C N O K (zh.fr a b c d e f i l p s g j o q u y w v z) h nx =
 za .add .int (.int .u32 48) g λv1=>kL .u8 v1 λv2=>zH 1 a (I 0) λv3=>zV 1 v3 v2 h nx λv4 h5 n6=>K (zh.fr a b c d e f i l p s g j o q u y w v z) h5 n6:=by kernel_rfl
theorem zh.v18:Arg.ev (.t (.of 18)) ⟨(zh.fr a b c d e f i l p s g j o q u y w v z),[]⟩=z:=by kernel_rfl
theorem zh.go:zR tbl N C (.of 317) [a0,a1] h nx K0=IR.run zh.t60 C N (fnO zh.res K0) (zi zh.res K0) (zh.fr a0 a1 .u .u .u .u .u .u .u .u .u .u .u .u .u .u .u .u .u) h nx:=yC (F:=zh) (by kernel_rfl) (λ_=>by kernel_rfl) (by kernel_rfl)
theorem zh.ret:zi zh.res K0 (zh.fr a b c d e f i l p s g j o q u y w v z) h nx=K0 (.tup []) h nx:=by kernel_rfl
theorem yh.zy:IR.run yh.t0 C N O K (yh.fr a b c d e f i l p s g) h nx =
 K (yh.fr a b (.str []) d e f i l p s g) h nx:=by kernel_rfl
theorem yh.zx:IR.run yh.t1 C N O K (yh.fr a b c d e f i l p s g) h nx =
 za .eql .int b (I 10) λv1=>K (yh.fr a b c d e f i v1 p s g) h nx:=by kernel_rfl
theorem yh.je:IR.run yh.t2 C N O K (yh.fr a b c d e f i l p s g) h nx =
 za .leq .int (I 0) a λv1=>sG v1 true (λk=>k a) λv2=>sG v1 true (λk=>za .lss .int v2 (I 100) k) λv3=>yF v1 v3 (.bool false) λv4=>K (yh.fr a b c d e f i l v4 s g) h nx:=by kernel_rfl
theorem yh.pq:IR.run yh.t3 C N O K (yh.fr a b c d e f i l p s g) h nx =
 C.fn 315 (.of 315) [a] h nx λv1 h2 n3=>K (yh.fr a b v1 d e f i l p s g) h2 n3:=by kernel_rfl
theorem yh.v8:Arg.ev (.t (.of 8)) ⟨(yh.fr a b c d e f i l p s g),[]⟩=p:=by kernel_rfl
theorem yh.fC:IR.run yh.t7 C N O K (yh.fr a b c d e f i l p s g) h nx =
 yK [(.int .u8 0),(.int .u8 0),(.int .u8 0),(.int .u8 0),(.int .u8 0),(.int .u8 0),(.int .u8 0),(.int .u8 0),(.int .u8 0),(.int .u8 0),(.int .u8 0),(.int .u8 0),(.int .u8 0),(.int .u8 0),(.int .u8 0),(.int .u8 0),(.int .u8 0),(.int .u8 0),(.int .u8 0),(.int .u8 0),(.int .u8 0),(.int .u8 0),(.int .u8 0),(.int .u8 0)] h nx λv1 h2 n3=>K (yh.fr a b c v1 e f i l p s g) h2 n3:=by kernel_rfl
theorem yh.fH:IR.run yh.t8 C N O K (yh.fr a b c d e f i l p s g) h nx =
 kL .u64 a λv1=>K (yh.fr a b c d v1 f i l p s g) h nx:=by kernel_rfl
theorem yh.fK:IR.run yh.t9 C N O K (yh.fr a b c d e f i l p s g) h nx =
 za .lss .int a (I 0) λv1=>K (yh.fr a b c d e f i l p v1 g) h nx:=by kernel_rfl
theorem yh.fT:IR.run yh.t10 C N O K (yh.fr a b c d e f i l p s g) h nx =
 sNeg e λv1=>K (yh.fr a b c d v1 f i l p s g) h nx:=by kernel_rfl
theorem yh.v9:Arg.ev (.t (.of 9)) ⟨(yh.fr a b c d e f i l p s g),[]⟩=s:=by kernel_rfl
theorem yh.fU:IR.run yh.t13 C N O K (yh.fr a b c d e f i l p s g) h nx =
 C.fn 316 (.of 316) [e] h nx λv1 h2 n3=>K (yh.fr a b c d e v1 i l p s g) h2 n3:=by kernel_rfl
theorem yh.sD:IR.run yh.t14 C N O K (yh.fr a b c d e f i l p s g) h nx =
 za .add .int (I 1) f λv1=>dJ 1 24 d (some (I 1)) (some v1) none λv2=>C.fn 317 (.of 317) [v2,e] h nx λv3 h4 n5=>K (yh.fr a b c d e f i l p s g) h4 n5:=by kernel_rfl
theorem yh.oC:IR.run yh.t15 C N O K (yh.fr a b c d e f i l p s g) h nx =
 za .lss .int a (I 0) λv1=>K (yh.fr a b c d e f i l p s v1) h nx:=by kernel_rfl
theorem yh.aI:IR.run yh.t16 C N O K (yh.fr a b c d e f i l p s g) h nx =
 zak 1 24 d (I 0) λv1=>zV 1 v1 (.int .u8 45) h nx λv2 h3 n4=>K (yh.fr a b c d e f i l p s g) h3 n4:=by kernel_rfl
theorem yh.rX:IR.run yh.t17 C N O K (yh.fr a b c d e f i l p s g) h nx =
 za .add .int (I 1) f λv1=>dJ 1 24 d none (some v1) none λv2=>sB2s v2 h λv3=>K (yh.fr a b v3 d e f i l p s g) h nx:=by kernel_rfl
theorem yh.v10:Arg.ev (.t (.of 10)) ⟨(yh.fr a b c d e f i l p s g),[]⟩=g:=by kernel_rfl
theorem yh.aX:IR.run yh.t22 C N O K (yh.fr a b c d e f i l p s g) h nx =
 za .add .int (I 1) f λv1=>dJ 1 24 d (some (I 1)) (some v1) none λv2=>sB2s v2 h λv3=>K (yh.fr a b v3 d e f i l p s g) h nx:=by kernel_rfl
theorem yh.v7:Arg.ev (.t (.of 7)) ⟨(yh.fr a b c d e f i l p s g),[]⟩=l:=by kernel_rfl
theorem yh.go:zR tbl N C (.of 314) [a0,a1] h nx K0=IR.run yh.t38 C N (fnO yh.res K0) (zi yh.res K0) (yh.fr a0 a1 .u .u .u .u .u .u .u .u .u) h nx:=yC (F:=yh) (by kernel_rfl) (λ_=>by kernel_rfl) (by kernel_rfl)
theorem yh.ret:zi yh.res K0 (yh.fr a b c d e f i l p s g) h nx=K0 c h nx:=by kernel_rfl
theorem mh.zy:IR.run mh.t0 C N O K (mh.fr a b c) h nx =
 K (mh.fr a (.str []) c) h nx:=by kernel_rfl
theorem mh.zx:IR.run mh.t1 C N O K (mh.fr a b c) h nx =
 za .lss .int a (I 10) λv1=>K (mh.fr a b v1) h nx:=by kernel_rfl
theorem mh.je:IR.run mh.t2 C N O K (mh.fr a b c) h nx =
 za .add .int a (I 1) λv1=>jR (.str [48,49,50,51,52,53,54,55,56,57,97,98,99,100,101,102,103,104,105,106,107,108,109,110,111,112,113,114,115,116,117,118,119,120,121,122]) (some a) (some v1) λv2=>K (mh.fr a v2 c) h nx:=by kernel_rfl
theorem mh.v2:Arg.ev (.t (.of 2)) ⟨(mh.fr a b c),[]⟩=c:=by kernel_rfl
theorem mh.qi:IR.run mh.t6 C N O K (mh.fr a b c) h nx =
 za .mul .int a (I 2) λv1=>za .mul .int a (I 2) λv2=>za .add .int v2 (I 2) λv3=>jR (.str [48,48,48,49,48,50,48,51,48,52,48,53,48,54,48,55,48,56,48,57,49,48,49,49,49,50,49,51,49,52,49,53,49,54,49,55,49,56,49,57,50,48,50,49,50,50,50,51,50,52,50,53,50,54,50,55,50,56,50,57,51,48,51,49,51,50,51,51,51,52,51,53,51,54,51,55,51,56,51,57,52,48,52,49,52,50,52,51,52,52,52,53,52,54,52,55,52,56,52,57,53,48,53,49,53,50,53,51,53,52,53,53,53,54,53,55,53,56,53,57,54,48,54,49,54,50,54,51,54,52,54,53,54,54,54,55,54,56,54,57,55,48,55,49,55,50,55,51,55,52,55,53,55,54,55,55,55,56,55,57,56,48,56,49,56,50,56,51,56,52,56,53,56,54,56,55,56,56,56,57,57,48,57,49,57,50,57,51,57,52,57,53,57,54,57,55,57,56,57,57]) (some v1) (some v3) λv4=>K (mh.fr a v4 c) h nx:=by kernel_rfl
theorem mh.go:zR tbl N C (.of 315) [a0] h nx K0=IR.run mh.t9 C N (fnO mh.res K0) (zi mh.res K0) (mh.fr a0 .u .u) h nx:=yC (F:=mh) (by kernel_rfl) (λ_=>by kernel_rfl) (by kernel_rfl)
theorem mh.ret:zi mh.res K0 (mh.fr a b c) h nx=K0 b h nx:=by kernel_rfl
theorem rE.zy:IR.run rE.t0 C N O K (rE.fr a b) h nx =
 K (rE.fr a (.str [])) h nx:=by kernel_rfl
theorem rE.zx:IR.run rE.t1 C N O K (rE.fr a b) h nx =
 C.fn 314 (.of 314) [a,(I 10)] h nx λv1 h2 n3=>K (rE.fr a v1) h2 n3:=by kernel_rfl
theorem rE.go:zR tbl N C (.of 287) [a0] h nx K0=IR.run rE.t3 C N (fnO rE.res K0) (zi rE.res K0) (rE.fr a0 .u) h nx:=yC (F:=rE) (by kernel_rfl) (λ_=>by kernel_rfl) (by kernel_rfl)
theorem rE.ret:zi rE.res K0 (rE.fr a b) h nx=K0 b h nx:=by kernel_rfl
theorem rF.zy:IR.run rF.t0 C N O K (rF.fr a b) h nx =
 K (rF.fr a (.str [])) h nx:=by kernel_rfl
theorem rF.zx:IR.run rF.t1 C N O K (rF.fr a b) h nx =
 C.fn 287 (.of 287) [a] h nx λv1 h2 n3=>K (rF.fr a v1) h2 n3:=by kernel_rfl
theorem rF.go:zR tbl N C (.of 248) [a0] h nx K0=IR.run rF.t3 C N (fnO rF.res K0) (zi rF.res K0) (rF.fr a0 .u) h nx:=yC (F:=rF) (by kernel_rfl) (λ_=>by kernel_rfl) (by kernel_rfl)
theorem rF.ret:zi rF.res K0 (rF.fr a b) h nx=K0 b h nx:=by kernel_rfl
theorem fB.zy:IR.run fB.t0 C N O K (fB.fr a b c d e f i l p s g j o q u y w v) h nx =
 xw a h nx λv1 h2 n3=>K (fB.fr a v1 (.str []) d e f i l p s g j o q u y w v) h2 n3:=by kernel_rfl
theorem fB.zx:IR.run fB.t1 C N O K (fB.fr a b c d e f i l p s g j o q u y w v) h nx =
 zM 1 b λv1=>zE v1 h λv2=>za .eql (.nil .sl) v2 .ze λv3=>K (fB.fr a b c d e f i l p s g j v3 q u y w v) h nx:=by kernel_rfl
theorem fB.je:IR.run fB.t2 C N O K (fB.fr a b c d e f i l p s g j o q u y w v) h nx =
 zM 0 b λv1=>zE v1 h λv2=>C.fn 248 (.of 248) [v2] h nx λv3 h4 n5=>K (fB.fr a b v3 d e f i l p s g j o q u y w v) h4 n5:=by kernel_rfl
theorem fB.v12:Arg.ev (.t (.of 12)) ⟨(fB.fr a b c d e f i l p s g j o q u y w v),[]⟩=o:=by kernel_rfl
theorem fB.go:zR tbl N C (.of 188) [a0] h nx K0=IR.run fB.t60 C N (fnO fB.res K0) (zi fB.res K0) (fB.fr a0 .u .u .u .u .u .u .u .u .u .u .u .u .u .u .u .u .u) h nx:=yC (F:=fB) (by kernel_rfl) (λ_=>by kernel_rfl) (by kernel_rfl)
theorem fB.ret:zi fB.res K0 (fB.fr a b c d e f i l p s g j o q u y w v) h nx=K0 c h nx:=by kernel_rfl
theorem F97.zy:IR.run F97.t0 C N O K (F97.fr a b c d) h nx =
 xw a h nx λv1 h2 n3=>K (F97.fr a v1 (.str []) d) h2 n3:=by kernel_rfl
theorem F97.zx:IR.run F97.t1 C N O K (F97.fr a b c d) h nx =
 zJ 4 b h λv1=>C.fn 122 (.of 122) [v1] h nx λv2 h3 n4=>K (F97.fr a b c v2) h3 n4:=by kernel_rfl
theorem F97.je:IR.run F97.t2 C N O K (F97.fr a b c d) h nx =
 zM 0 b λv1=>zJ 2 v1 h λv2=>C.fn 188 (.of 188) [v2] h nx λv3 h4 n5=>K (F97.fr a b v3 d) h4 n5:=by kernel_rfl
theorem F97.v3:Arg.ev (.t (.of 3)) ⟨(F97.fr a b c d),[]⟩=d:=by kernel_rfl
theorem F97.qi:IR.run F97.t6 C N O K (F97.fr a b c d) h nx =
 zM 0 b λv1=>zJ 2 v1 h λv2=>zM 2 b λv3=>zJ 2 v3 h λv4=>C.fn 188 (.of 188) [v2] h nx λv5 h6 n7=>(zJ 2 v3 h6 λvC=>zL vC v4 ((zM 2 b λvD=>zL vD v3 (za .add .str v5 (.str [47]) λv8=>C.fn 188 (.of 188) [v4] h6 n7 λv9 hA nA=>(za .add .str v5 (.str [47]) λvE=>zL vE v8 (za .add .str v8 v9 λvF=>K (F97.fr a b vF d) hA nA)))))):=by kernel_rfl
theorem F97.go:zR tbl N C (.of 97) [a0] h nx K0=IR.run F97.t9 C N (fnO F97.res K0) (zi F97.res K0) (F97.fr a0 .u .u .u) h nx:=yC (F:=F97) (by kernel_rfl) (λ_=>by kernel_rfl) (by kernel_rfl)
theorem F97.ret:zi F97.res K0 (F97.fr a b c d) h nx=K0 c h nx:=by kernel_rfl
theorem jr.zy:IR.run jr.t0 C N O K (jr.fr a b c d e f i l p) h nx =
 K (jr.fr a b .ze d e f i l p) h nx:=by kernel_rfl
theorem jr.zx:IR.run jr.t1 C N O K (jr.fr a b c d e f i l p) h nx =
 C.fn 105 (.of 105) [a] h nx λv1 h2 n3=>K (jr.fr a b c v1 e f i l p) h2 n3:=by kernel_rfl
theorem jr.je:IR.run jr.t2 C N O K (jr.fr a b c d e f i l p) h nx =
 sLen b λv1=>K (jr.fr a b c d e b v1 (I 0) p) h nx:=by kernel_rfl
theorem jr.pq:IR.run jr.t3 C N O K (jr.fr a b c d e f i l p) h nx =
 za .lss .int l i λv1=>K (jr.fr a b c d e f i l v1) h nx:=by kernel_rfl
theorem jr.v8:Arg.ev (.t (.of 8)) ⟨(jr.fr a b c d e f i l p),[]⟩=p:=by kernel_rfl
theorem jr.fG:IR.run jr.t5 C N O K (jr.fr a b c d e f i l p) h nx =
 zH 1 f l λv1=>zE v1 h λv2=>K (jr.fr a b c d v2 f i l p) h nx:=by kernel_rfl
theorem jr.qi:IR.run jr.t6 C N O K (jr.fr a b c d e f i l p) h nx =
 C.fn 96 (.of 96) [(I 1)] h nx λv1 h2 n3=>zH 4 d e λv4=>zV 4 v4 v1 h2 n3 λv5 h6 n7=>K (jr.fr a b c d e f i l p) h6 n7:=by kernel_rfl
theorem jr.fK:IR.run jr.t9 C N O K (jr.fr a b c d e f i l p) h nx =
 za .add .int l (I 1) λv1=>K (jr.fr a b c d e f i v1 p) h nx:=by kernel_rfl
theorem jr.zf0 (Inv:Nat->AV->T Blk->Pa->Prop) {m:Nat} (hm:m<N) (hi:Inv m l h nx)
  (step:∀ (m:Nat) (z4 z7 z8:AV) (h:T Blk) (nx:Pa) (R:Ks Prop),Inv m z7 h nx->(∀ (m':Nat) (w4 w7 w8:AV) (h':T Blk) (nx':Pa),m'<m->Inv m' w7 h' nx'->R (jr.fr a b c d w4 f i w7 w8) h' nx'=.ok True)->IR.run jr.t12 C N O R (jr.fr a b c d z4 f i z7 z8) h nx=.ok True) :
  IR.run jr.t13 C N O K (jr.fr a b c d e f i l p) h nx=.ok True:=by
 rw [jr.t13];refine yB (λm tm h nx=>∃ z4 z7 z8,tm=(jr.fr a b c d z4 f i z7 z8)/\Inv m z7 h nx) ?_ hm ⟨_,_,_,rfl,hi⟩;rintro m tm h nx R ⟨z4,z7,z8,rfl,hi⟩ hR;exact step m z4 z7 z8 h nx R hi λm' w4 w7 w8 h' nx' hlt hi'=>hR m' _ h' nx' hlt ⟨_,_,_,rfl,hi'⟩
theorem jr.aI:IR.run jr.t16 C N O K (jr.fr a b c d e f i l p) h nx =
 K (jr.fr a b d d e f i l p) h nx:=by kernel_rfl
theorem jr.go:zR tbl N C (.of 104) [a0,a1] h nx K0=IR.run jr.t20 C N (fnO jr.res K0) (zi jr.res K0) (jr.fr a0 a1 .u .u .u .u .u .u .u) h nx:=yC (F:=jr) (by kernel_rfl) (λ_=>by kernel_rfl) (by kernel_rfl)
theorem jr.ret:zi jr.res K0 (jr.fr a b c d e f i l p) h nx=K0 c h nx:=by kernel_rfl
theorem jv.zy:IR.run jv.t0 C N O K (jv.fr a b c d e f i) h nx =
 K (jv.fr a .ze c d e f i) h nx:=by kernel_rfl
theorem jv.zx:IR.run jv.t1 C N O K (jv.fr a b c d e f i) h nx =
 kC 4 64 [(I 0),.ze,(I 0),.ze] a a h nx λv1 h2 n3=>K (jv.fr a b v1 d e f i) h2 n3:=by kernel_rfl
theorem jv.je:IR.run jv.t2 C N O K (jv.fr a b c d e f i) h nx =
 sLen c λv1=>K (jv.fr a b c d v1 (I 0) i) h nx:=by kernel_rfl
theorem jv.pq:IR.run jv.t3 C N O K (jv.fr a b c d e f i) h nx =
 za .lss .int f e λv1=>K (jv.fr a b c d e f v1) h nx:=by kernel_rfl
theorem jv.v6:Arg.ev (.t (.of 6)) ⟨(jv.fr a b c d e f i),[]⟩=i:=by kernel_rfl
theorem jv.fG:IR.run jv.t5 C N O K (jv.fr a b c d e f i) h nx =
 K (jv.fr a b c f e f i) h nx:=by kernel_rfl
theorem jv.qi:IR.run jv.t6 C N O K (jv.fr a b c d e f i) h nx =
 C.fn 96 (.of 96) [(I 0)] h nx λv1 h2 n3=>zH 4 c d λv4=>zV 4 v4 v1 h2 n3 λv5 h6 n7=>K (jv.fr a b c d e f i) h6 n7:=by kernel_rfl
theorem jv.fK:IR.run jv.t9 C N O K (jv.fr a b c d e f i) h nx =
 za .add .int f (I 1) λv1=>K (jv.fr a b c d e v1 i) h nx:=by kernel_rfl
theorem jv.zf0 (Inv:Nat->AV->T Blk->Pa->Prop) {m:Nat} (hm:m<N) (hi:Inv m f h nx)
  (step:∀ (m:Nat) (z3 z5 z6:AV) (h:T Blk) (nx:Pa) (R:Ks Prop),Inv m z5 h nx->(∀ (m':Nat) (w3 w5 w6:AV) (h':T Blk) (nx':Pa),m'<m->Inv m' w5 h' nx'->R (jv.fr a b c w3 e w5 w6) h' nx'=.ok True)->IR.run jv.t12 C N O R (jv.fr a b c z3 e z5 z6) h nx=.ok True) :
  IR.run jv.t13 C N O K (jv.fr a b c d e f i) h nx=.ok True:=by
 rw [jv.t13];refine yB (λm tm h nx=>∃ z3 z5 z6,tm=(jv.fr a b c z3 e z5 z6)/\Inv m z5 h nx) ?_ hm ⟨_,_,_,rfl,hi⟩;rintro m tm h nx R ⟨z3,z5,z6,rfl,hi⟩ hR;exact step m z3 z5 z6 h nx R hi λm' w3 w5 w6 h' nx' hlt hi'=>hR m' _ h' nx' hlt ⟨_,_,_,rfl,hi'⟩
theorem jv.aI:IR.run jv.t16 C N O K (jv.fr a b c d e f i) h nx =
 K (jv.fr a c c d e f i) h nx:=by kernel_rfl
theorem jv.go:zR tbl N C (.of 105) [a0] h nx K0=IR.run jv.t20 C N (fnO jv.res K0) (zi jv.res K0) (jv.fr a0 .u .u .u .u .u .u) h nx:=yC (F:=jv) (by kernel_rfl) (λ_=>by kernel_rfl) (by kernel_rfl)
theorem jv.ret:zi jv.res K0 (jv.fr a b c d e f i) h nx=K0 b h nx:=by kernel_rfl
end
end Go.Ev
