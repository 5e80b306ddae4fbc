import Derived.Test.YtfgpjkchdelphaaGreatDoorIrT
import Derived.Test.YtfgpjkchdelphaaGreatDoorEvD
import Derived.KernelRfl
set_option linter.unusedSimpArgs false
set_option linter.unusedVariables false
namespace Go.Ev
open Go Go.Proofs
set_option maxRecDepth 100000
section
variable {N:Nat} {C:Calls Prop} {K0:Kw Prop} {K R:Ks Prop} {h:T Blk} {nx:Pa} {a b c d e f g j q s i l a0 a1 s0 s1 s2 s3 s4 s5 s6 s7 s8 s9 s10 s11 s12 s13 s14 s15 s16 s17 s18 s19 s20 s21 s22 s23 s24 s25 s26 s27 s28 s29 s30 s31 s32 s33 s34 s35 s36 s37 s38 s39 s40 s41 s42 s43 s44 s45 s46 s47 s48 s49 s50 s51 s52 s53 s54 s55 s56 s57 s58 s59 p o u v w y z A B D E a2 G H L M P Q:AV} {O:fK Prop} {tm:T AV} {Kt:KTm} {r:List RO} {sT:List AV}
theorem jg.zu:IR.run jg.t0 C N O K (jg.fr a b c d e f g j q s i l) h nx =
 K (jg.fr a b (.int .u64 0) (.int .u64 0) e f g j q s i l) h nx:=by kernel_rfl
theorem jg.zo:IR.run jg.t1 C N O K (jg.fr a b c d e f g j q s i l) h nx =
 za .and .int a (.int .u64 4294967295) λv1=>K (jg.fr a b c d v1 f g j q s i l) h nx:=by kernel_rfl
theorem jg.yw:IR.run jg.t2 C N O K (jg.fr a b c d e f g j q s i l) h nx =
 za .shr .int a (.int .u64 32) λv1=>K (jg.fr a b c d e v1 g j q s i l) h nx:=by kernel_rfl
theorem jg.vk:IR.run jg.t3 C N O K (jg.fr a b c d e f g j q s i l) h nx =
 za .and .int b (.int .u64 4294967295) λv1=>K (jg.fr a b c d e f v1 j q s i l) h nx:=by kernel_rfl
theorem jg.ng:IR.run jg.t4 C N O K (jg.fr a b c d e f g j q s i l) h nx =
 za .shr .int b (.int .u64 32) λv1=>K (jg.fr a b c d e f g v1 q s i l) h nx:=by kernel_rfl
theorem jg.fZ:IR.run jg.t5 C N O K (jg.fr a b c d e f g j q s i l) h nx =
 za .mul .int e g λv1=>K (jg.fr a b c d e f g j v1 s i l) h nx:=by kernel_rfl
theorem jg.uy:IR.run jg.t6 C N O K (jg.fr a b c d e f g j q s i l) h nx =
 za .mul .int f g λv1=>za .shr .int q (.int .u64 32) λv2=>za .add .int v1 v2 λv3=>K (jg.fr a b c d e f g j q v3 i l) h nx:=by kernel_rfl
theorem jg.fF:IR.run jg.t7 C N O K (jg.fr a b c d e f g j q s i l) h nx =
 za .and .int s (.int .u64 4294967295) λv1=>K (jg.fr a b c d e f g j q s v1 l) h nx:=by kernel_rfl
theorem jg.fU:IR.run jg.t8 C N O K (jg.fr a b c d e f g j q s i l) h nx =
 za .shr .int s (.int .u64 32) λv1=>K (jg.fr a b c d e f g j q s i v1) h nx:=by kernel_rfl
theorem jg.nu:IR.run jg.t9 C N O K (jg.fr a b c d e f g j q s i l) h nx =
 za .mul .int e j λv1=>za .add .int i v1 λv2=>K (jg.fr a b c d e f g j q s v2 l) h nx:=by kernel_rfl
theorem jg.ny:IR.run jg.t10 C N O K (jg.fr a b c d e f g j q s i l) h nx =
 za .mul .int f j λv1=>za .add .int v1 l λv2=>za .shr .int i (.int .u64 32) λv3=>za .add .int v2 v3 λv4=>K (jg.fr a b v4 d e f g j q s i l) h nx:=by kernel_rfl
theorem jg.xu:IR.run jg.t11 C N O K (jg.fr a b c d e f g j q s i l) h nx =
 za .mul .int a b λv1=>K (jg.fr a b c v1 e f g j q s i l) h nx:=by kernel_rfl
theorem jg.go:zP tbl N C (.of 263) [a0,a1] h nx K0=IR.run jg.t23 C N (fnO jg.res K0) (zi jg.res K0) (jg.fr a0 a1 .u .u .u .u .u .u .u .u .u .u) h nx:=yE (F:=jg) (by kernel_rfl) (λ_=>by kernel_rfl) (by kernel_rfl)
theorem jg.ret:zi jg.res K0 (jg.fr a b c d e f g j q s i l) h nx=K0 (.tup [c,d]) h nx:=by kernel_rfl
theorem dx.zu:IR.run dx.t0 C N O K (dx.fr a b c) h nx =
 K (dx.fr a (.int .u64 0) c) h nx:=by kernel_rfl
theorem dx.zo:IR.run dx.t1 C N O K (dx.fr a b c) h nx =
 za .lss .int a (I 0) λv1=>K (dx.fr a b v1) h nx:=by kernel_rfl
theorem dx.yw:IR.run dx.t2 C N O K (dx.fr a b c) h nx =
 sNeg a λv1=>kT .u64 v1 λv2=>K (dx.fr a v2 c) h nx:=by kernel_rfl
theorem dx.v2:Arg.ev (.t (.of 2)) ⟨(dx.fr a b c),[]⟩=c:=by kernel_rfl
theorem dx.uy:IR.run dx.t6 C N O K (dx.fr a b c) h nx =
 kT .u64 a λv1=>K (dx.fr a v1 c) h nx:=by kernel_rfl
theorem dx.go:zP tbl N C (.of 264) [a0] h nx K0=IR.run dx.t9 C N (fnO dx.res K0) (zi dx.res K0) (dx.fr a0 .u .u) h nx:=yE (F:=dx) (by kernel_rfl) (λ_=>by kernel_rfl) (by kernel_rfl)
theorem dx.ret:zi dx.res K0 (dx.fr a b c) h nx=K0 b h nx:=by kernel_rfl
theorem yu.zu:IR.run yu.t0 C N O K (yu.fr a b c d e) h nx =
 K (yu.fr a (I 0) c d e) h nx:=by kernel_rfl
theorem yu.zo:IR.run yu.t1 C N O K (yu.fr a b c d e) h nx =
 za .geq .int a (.int .u64 4294967296) λv1=>K (yu.fr a b v1 d e) h nx:=by kernel_rfl
theorem yu.yw:IR.run yu.t2 C N O K (yu.fr a b c d e) h nx =
 za .shr .int a (.int .u64 32) λv1=>K (yu.fr v1 b c d e) h nx:=by kernel_rfl
theorem yu.vk:IR.run yu.t3 C N O K (yu.fr a b c d e) h nx =
 K (yu.fr a (I 32) c d e) h nx:=by kernel_rfl
theorem yu.v2:Arg.ev (.t (.of 2)) ⟨(yu.fr a b c d e),[]⟩=c:=by kernel_rfl
theorem yu.fF:IR.run yu.t7 C N O K (yu.fr a b c d e) h nx =
 za .geq .int a (.int .u64 65536) λv1=>K (yu.fr a b c v1 e) h nx:=by kernel_rfl
theorem yu.fU:IR.run yu.t8 C N O K (yu.fr a b c d e) h nx =
 za .shr .int a (.int .u64 16) λv1=>K (yu.fr v1 b c d e) h nx:=by kernel_rfl
theorem yu.nu:IR.run yu.t9 C N O K (yu.fr a b c d e) h nx =
 za .add .int b (I 16) λv1=>K (yu.fr a v1 c d e) h nx:=by kernel_rfl
theorem yu.v3:Arg.ev (.t (.of 3)) ⟨(yu.fr a b c d e),[]⟩=d:=by kernel_rfl
theorem yu.rP:IR.run yu.t13 C N O K (yu.fr a b c d e) h nx =
 za .geq .int a (.int .u64 256) λv1=>K (yu.fr a b c d v1) h nx:=by kernel_rfl
theorem yu.rG:IR.run yu.t14 C N O K (yu.fr a b c d e) h nx =
 za .shr .int a (.int .u64 8) λv1=>K (yu.fr v1 b c d e) h nx:=by kernel_rfl
theorem yu.ol:IR.run yu.t15 C N O K (yu.fr a b c d e) h nx =
 za .add .int b (I 8) λv1=>K (yu.fr a v1 c d e) h nx:=by kernel_rfl
theorem yu.v4:Arg.ev (.t (.of 4)) ⟨(yu.fr a b c d e),[]⟩=e:=by kernel_rfl
theorem yu.sJ:IR.run yu.t19 C N O K (yu.fr a b c d e) h nx =
 kT .u8 a λv1=>j5 (.str [0,1,2,2,3,3,3,3,4,4,4,4,4,4,4,4,5,5,5,5,5,5,5,5,5,5,5,5,5,5,5,5,6,6,6,6,6,6,6,6,6,6,6,6,6,6,6,6,6,6,6,6,6,6,6,6,6,6,6,6,6,6,6,6,7,7,7,7,7,7,7,7,7,7,7,7,7,7,7,7,7,7,7,7,7,7,7,7,7,7,7,7,7,7,7,7,7,7,7,7,7,7,7,7,7,7,7,7,7,7,7,7,7,7,7,7,7,7,7,7,7,7,7,7,7,7,7,7,8,8,8,8,8,8,8,8,8,8,8,8,8,8,8,8,8,8,8,8,8,8,8,8,8,8,8,8,8,8,8,8,8,8,8,8,8,8,8,8,8,8,8,8,8,8,8,8,8,8,8,8,8,8,8,8,8,8,8,8,8,8,8,8,8,8,8,8,8,8,8,8,8,8,8,8,8,8,8,8,8,8,8,8,8,8,8,8,8,8,8,8,8,8,8,8,8,8,8,8,8,8,8,8,8,8,8,8,8,8,8,8,8,8,8,8,8,8,8,8,8,8,8,8,8,8,8,8]) v1 λv2=>kT .i64 v2 λv3=>za .add .int b v3 λv4=>K (yu.fr a v4 c d e) h nx:=by kernel_rfl
theorem yu.go:zP tbl N C (.of 312) [a0] h nx K0=IR.run yu.t24 C N (fnO yu.res K0) (zi yu.res K0) (yu.fr a0 .u .u .u .u) h nx:=yE (F:=yu) (by kernel_rfl) (λ_=>by kernel_rfl) (by kernel_rfl)
theorem yu.ret:zi yu.res K0 (yu.fr a b c d e) h nx=K0 b h nx:=by kernel_rfl
theorem wm.zu:IR.run wm.t0 C N O K (wm.fr a b c d e f) h nx =
 xq a h nx λv1 h2 n3=>K (wm.fr a v1 (.bool false) .zb e f) h2 n3:=by kernel_rfl
theorem wm.zo:IR.run wm.t1 C N O K (wm.fr a b c d e f) h nx =
 zM 1 b λv1=>zG v1 h λv2=>za .neq (.nil .sl) v2 .zb λv3=>K (wm.fr a b c d v3 f) h nx:=by kernel_rfl
theorem wm.ng:IR.run wm.t4 C N O K (wm.fr a b c d e f) h nx =
 zM 0 b λv1=>zG v1 h λv2=>za .eql .int v2 (I 0) λv3=>K (wm.fr a b c d e v3) h nx:=by kernel_rfl
theorem wm.fZ:IR.run wm.t5 C N O K (wm.fr a b c d e f) h nx =
 K (wm.fr a b (.bool false) .zb e f) h nx:=by kernel_rfl
theorem wm.v5:Arg.ev (.t (.of 5)) ⟨(wm.fr a b c d e f),[]⟩=f:=by kernel_rfl
theorem wm.v4:Arg.ev (.t (.of 4)) ⟨(wm.fr a b c d e f),[]⟩=e:=by kernel_rfl
theorem wm.rH:IR.run wm.t12 C N O K (wm.fr a b c d e f) h nx =
 zM 0 b λv1=>zG v1 h λv2=>za .lss .int v2 (I 0) λv3=>zM 0 b λv4=>zG v4 h λv5=>C.fn 264 (.of 264) [v5] h nx λv6 h7 n8=>(za .lss .int v2 (I 0) λvA=>zQ vA v3 ((zG v1 h7 λvB=>zQ vB v2 ((zM 0 b λvC=>zQ vC v1 (yS 1 1 [(.int .u64 0)] [(0,1,v6)] h7 n8 λv9 hA nA=>zQ v3 v3 ((za .lss .int v2 (I 0) λvD=>zQ vD v3 ((zG v1 hA λvE=>zQ vE v2 ((zM 0 b λvF=>zQ vF v1 (K (wm.fr a b v3 v9 e f) hA nA))))))))))))):=by kernel_rfl
theorem wm.go:zP tbl N C (.of 249) [a0] h nx K0=IR.run wm.t15 C N (fnO wm.res K0) (zi wm.res K0) (wm.fr a0 .u .u .u .u .u) h nx:=yE (F:=wm) (by kernel_rfl) (λ_=>by kernel_rfl) (by kernel_rfl)
theorem wm.ret:zi wm.res K0 (wm.fr a b c d e f) h nx=K0 (.tup [c,d]) h nx:=by kernel_rfl
theorem nP.zu:IR.run nP.t0 C N O K (nP.fr a b) h nx =
 yX [(I 0),.zb] h nx λv1 h2 n3=>K (nP.fr a v1) h2 n3:=by kernel_rfl
theorem nP.zo:IR.run nP.t1 C N O K (nP.fr a b) h nx =
 uX [(I 0),.zb] [(0,1,a)] λv1=>zV 2 b v1 h nx λv2 h3 n4=>K (nP.fr a b) h3 n4:=by kernel_rfl
theorem nP.go:zP tbl N C (.of 187) [a0] h nx K0=IR.run nP.t3 C N (fnO nP.res K0) (zi nP.res K0) (nP.fr a0 .u) h nx:=yE (F:=nP) (by kernel_rfl) (λ_=>by kernel_rfl) (by kernel_rfl)
theorem nP.ret:zi nP.res K0 (nP.fr a b) h nx=zK 2 b h λv1=>K0 v1 h nx:=by kernel_rfl
theorem nQ.zu:IR.run nQ.t0 C N O K (nQ.fr a b c) h nx =
 xq a h nx λv1 h2 n3=>K (nQ.fr a v1 (I 0)) h2 n3:=by kernel_rfl
theorem nQ.zo:IR.run nQ.t1 C N O K (nQ.fr a b c) h nx =
 zM 0 b λv1=>zG v1 h λv2=>sMin false (I 1) [v2] λv3=>sMin true (I (-1)) [v3] λv4=>K (nQ.fr a b v4) h nx:=by kernel_rfl
theorem nQ.go:zP tbl N C (.of 194) [a0] h nx K0=IR.run nQ.t3 C N (fnO nQ.res K0) (zi nQ.res K0) (nQ.fr a0 .u .u) h nx:=yE (F:=nQ) (by kernel_rfl) (λ_=>by kernel_rfl) (by kernel_rfl)
theorem nQ.ret:zi nQ.res K0 (nQ.fr a b c) h nx=K0 c h nx:=by kernel_rfl
theorem fG.zu:IR.run fG.t0 C N O K (fG.fr a b c d e f) h nx =
 xq a h nx λv1 h2 n3=>yX [(I 0),.zb] h2 n3 λv4 h5 n6=>K (fG.fr a v1 v4 d e f) h5 n6:=by kernel_rfl
theorem fG.zo:IR.run fG.t1 C N O K (fG.fr a b c d e f) h nx =
 zM 1 b λv1=>zG v1 h λv2=>za .eql (.nil .sl) v2 .zb λv3=>sG v3 true (λk=>zM 0 b k) λv4=>sG v3 true (λk=>zG v4 h k) λv5=>sG v3 true (λk=>za .neq .int v5 (I (-9223372036854775808)) k) λv6=>yQ v3 v6 (.bool false) λv7=>K (fG.fr a b c d e v7) h nx:=by kernel_rfl
theorem fG.yw:IR.run fG.t2 C N O K (fG.fr a b c d e f) h nx =
 zM 0 b λv1=>zG v1 h λv2=>sNeg v2 λv3=>uX [(I 0),.zb] [(0,1,v3)] λv4=>zV 2 c v4 h nx λv5 h6 n7=>K (fG.fr a b c d e f) h6 n7:=by kernel_rfl
theorem fG.v5:Arg.ev (.t (.of 5)) ⟨(fG.fr a b c d e f),[]⟩=f:=by kernel_rfl
theorem fG.go:zP tbl N C (.of 193) [a0] h nx K0=IR.run fG.t11 C N (fnO fG.res K0) (zi fG.res K0) (fG.fr a0 .u .u .u .u .u) h nx:=yE (F:=fG) (by kernel_rfl) (λ_=>by kernel_rfl) (by kernel_rfl)
theorem fG.ret:zi fG.res K0 (fG.fr a b c d e f) h nx=zK 2 c h λv1=>K0 v1 h nx:=by kernel_rfl
theorem gq.zu:IR.run gq.t0 C N O K (gq.fr a b c) h nx =
 K (gq.fr a .zb c) h nx:=by kernel_rfl
theorem gq.zo:IR.run gq.t1 C N O K tm h nx=zZ gq.tJ C ⟨tm,[]⟩ h nx (λtm h nx=>K tm.v h nx):=jN ..
theorem gq.tK:zZ (gq.sK r) C ⟨(gq.fr a b c),[]⟩ h nx Kt =
 sLen a λv1=>za .gtr .int v1 (I 0) λv2=>sG v2 true (λk=>k a) λv3=>sG v2 true (λk=>k a) λv4=>sG v2 true (λk=>sLen v4 k) λv5=>sG v2 true (λk=>za .sub .int v5 (I 1) k) λv6=>zZ r C ⟨(gq.fr a b c),v6::v5::v4::v3::v2::v2::v1::a::[]⟩ h nx Kt:=by kernel_rfl
theorem gq.sQ:zZ (gq.sM []) C ⟨(gq.fr a b c),s0::s1::s2::s3::s4::sT⟩ h nx Kt =
 sG s4 true (λk=>zJ 1 s3 s0 k) λv1=>sG s4 true (λk=>zG v1 h k) λv2=>sG s4 true (λk=>za .eql .int v2 (I 0) k) λv3=>yQ s4 v3 (.bool false) λv4=>Kt ⟨(gq.fr a b v4),v3::v2::v1::s0::s1::s2::s3::s4::sT⟩ h nx:=by kernel_rfl
theorem gq.v2:Arg.ev (.t (.of 2)) ⟨(gq.fr a b c),[]⟩=c:=by kernel_rfl
theorem gq.ng:IR.run gq.t4 C N O K (gq.fr a b c) h nx =
 sLen a λv1=>za .sub .int v1 (I 1) λv2=>wX 1 a none (some v2) none λv3=>K (gq.fr v3 b c) h nx:=by kernel_rfl
theorem gq.t7_L (Inv:Nat->AV->T Blk->Pa->Prop) {m:Nat} (hm:m<N) (hi:Inv m a h nx)
  (step:∀ (m:Nat) (z0 z2:AV) (h:T Blk) (nx:Pa) (R:Ks Prop),Inv m z0 h nx->(∀ (m':Nat) (w0 w2:AV) (h':T Blk) (nx':Pa),m'<m->Inv m' w0 h' nx'->R (gq.fr w0 b w2) h' nx'=.ok True)->IR.run gq.t6 C N O R (gq.fr z0 b z2) h nx=.ok True) :
  IR.run gq.t7 C N O K (gq.fr a b c) h nx=.ok True:=by
 rw [gq.t7];refine yA (λm tm h nx=>∃ z0 z2,tm=(gq.fr z0 b z2)/\Inv m z0 h nx) ?_ hm ⟨_,_,rfl,hi⟩;rintro m _ h nx R ⟨_,_,rfl,q⟩ p;exact step m _ _ h nx R q λ_ _ _ _ _ x y=>p _ _ _ _ x ⟨_,_,rfl,y⟩
theorem gq.nu:IR.run gq.t9 C N O K (gq.fr a b c) h nx =
 K (gq.fr a a c) h nx:=by kernel_rfl
theorem gq.go:zP tbl N C (.of 269) [a0] h nx K0=IR.run gq.t12 C N (fnO gq.res K0) (zi gq.res K0) (gq.fr a0 .u .u) h nx:=yE (F:=gq) (by kernel_rfl) (λ_=>by kernel_rfl) (by kernel_rfl)
theorem gq.ret:zi gq.res K0 (gq.fr a b c) h nx=K0 b h nx:=by kernel_rfl
theorem fH.zu:IR.run fH.t0 C N O K (fH.fr a b c) h nx =
 yX [(.bool false),.zb] h nx λv1 h2 n3=>K (fH.fr a b v1) h2 n3:=by kernel_rfl
theorem fH.zo:IR.run fH.t1 C N O K (fH.fr a b c) h nx =
 C.fn 269 (.of 269) [b] h nx λv1 h2 n3=>K (fH.fr a v1 c) h2 n3:=by kernel_rfl
theorem fH.yw:IR.run fH.t2 C N O K (fH.fr a b c) h nx =
 sG a true (λk=>k b) λv1=>sG a true (λk=>sLen v1 k) λv2=>sG a true (λk=>za .gtr .int v2 (I 0) k) λv3=>yQ a v3 (.bool false) λv4=>uX [(.bool false),.zb] [(0,1,v4),(1,1,b)] λv5=>zV 2 c v5 h nx λv6 h7 n8=>K (fH.fr a b c) h7 n8:=by kernel_rfl
theorem fH.go:zP tbl N C (.of 214) [a0,a1] h nx K0=IR.run fH.t5 C N (fnO fH.res K0) (zi fH.res K0) (fH.fr a0 a1 .u) h nx:=yE (F:=fH) (by kernel_rfl) (λ_=>by kernel_rfl) (by kernel_rfl)
theorem fH.ret:zi fH.res K0 (fH.fr a b c) h nx=zK 2 c h λv1=>K0 v1 h nx:=by kernel_rfl
theorem yh.zu:IR.run yh.t0 C N O K (yh.fr a b c d e f g j q) h nx =
 K (yh.fr a b (I 0) d e f g j q) h nx:=by kernel_rfl
theorem yh.zo:IR.run yh.t1 C N O K (yh.fr a b c d e f g j q) h nx =
 sLen a λv1=>sLen b λv2=>za .neq .int v1 v2 λv3=>K (yh.fr a b c d v3 f g j q) h nx:=by kernel_rfl
theorem yh.yw:IR.run yh.t2 C N O K (yh.fr a b c d e f g j q) h nx =
 sLen a λv1=>sLen b λv2=>za .lss .int v1 v2 λv3=>K (yh.fr a b c d e v3 g j q) h nx:=by kernel_rfl
theorem yh.vk:IR.run yh.t3 C N O K (yh.fr a b c d e f g j q) h nx =
 K (yh.fr a b (I (-1)) d e f g j q) h nx:=by kernel_rfl
theorem yh.v5:Arg.ev (.t (.of 5)) ⟨(yh.fr a b c d e f g j q),[]⟩=f:=by kernel_rfl
theorem yh.fF:IR.run yh.t7 C N O K (yh.fr a b c d e f g j q) h nx =
 K (yh.fr a b (I 1) d e f g j q) h nx:=by kernel_rfl
theorem yh.v4:Arg.ev (.t (.of 4)) ⟨(yh.fr a b c d e f g j q),[]⟩=e:=by kernel_rfl
theorem yh.rH:IR.run yh.t12 C N O K (yh.fr a b c d e f g j q) h nx =
 sLen a λv1=>za .sub .int v1 (I 1) λv2=>K (yh.fr a b c v2 e f g j q) h nx:=by kernel_rfl
theorem yh.rP:IR.run yh.t13 C N O K (yh.fr a b c d e f g j q) h nx =
 za .geq .int d (I 0) λv1=>K (yh.fr a b c d e f v1 j q) h nx:=by kernel_rfl
theorem yh.v6:Arg.ev (.t (.of 6)) ⟨(yh.fr a b c d e f g j q),[]⟩=g:=by kernel_rfl
theorem yh.sw:IR.run yh.t16 C N O K (yh.fr a b c d e f g j q) h nx =
 zJ 1 a d λv1=>zG v1 h λv2=>zJ 1 b d λv3=>zG v3 h λv4=>za .lss .int v2 v4 λv5=>K (yh.fr a b c d e f g v5 q) h nx:=by kernel_rfl
theorem yh.tL:IR.run yh.t17 C N O K (yh.fr a b c d e f g j q) h nx =
 K (yh.fr a b (I (-1)) d e f g j q) h nx:=by kernel_rfl
theorem yh.v7:Arg.ev (.t (.of 7)) ⟨(yh.fr a b c d e f g j q),[]⟩=j:=by kernel_rfl
theorem yh.zaa:IR.run yh.t21 C N O K (yh.fr a b c d e f g j q) h nx =
 zJ 1 a d λv1=>zG v1 h λv2=>zJ 1 b d λv3=>zG v3 h λv4=>za .gtr .int v2 v4 λv5=>K (yh.fr a b c d e f g j v5) h nx:=by kernel_rfl
theorem yh.tO:IR.run yh.t22 C N O K (yh.fr a b c d e f g j q) h nx =
 K (yh.fr a b (I 1) d e f g j q) h nx:=by kernel_rfl
theorem yh.v8:Arg.ev (.t (.of 8)) ⟨(yh.fr a b c d e f g j q),[]⟩=q:=by kernel_rfl
theorem yh.om:IR.run yh.t28 C N O K (yh.fr a b c d e f g j q) h nx =
 za .sub .int d (I 1) λv1=>K (yh.fr a b c v1 e f g j q) h nx:=by kernel_rfl
theorem yh.zfm (Inv:Nat->AV->T Blk->Pa->Prop) {m:Nat} (hm:m<N) (hi:Inv m d h nx)
  (step:∀ (m:Nat) (z2 z3 z6 z7 z8:AV) (h:T Blk) (nx:Pa) (R:Ks Prop),Inv m z3 h nx->(∀ (m':Nat) (w2 w3 w6 w7 w8:AV) (h':T Blk) (nx':Pa),m'<m->Inv m' w3 h' nx'->R (yh.fr a b w2 w3 e f w6 w7 w8) h' nx'=.ok True)->IR.run yh.t30 C N O R (yh.fr a b z2 z3 e f z6 z7 z8) h nx=.ok True) :
  IR.run yh.t31 C N O K (yh.fr a b c d e f g j q) h nx=.ok True:=by
 rw [yh.t31];refine yA (λm tm h nx=>∃ z2 z3 z6 z7 z8,tm=(yh.fr a b z2 z3 e f z6 z7 z8)/\Inv m z3 h nx) ?_ hm ⟨_,_,_,_,_,rfl,hi⟩;rintro m _ h nx R ⟨_,_,_,_,_,rfl,q⟩ p;exact step m _ _ _ _ _ h nx R q λ_ _ _ _ _ _ _ _ x y=>p _ _ _ _ x ⟨_,_,_,_,_,rfl,y⟩
theorem yh.zfn:IR.run yh.t34 C N O K (yh.fr a b c d e f g j q) h nx =
 K (yh.fr a b (I 0) d e f g j q) h nx:=by kernel_rfl
theorem yh.go:zP tbl N C (.of 216) [a0,a1] h nx K0=IR.run yh.t38 C N (fnO yh.res K0) (zi yh.res K0) (yh.fr a0 a1 .u .u .u .u .u .u .u) h nx:=yE (F:=yh) (by kernel_rfl) (λ_=>by kernel_rfl) (by kernel_rfl)
theorem yh.ret:zi yh.res K0 (yh.fr a b c d e f g j q) h nx=K0 c h nx:=by kernel_rfl
theorem jd.zu:IR.run jd.t0 C N O K (jd.fr a b c d e f g j q) h nx =
 K (jd.fr a b .zb (I 0) e f g j q) h nx:=by kernel_rfl
theorem jd.zo:IR.run jd.t1 C N O K (jd.fr a b c d e f g j q) h nx =
 sLen a λv1=>q8 1 8 [(I 0)] v1 v1 h nx λv2 h3 n4=>K (jd.fr a b c d v2 f g j q) h3 n4:=by kernel_rfl
theorem jd.yw:IR.run jd.t2 C N O K (jd.fr a b c d e f g j q) h nx =
 K (jd.fr a b c d e (I 0) g j q) h nx:=by kernel_rfl
theorem jd.vk:IR.run jd.t3 C N O K (jd.fr a b c d e f g j q) h nx =
 sLen a λv1=>za .sub .int v1 (I 1) λv2=>K (jd.fr a b c d e f v2 j q) h nx:=by kernel_rfl
theorem jd.ng:IR.run jd.t4 C N O K (jd.fr a b c d e f g j q) h nx =
 za .geq .int g (I 0) λv1=>K (jd.fr a b c d e f g j v1) h nx:=by kernel_rfl
theorem jd.v8:Arg.ev (.t (.of 8)) ⟨(jd.fr a b c d e f g j q),[]⟩=q:=by kernel_rfl
theorem jd.fF:IR.run jd.t7 C N O K (jd.fr a b c d e f g j q) h nx =
 za .mul .int f (I 1000000000) λv1=>zJ 1 a g λv2=>zG v2 h λv3=>za .add .int v1 v3 λv4=>K (jd.fr a b c d e f g v4 q) h nx:=by kernel_rfl
theorem jd.fU:IR.run jd.t8 C N O K (jd.fr a b c d e f g j q) h nx =
 za .quo .int j b λv1=>zJ 1 e g λv2=>zV 1 v2 v1 h nx λv3 h4 n5=>K (jd.fr a b c d e f g j q) h4 n5:=by kernel_rfl
theorem jd.nu:IR.run jd.t9 C N O K (jd.fr a b c d e f g j q) h nx =
 za .rem .int j b λv1=>K (jd.fr a b c d e v1 g j q) h nx:=by kernel_rfl
theorem jd.rP:IR.run jd.t13 C N O K (jd.fr a b c d e f g j q) h nx =
 za .sub .int g (I 1) λv1=>K (jd.fr a b c d e f v1 j q) h nx:=by kernel_rfl
theorem jd.zab (Inv:Nat->AV->AV->T Blk->Pa->Prop) {m:Nat} (hm:m<N) (hi:Inv m f g h nx)
  (step:∀ (m:Nat) (z5 z6 z7 z8:AV) (h:T Blk) (nx:Pa) (R:Ks Prop),Inv m z5 z6 h nx->(∀ (m':Nat) (w5 w6 w7 w8:AV) (h':T Blk) (nx':Pa),m'<m->Inv m' w5 w6 h' nx'->R (jd.fr a b c d e w5 w6 w7 w8) h' nx'=.ok True)->IR.run jd.t15 C N O R (jd.fr a b c d e z5 z6 z7 z8) h nx=.ok True) :
  IR.run jd.t16 C N O K (jd.fr a b c d e f g j q) h nx=.ok True:=by
 rw [jd.t16];refine yA (λm tm h nx=>∃ z5 z6 z7 z8,tm=(jd.fr a b c d e z5 z6 z7 z8)/\Inv m z5 z6 h nx) ?_ hm ⟨_,_,_,_,rfl,hi⟩;rintro m _ h nx R ⟨_,_,_,_,rfl,q⟩ p;exact step m _ _ _ _ h nx R q λ_ _ _ _ _ _ _ x y=>p _ _ _ _ x ⟨_,_,_,_,rfl,y⟩
theorem jd.sJ:IR.run jd.t19 C N O K (jd.fr a b c d e f g j q) h nx =
 C.fn 269 (.of 269) [e] h nx λv1 h2 n3=>K (jd.fr a b v1 f e f g j q) h2 n3:=by kernel_rfl
theorem jd.go:zP tbl N C (.of 268) [a0,a1] h nx K0=IR.run jd.t24 C N (fnO jd.res K0) (zi jd.res K0) (jd.fr a0 a1 .u .u .u .u .u .u .u) h nx:=yE (F:=jd) (by kernel_rfl) (λ_=>by kernel_rfl) (by kernel_rfl)
theorem jd.ret:zi jd.res K0 (jd.fr a b c d e f g j q) h nx=K0 (.tup [c,d]) h nx:=by kernel_rfl
theorem wu.zu:IR.run wu.t0 C N O K (wu.fr a b c d e f g j q s i l p o) h nx =
 xq a h nx λv1 h2 n3=>xq b h2 n3 λv4 h5 n6=>yX [(I 0),.zb] h5 n6 λv7 h8 n9=>K (wu.fr a b v1 v4 v7 f g j q s i l p o) h8 n9:=by kernel_rfl
theorem wu.zo:IR.run wu.t1 C N O K (wu.fr a b c d e f g j q s i l p o) h nx =
 zM 1 c λv1=>zG v1 h λv2=>za .eql (.nil .sl) v2 .zb λv3=>sG v3 true (λk=>zM 1 d k) λv4=>sG v3 true (λk=>zG v4 h k) λv5=>sG v3 true (λk=>za .eql (.nil .sl) v5 .zb k) λv6=>yQ v3 v6 (.bool false) λv7=>K (wu.fr a b c d e f g j q s v7 l p o) h nx:=by kernel_rfl
theorem wu.yw:IR.run wu.t2 C N O K (wu.fr a b c d e f g j q s i l p o) h nx =
 zM 0 c λv1=>zG v1 h λv2=>zM 0 d λv3=>zG v3 h λv4=>za .add .int v2 v4 λv5=>K (wu.fr a b c d e v5 g j q s i l p o) h nx:=by kernel_rfl
theorem wu.vk:IR.run wu.t3 C N O K (wu.fr a b c d e f g j q s i l p o) h nx =
 zM 0 c λv1=>zG v1 h λv2=>za .gtr .int f v2 λv3=>zM 0 d λv4=>zG v4 h λv5=>za .gtr .int v5 (I 0) λv6=>za .eql .bool v3 v6 λv7=>K (wu.fr a b c d e f g j q s i v7 p o) h nx:=by kernel_rfl
theorem wu.ng:IR.run wu.t4 C N O K (wu.fr a b c d e f g j q s i l p o) h nx =
 uX [(I 0),.zb] [(0,1,f)] λv1=>zV 2 e v1 h nx λv2 h3 n4=>K (wu.fr a b c d e f g j q s i l p o) h3 n4:=by kernel_rfl
theorem wu.v11:Arg.ev (.t (.of 11)) ⟨(wu.fr a b c d e f g j q s i l p o),[]⟩=l:=by kernel_rfl
theorem wu.v10:Arg.ev (.t (.of 10)) ⟨(wu.fr a b c d e f g j q s i l p o),[]⟩=i:=by kernel_rfl
theorem wu.go:zP tbl N C (.of 197) [a0,a1] h nx K0=IR.run wu.t30 C N (fnO wu.res K0) (zi wu.res K0) (wu.fr a0 a1 .u .u .u .u .u .u .u .u .u .u .u .u) h nx:=yE (F:=wu) (by kernel_rfl) (λ_=>by kernel_rfl) (by kernel_rfl)
theorem wu.ret:zi wu.res K0 (wu.fr a b c d e f g j q s i l p o) h nx=zK 2 e h λv1=>K0 v1 h nx:=by kernel_rfl
theorem um.zu:IR.run um.t0 C N O K (um.fr a b c d e f g j q s i l p o) h nx =
 xq a h nx λv1 h2 n3=>xq b h2 n3 λv4 h5 n6=>yX [(I 0),.zb] h5 n6 λv7 h8 n9=>K (um.fr a b v1 v4 v7 f g j q s i l p o) h8 n9:=by kernel_rfl
theorem um.zo:IR.run um.t1 C N O K (um.fr a b c d e f g j q s i l p o) h nx =
 zM 1 c λv1=>zG v1 h λv2=>za .eql (.nil .sl) v2 .zb λv3=>sG v3 true (λk=>zM 1 d k) λv4=>sG v3 true (λk=>zG v4 h k) λv5=>sG v3 true (λk=>za .eql (.nil .sl) v5 .zb k) λv6=>yQ v3 v6 (.bool false) λv7=>K (um.fr a b c d e f g j q s i v7 p o) h nx:=by kernel_rfl
theorem um.yw:IR.run um.t2 C N O K (um.fr a b c d e f g j q s i l p o) h nx =
 zM 0 c λv1=>zG v1 h λv2=>zM 0 d λv3=>zG v3 h λv4=>C.fn 264 (.of 264) [v2] h nx λv5 h6 n7=>(zG v3 h6 λvA=>zQ vA v4 ((zM 0 d λvB=>zQ vB v3 (C.fn 264 (.of 264) [v4] h6 n7 λv8 h9 nB=>C.fn 263 (.of 263) [v5,v8] h9 nB λvG hB nC=>fO 0 vG λvD=>fO 1 vG λvC=>K (um.fr a b c d e vD vC j q s i l p o) hB nC)))):=by kernel_rfl
theorem um.vk:IR.run um.t3 C N O K (um.fr a b c d e f g j q s i l p o) h nx =
 za .eql .int f (.int .u64 0) λv1=>sG v1 true (λk=>k g) λv2=>sG v1 true (λk=>za .leq .int v2 (.int .u64 9223372036854775807) k) λv3=>yQ v1 v3 (.bool false) λv4=>K (um.fr a b c d e f g j q s i l v4 o) h nx:=by kernel_rfl
theorem um.ng:IR.run um.t4 C N O K (um.fr a b c d e f g j q s i l p o) h nx =
 zM 0 c λv1=>zG v1 h λv2=>za .lss .int v2 (I 0) λv3=>zM 0 d λv4=>zG v4 h λv5=>za .lss .int v5 (I 0) λv6=>za .neq .bool v3 v6 λv7=>K (um.fr a b c d e f g j q s i l p v7) h nx:=by kernel_rfl
theorem um.fZ:IR.run um.t5 C N O K (um.fr a b c d e f g j q s i l p o) h nx =
 kT .i64 g λv1=>sNeg v1 λv2=>uX [(I 0),.zb] [(0,1,v2)] λv3=>zV 2 e v3 h nx λv4 h5 n6=>K (um.fr a b c d e f g j q s i l p o) h5 n6:=by kernel_rfl
theorem um.v13:Arg.ev (.t (.of 13)) ⟨(um.fr a b c d e f g j q s i l p o),[]⟩=o:=by kernel_rfl
theorem um.nu:IR.run um.t9 C N O K (um.fr a b c d e f g j q s i l p o) h nx =
 kT .i64 g λv1=>uX [(I 0),.zb] [(0,1,v1)] λv2=>zV 2 e v2 h nx λv3 h4 n5=>K (um.fr a b c d e f g j q s i l p o) h4 n5:=by kernel_rfl
theorem um.v12:Arg.ev (.t (.of 12)) ⟨(um.fr a b c d e f g j q s i l p o),[]⟩=p:=by kernel_rfl
theorem um.v11:Arg.ev (.t (.of 11)) ⟨(um.fr a b c d e f g j q s i l p o),[]⟩=l:=by kernel_rfl
theorem um.go:zP tbl N C (.of 198) [a0,a1] h nx K0=IR.run um.t24 C N (fnO um.res K0) (zi um.res K0) (um.fr a0 a1 .u .u .u .u .u .u .u .u .u .u .u .u) h nx:=yE (F:=um) (by kernel_rfl) (λ_=>by kernel_rfl) (by kernel_rfl)
theorem um.ret:zi um.res K0 (um.fr a b c d e f g j q s i l p o) h nx=zK 2 e h λv1=>K0 v1 h nx:=by kernel_rfl
theorem gu.zu:IR.run gu.t0 C N O K (gu.fr a b c d e f g j q s i l p o u v w y) h nx =
 xq a h nx λv1 h2 n3=>xq b h2 n3 λv4 h5 n6=>yX [(I 0),.zb] h5 n6 λv7 h8 n9=>yX [(I 0),.zb] h8 n9 λvH hC nD=>K (gu.fr a b v1 v4 v7 vH g j q s i l p o u v w y) hC nD:=by kernel_rfl
theorem gu.zo:IR.run gu.t1 C N O K tm h nx=zZ gu.tJ C ⟨tm,[]⟩ h nx (λtm h nx=>K tm.v h nx):=jN ..
theorem gu.tK:zZ (gu.sK r) C ⟨(gu.fr a b c d e f g j q s i l p o u v w y),[]⟩ h nx Kt =
 zM 1 c λv1=>zG v1 h λv2=>za .eql (.nil .sl) v2 .zb λv3=>sG v3 true (λk=>zM 1 d k) λv4=>sG v3 true (λk=>zG v4 h k) λv5=>sG v3 true (λk=>za .eql (.nil .sl) v5 .zb k) λv6=>yQ v3 v6 (.bool false) λv7=>zZ r C ⟨(gu.fr a b c d e f g j q s i l p o u v w y),v7::v6::v5::v4::v3::v3::v2::v1::[]⟩ h nx Kt:=by kernel_rfl
theorem gu.sQ:zZ (gu.sM []) C ⟨(gu.fr a b c d e f g j q s i l p o u v w y),s0::sT⟩ h nx Kt =
 sG s0 true (λk=>zM 0 c k) λv1=>sG s0 true (λk=>zG v1 h k) λv2=>sG s0 true (λk=>za .neq .int v2 (I (-9223372036854775808)) k) λv3=>yQ s0 v3 (.bool false) λv4=>Kt ⟨(gu.fr a b c d e f g j q s i l p o u v4 w y),v3::v2::v1::s0::s0::sT⟩ h nx:=by kernel_rfl
theorem gu.yw:IR.run gu.t2 C N O K (gu.fr a b c d e f g j q s i l p o u v w y) h nx =
 zM 0 c λv1=>zG v1 h λv2=>zM 0 d λv3=>zG v3 h λv4=>za .quo .int v2 v4 λv5=>zM 0 c λv6=>zG v6 h λv7=>zM 0 d λv8=>zG v8 h λv9=>za .rem .int v7 v9 λvH=>K (gu.fr a b c d e f v5 vH q s i l p o u v w y) h nx:=by kernel_rfl
theorem gu.vk:IR.run gu.t3 C N O K (gu.fr a b c d e f g j q s i l p o u v w y) h nx =
 za .lss .int j (I 0) λv1=>K (gu.fr a b c d e f g j q s i l p o u v v1 y) h nx:=by kernel_rfl
theorem gu.ng:IR.run gu.t4 C N O K (gu.fr a b c d e f g j q s i l p o u v w y) h nx =
 za .sub .int g (I 1) λv1=>zM 0 d λv2=>zG v2 h λv3=>za .add .int j v3 λv4=>K (gu.fr a b c d e f v1 v4 q s i l p o u v w y) h nx:=by kernel_rfl
theorem gu.v16:Arg.ev (.t (.of 16)) ⟨(gu.fr a b c d e f g j q s i l p o u v w y),[]⟩=w:=by kernel_rfl
theorem gu.fF:IR.run gu.t7 C N O K (gu.fr a b c d e f g j q s i l p o u v w y) h nx =
 uX [(I 0),.zb] [(0,1,g)] λv1=>uX [(I 0),.zb] [(0,1,j)] λv2=>zV 2 e v1 h nx λv3 h4 n5=>zV 2 f v2 h4 n5 λv6 h7 n8=>K (gu.fr a b c d e f g j q s i l p o u v w y) h7 n8:=by kernel_rfl
theorem gu.v15:Arg.ev (.t (.of 15)) ⟨(gu.fr a b c d e f g j q s i l p o u v w y),[]⟩=v:=by kernel_rfl
theorem gu.go:zP tbl N C (.of 201) [a0,a1] h nx K0=IR.run gu.t29 C N (fnO gu.res K0) (zi gu.res K0) (gu.fr a0 a1 .u .u .u .u .u .u .u .u .u .u .u .u .u .u .u .u) h nx:=yE (F:=gu) (by kernel_rfl) (λ_=>by kernel_rfl) (by kernel_rfl)
theorem gu.ret:zi gu.res K0 (gu.fr a b c d e f g j q s i l p o u v w y) h nx=zK 2 e h λv1=>zK 2 f h λv2=>K0 (.tup [v1,v2]) h nx:=by kernel_rfl
theorem qw.zu:IR.run qw.t0 C N O K (qw.fr a b c d e f g) h nx =
 xq a h nx λv1 h2 n3=>xq b h2 n3 λv4 h5 n6=>yX [(I 0),.zb] h5 n6 λv7 h8 n9=>K (qw.fr a b v1 v4 v7 f g) h8 n9:=by kernel_rfl
theorem qw.zo:IR.run qw.t1 C N O K (qw.fr a b c d e f g) h nx =
 zK 2 d h λv1=>C.fn 194 (.of 194) [v1] h nx λv2 h3 n4=>za .lss .int v2 (I 0) λv5=>K (qw.fr a b c d e f v5) h3 n4:=by kernel_rfl
theorem qw.yw:IR.run qw.t2 C N O K (qw.fr a b c d e f g) h nx =
 zK 2 c h λv1=>zK 2 d h λv2=>C.fn 193 (.of 193) [v1] h nx λv3 h4 n5=>(zK 2 d h4 λvC=>zQ vC v2 (C.fn 193 (.of 193) [v2] h4 n5 λv6 h7 n8=>zV 2 c v3 h7 n8 λv9 hA nA=>zV 2 d v6 hA nA λvF hD nE=>K (qw.fr a b c d e f g) hD nE)):=by kernel_rfl
theorem qw.v6:Arg.ev (.t (.of 6)) ⟨(qw.fr a b c d e f g),[]⟩=g:=by kernel_rfl
theorem qw.fZ:IR.run qw.t5 C N O K (qw.fr a b c d e f g) h nx =
 zK 2 c h λv1=>zK 2 d h λv2=>C.fn 201 (.of 201) [v1,v2] h nx λv3 h4 n5=>fO 0 v3 λv6=>fO 1 v3 λv7=>yX [(I 0),.zb] h4 n5 λv8 h9 nB=>yX [(I 0),.zb] h9 nB λvG hB nC=>zV 2 v8 v6 hB nC λvD hE nF=>zV 2 vG v7 hE nF λvA hF nG=>K (qw.fr a b c d e v8 g) hF nG:=by kernel_rfl
theorem qw.uy:IR.run qw.t6 C N O K (qw.fr a b c d e f g) h nx =
 zK 2 f h λv1=>zV 2 e v1 h nx λv2 h3 n4=>K (qw.fr a b c d e f g) h3 n4:=by kernel_rfl
theorem qw.go:zP tbl N C (.of 259) [a0,a1] h nx K0=IR.run qw.t10 C N (fnO qw.res K0) (zi qw.res K0) (qw.fr a0 a1 .u .u .u .u .u) h nx:=yE (F:=qw) (by kernel_rfl) (λ_=>by kernel_rfl) (by kernel_rfl)
theorem qw.ret:zi qw.res K0 (qw.fr a b c d e f g) h nx=zK 2 e h λv1=>K0 v1 h nx:=by kernel_rfl
theorem qh.zu:IR.run qh.t0 C N O K (qh.fr a b c d e f g j q s i l p o u v w y z A B D E G H L M P Q) h nx =
 K (qh.fr a b .zb .zb e f g j q s i l p o u v w y z A B D E G H L M P Q) h nx:=by kernel_rfl
theorem qh.zo:IR.run qh.t1 C N O K (qh.fr a b c d e f g j q s i l p o u v w y z A B D E G H L M P Q) h nx =
 C.fn 216 (.of 216) [a,b] h nx λv1 h2 n3=>za .lss .int v1 (I 0) λv4=>K (qh.fr a b c d e f g j q s i l p o u v w y z A B v4 E G H L M P Q) h2 n3:=by kernel_rfl
theorem qh.yw:IR.run qh.t2 C N O K (qh.fr a b c d e f g j q s i l p o u v w y z A B D E G H L M P Q) h nx =
 K (qh.fr a b .zb a e f g j q s i l p o u v w y z A B D E G H L M P Q) h nx:=by kernel_rfl
theorem qh.v21:Arg.ev (.t (.of 21)) ⟨(qh.fr a b c d e f g j q s i l p o u v w y z A B D E G H L M P Q),[]⟩=D:=by kernel_rfl
theorem qh.uy:IR.run qh.t6 C N O K (qh.fr a b c d e f g j q s i l p o u v w y z A B D E G H L M P Q) h nx =
 sLen b λv1=>za .eql .int v1 (I 1) λv2=>K (qh.fr a b c d e f g j q s i l p o u v w y z A B D v2 G H L M P Q) h nx:=by kernel_rfl
theorem qh.fF:IR.run qh.t7 C N O K (qh.fr a b c d e f g j q s i l p o u v w y z A B D E G H L M P Q) h nx =
 zJ 1 b (I 0) λv1=>zG v1 h λv2=>C.fn 268 (.of 268) [a,v2] h nx λv3 h4 n5=>fO 0 v3 λv6=>fO 1 v3 λv7=>K (qh.fr a b c d v6 v7 g j q s i l p o u v w y z A B D E G H L M P Q) h4 n5:=by kernel_rfl
theorem qh.fU:IR.run qh.t8 C N O K (qh.fr a b c d e f g j q s i l p o u v w y z A B D E G H L M P Q) h nx =
 yS 1 1 [(I 0)] [(0,1,f)] h nx λv1 h2 n3=>C.fn 269 (.of 269) [v1] h2 n3 λv4 h5 n6=>K (qh.fr a b e v4 e f g j q s i l p o u v w y z A B D E G H L M P Q) h5 n6:=by kernel_rfl
theorem qh.v22:Arg.ev (.t (.of 22)) ⟨(qh.fr a b c d e f g j q s i l p o u v w y z A B D E G H L M P Q),[]⟩=E:=by kernel_rfl
theorem qh.go:zP tbl N C (.of 213) [a0,a1] h nx K0=IR.run qh.t109 C N (fnO qh.res K0) (zi qh.res K0) (qh.fr a0 a1 .u .u .u .u .u .u .u .u .u .u .u .u .u .u .u .u .u .u .u .u .u .u .u .u .u .u .u) h nx:=yE (F:=qh) (by kernel_rfl) (λ_=>by kernel_rfl) (by kernel_rfl)
theorem qh.ret:zi qh.res K0 (qh.fr a b c d e f g j q s i l p o u v w y z A B D E G H L M P Q) h nx=K0 (.tup [c,d]) h nx:=by kernel_rfl
theorem nR.zu:IR.run nR.t0 C N O K (nR.fr a b c) h nx =
 xq a h nx λv1 h2 n3=>yX [(.bool false),.zb] h2 n3 λv4 h5 n6=>K (nR.fr a v1 v4) h5 n6:=by kernel_rfl
theorem nR.zo:IR.run nR.t1 C N O K (nR.fr a b c) h nx =
 zM 0 b λv1=>zG v1 h λv2=>sNot v2 λv3=>zM 1 b λv4=>zG v4 h λv5=>C.fn 214 (.of 214) [v3,v5] h nx λv6 h7 n8=>zV 2 c v6 h7 n8 λv9 hA nA=>K (nR.fr a b c) hA nA:=by kernel_rfl
theorem nR.go:zP tbl N C (.of 212) [a0] h nx K0=IR.run nR.t3 C N (fnO nR.res K0) (zi nR.res K0) (nR.fr a0 .u .u) h nx:=yE (F:=nR) (by kernel_rfl) (λ_=>by kernel_rfl) (by kernel_rfl)
theorem nR.ret:zi nR.res K0 (nR.fr a b c) h nx=zK 2 c h λv1=>K0 v1 h nx:=by kernel_rfl
theorem uz.zu:IR.run uz.t0 C N O K (uz.fr a b c d e) h nx =
 K (uz.fr a b .zb d e) h nx:=by kernel_rfl
theorem uz.zo:IR.run uz.t1 C N O K (uz.fr a b c d e) h nx =
 sLen b λv1=>za .gtr .int v1 (I 0) λv2=>K (uz.fr a b c d v2) h nx:=by kernel_rfl
theorem uz.v4:Arg.ev (.t (.of 4)) ⟨(uz.fr a b c d e),[]⟩=e:=by kernel_rfl
theorem uz.ng:IR.run uz.t4 C N O K (uz.fr a b c d e) h nx =
 C.fn 213 (.of 213) [a,b] h nx λv1 h2 n3=>fO 0 v1 λv4=>fO 1 v1 λv5=>K (uz.fr a b c v5 e) h2 n3:=by kernel_rfl
theorem uz.fZ:IR.run uz.t5 C N O K (uz.fr a b c d e) h nx =
 K (uz.fr b d c d e) h nx:=by kernel_rfl
theorem uz.t9_L (Inv:Nat->AV->AV->T Blk->Pa->Prop) {m:Nat} (hm:m<N) (hi:Inv m a b h nx)
  (step:∀ (m:Nat) (z0 z1 z3 z4:AV) (h:T Blk) (nx:Pa) (R:Ks Prop),Inv m z0 z1 h nx->(∀ (m':Nat) (w0 w1 w3 w4:AV) (h':T Blk) (nx':Pa),m'<m->Inv m' w0 w1 h' nx'->R (uz.fr w0 w1 c w3 w4) h' nx'=.ok True)->IR.run uz.t8 C N O R (uz.fr z0 z1 c z3 z4) h nx=.ok True) :
  IR.run uz.t9 C N O K (uz.fr a b c d e) h nx=.ok True:=by
 rw [uz.t9];refine yA (λm tm h nx=>∃ z0 z1 z3 z4,tm=(uz.fr z0 z1 c z3 z4)/\Inv m z0 z1 h nx) ?_ hm ⟨_,_,_,_,rfl,hi⟩;rintro m _ h nx R ⟨_,_,_,_,rfl,q⟩ p;exact step m _ _ _ _ h nx R q λ_ _ _ _ _ _ _ x y=>p _ _ _ _ x ⟨_,_,_,_,rfl,y⟩
theorem uz.xu:IR.run uz.t11 C N O K (uz.fr a b c d e) h nx =
 K (uz.fr a b a d e) h nx:=by kernel_rfl
theorem uz.go:zP tbl N C (.of 208) [a0,a1] h nx K0=IR.run uz.t14 C N (fnO uz.res K0) (zi uz.res K0) (uz.fr a0 a1 .u .u .u) h nx:=yE (F:=uz) (by kernel_rfl) (λ_=>by kernel_rfl) (by kernel_rfl)
theorem uz.ret:zi uz.res K0 (uz.fr a b c d e) h nx=K0 c h nx:=by kernel_rfl
theorem qp.zu:IR.run qp.t0 C N O K (qp.fr a b c d) h nx =
 K (qp.fr a b (I 0) d) h nx:=by kernel_rfl
theorem qp.zo:IR.run qp.t1 C N O K (qp.fr a b c d) h nx =
 za .gtr .int b (I 0) λv1=>K (qp.fr a b c v1) h nx:=by kernel_rfl
theorem qp.v3:Arg.ev (.t (.of 3)) ⟨(qp.fr a b c d),[]⟩=d:=by kernel_rfl
theorem qp.ng:IR.run qp.t4 C N O K (qp.fr a b c d) h nx =
 za .rem .int a b λv1=>K (qp.fr b v1 c d) h nx:=by kernel_rfl
theorem qp.t7_L (Inv:Nat->AV->AV->T Blk->Pa->Prop) {m:Nat} (hm:m<N) (hi:Inv m a b h nx)
  (step:∀ (m:Nat) (z0 z1 z3:AV) (h:T Blk) (nx:Pa) (R:Ks Prop),Inv m z0 z1 h nx->(∀ (m':Nat) (w0 w1 w3:AV) (h':T Blk) (nx':Pa),m'<m->Inv m' w0 w1 h' nx'->R (qp.fr w0 w1 c w3) h' nx'=.ok True)->IR.run qp.t6 C N O R (qp.fr z0 z1 c z3) h nx=.ok True) :
  IR.run qp.t7 C N O K (qp.fr a b c d) h nx=.ok True:=by
 rw [qp.t7];refine yA (λm tm h nx=>∃ z0 z1 z3,tm=(qp.fr z0 z1 c z3)/\Inv m z0 z1 h nx) ?_ hm ⟨_,_,_,rfl,hi⟩;rintro m _ h nx R ⟨_,_,_,rfl,q⟩ p;exact step m _ _ _ h nx R q λ_ _ _ _ _ _ x y=>p _ _ _ _ x ⟨_,_,_,rfl,y⟩
theorem qp.nu:IR.run qp.t9 C N O K (qp.fr a b c d) h nx =
 K (qp.fr a b a d) h nx:=by kernel_rfl
theorem qp.go:zP tbl N C (.of 210) [a0,a1] h nx K0=IR.run qp.t12 C N (fnO qp.res K0) (zi qp.res K0) (qp.fr a0 a1 .u .u) h nx:=yE (F:=qp) (by kernel_rfl) (λ_=>by kernel_rfl) (by kernel_rfl)
theorem qp.ret:zi qp.res K0 (qp.fr a b c d) h nx=K0 c h nx:=by kernel_rfl
theorem yx.zu:IR.run yx.t0 C N O K (yx.fr a b c d e f g) h nx =
 yX [(.bool false),.zb] h nx λv1 h2 n3=>K (yx.fr a v1 c d e f g) h2 n3:=by kernel_rfl
theorem yx.zo:IR.run yx.t1 C N O K (yx.fr a b c d e f g) h nx =
 K (yx.fr a b .zb d e f g) h nx:=by kernel_rfl
theorem yx.yw:IR.run yx.t2 C N O K (yx.fr a b c d e f g) h nx =
 za .lss .int a (I 0) λv1=>K (yx.fr a b c v1 e f g) h nx:=by kernel_rfl
theorem yx.vk:IR.run yx.t3 C N O K (yx.fr a b c d e f g) h nx =
 za .neq .int a (I 0) λv1=>K (yx.fr a b c d e v1 g) h nx:=by kernel_rfl
theorem yx.v5:Arg.ev (.t (.of 5)) ⟨(yx.fr a b c d e f g),[]⟩=f:=by kernel_rfl
theorem yx.uy:IR.run yx.t6 C N O K (yx.fr a b c d e f g) h nx =
 za .rem .int a (I 1000000000) λv1=>K (yx.fr a b c d v1 f g) h nx:=by kernel_rfl
theorem yx.fF:IR.run yx.t7 C N O K (yx.fr a b c d e f g) h nx =
 za .lss .int e (I 0) λv1=>K (yx.fr a b c d e f v1) h nx:=by kernel_rfl
theorem yx.fU:IR.run yx.t8 C N O K (yx.fr a b c d e f g) h nx =
 za .sub .int (I 0) e λv1=>K (yx.fr a b c d v1 f g) h nx:=by kernel_rfl
theorem yx.v6:Arg.ev (.t (.of 6)) ⟨(yx.fr a b c d e f g),[]⟩=g:=by kernel_rfl
theorem yx.xu:IR.run yx.t11 C N O K (yx.fr a b c d e f g) h nx =
 yS 1 1 [(I 0)] [(0,1,e)] h nx λv1 h2 n3=>rY 1 8 c v1 h2 n3 λv4 h5 n6=>K (yx.fr a b v4 d e f g) h5 n6:=by kernel_rfl
theorem yx.rH:IR.run yx.t12 C N O K (yx.fr a b c d e f g) h nx =
 za .quo .int a (I 1000000000) λv1=>K (yx.fr v1 b c d e f g) h nx:=by kernel_rfl
theorem yx.zzb (Inv:Nat->AV->AV->T Blk->Pa->Prop) {m:Nat} (hm:m<N) (hi:Inv m a c h nx)
  (step:∀ (m:Nat) (z0 z2 z4 z5 z6:AV) (h:T Blk) (nx:Pa) (R:Ks Prop),Inv m z0 z2 h nx->(∀ (m':Nat) (w0 w2 w4 w5 w6:AV) (h':T Blk) (nx':Pa),m'<m->Inv m' w0 w2 h' nx'->R (yx.fr w0 b w2 d w4 w5 w6) h' nx'=.ok True)->IR.run yx.t17 C N O R (yx.fr z0 b z2 d z4 z5 z6) h nx=.ok True) :
  IR.run yx.t18 C N O K (yx.fr a b c d e f g) h nx=.ok True:=by
 rw [yx.t18];refine yA (λm tm h nx=>∃ z0 z2 z4 z5 z6,tm=(yx.fr z0 b z2 d z4 z5 z6)/\Inv m z0 z2 h nx) ?_ hm ⟨_,_,_,_,_,rfl,hi⟩;rintro m _ h nx R ⟨_,_,_,_,_,rfl,q⟩ p;exact step m _ _ _ _ _ h nx R q λ_ _ _ _ _ _ _ _ x y=>p _ _ _ _ x ⟨_,_,_,_,_,rfl,y⟩
theorem yx.aI:IR.run yx.t20 C N O K (yx.fr a b c d e f g) h nx =
 C.fn 214 (.of 214) [d,c] h nx λv1 h2 n3=>zV 2 b v1 h2 n3 λv4 h5 n6=>K (yx.fr a b c d e f g) h5 n6:=by kernel_rfl
theorem yx.go:zP tbl N C (.of 134) [a0] h nx K0=IR.run yx.t25 C N (fnO yx.res K0) (zi yx.res K0) (yx.fr a0 .u .u .u .u .u .u) h nx:=yE (F:=yx) (by kernel_rfl) (λ_=>by kernel_rfl) (by kernel_rfl)
theorem yx.ret:zi yx.res K0 (yx.fr a b c d e f g) h nx=zK 2 b h λv1=>K0 v1 h nx:=by kernel_rfl
theorem jc.zu:IR.run jc.t0 C N O K (jc.fr a b c d e) h nx =
 K (jc.fr a b (.str []) d e) h nx:=by kernel_rfl
theorem jc.zo:IR.run jc.t1 C N O K (jc.fr a b c d e) h nx =
 K (jc.fr a b c (.str []) e) h nx:=by kernel_rfl
theorem jc.yw:IR.run jc.t2 C N O K tm h nx=zZ jc.r2_0 C ⟨tm,[]⟩ h nx (λtm h nx=>K tm.v h nx):=jN ..
theorem jc.zwz:zZ (jc.zux []) C ⟨(jc.fr a b c d e),[]⟩ h nx Kt =
 za .gtr .int a (I 0) λv1=>sG v1 false (λk=>k d) λv2=>sG v1 false (λk=>qC v2 k) λv3=>sG v1 false (λk=>k b) λv4=>sG v1 false (λk=>za .lss .int v3 v4 k) λv5=>yQ v1 (.bool true) v5 λv6=>Kt ⟨(jc.fr a b c d v6),v5::v4::v3::v2::v1::v1::a::[]⟩ h nx:=by kernel_rfl
theorem jc.v4:Arg.ev (.t (.of 4)) ⟨(jc.fr a b c d e),[]⟩=e:=by kernel_rfl
theorem jc.fZ:IR.run jc.t5 C N O K (jc.fr a b c d e) h nx =
 za .rem .int a (I 10) λv1=>za .rem .int a (I 10) λv2=>za .add .int v2 (I 1) λv3=>gI (.str [48,49,50,51,52,53,54,55,56,57]) (some v1) (some v3) λv4=>za .add .str v4 d λv5=>K (jc.fr a b c v5 e) h nx:=by kernel_rfl
theorem jc.uy:IR.run jc.t6 C N O K (jc.fr a b c d e) h nx =
 za .quo .int a (I 10) λv1=>K (jc.fr v1 b c d e) h nx:=by kernel_rfl
theorem jc.zm6 (Inv:Nat->AV->AV->T Blk->Pa->Prop) {m:Nat} (hm:m<N) (hi:Inv m a d h nx)
  (step:∀ (m:Nat) (z0 z3 z4:AV) (h:T Blk) (nx:Pa) (R:Ks Prop),Inv m z0 z3 h nx->(∀ (m':Nat) (w0 w3 w4:AV) (h':T Blk) (nx':Pa),m'<m->Inv m' w0 w3 h' nx'->R (jc.fr w0 b c w3 w4) h' nx'=.ok True)->IR.run jc.t9 C N O R (jc.fr z0 b c z3 z4) h nx=.ok True) :
  IR.run jc.t10 C N O K (jc.fr a b c d e) h nx=.ok True:=by
 rw [jc.t10];refine yA (λm tm h nx=>∃ z0 z3 z4,tm=(jc.fr z0 b c z3 z4)/\Inv m z0 z3 h nx) ?_ hm ⟨_,_,_,rfl,hi⟩;rintro m _ h nx R ⟨_,_,_,rfl,q⟩ p;exact step m _ _ _ h nx R q λ_ _ _ _ _ _ x y=>p _ _ _ _ x ⟨_,_,_,rfl,y⟩
theorem jc.rH:IR.run jc.t12 C N O K (jc.fr a b c d e) h nx =
 K (jc.fr a b d d e) h nx:=by kernel_rfl
theorem jc.go:zP tbl N C (.of 211) [a0,a1] h nx K0=IR.run jc.t16 C N (fnO jc.res K0) (zi jc.res K0) (jc.fr a0 a1 .u .u .u) h nx:=yE (F:=jc) (by kernel_rfl) (λ_=>by kernel_rfl) (by kernel_rfl)
theorem jc.ret:zi jc.res K0 (jc.fr a b c d e) h nx=K0 c h nx:=by kernel_rfl
theorem ja.zu:IR.run ja.t0 C N O K (ja.fr a b c d e f g j) h nx =
 xq a h nx λv1 h2 n3=>K (ja.fr a v1 (.str []) d e f g j) h2 n3:=by kernel_rfl
theorem ja.zo:IR.run ja.t1 C N O K (ja.fr a b c d e f g j) h nx =
 zM 1 b λv1=>zG v1 h λv2=>sLen v2 λv3=>za .eql .int v3 (I 0) λv4=>K (ja.fr a b c d e v4 g j) h nx:=by kernel_rfl
theorem ja.yw:IR.run ja.t2 C N O K (ja.fr a b c d e f g j) h nx =
 K (ja.fr a b (.str [48]) d e f g j) h nx:=by kernel_rfl
theorem ja.v5:Arg.ev (.t (.of 5)) ⟨(ja.fr a b c d e f g j),[]⟩=f:=by kernel_rfl
theorem ja.uy:IR.run ja.t6 C N O K (ja.fr a b c d e f g j) h nx =
 zM 1 b λv1=>zG v1 h λv2=>zM 1 b λv3=>zG v3 h λv4=>sLen v4 λv5=>za .sub .int v5 (I 1) λv6=>zJ 1 v2 v6 λv7=>zG v7 h λv8=>C.fn 211 (.of 211) [v8,(I 1)] h nx λv9 hA nA=>K (ja.fr a b c v9 e f g j) hA nA:=by kernel_rfl
theorem ja.fF:IR.run ja.t7 C N O K (ja.fr a b c d e f g j) h nx =
 zM 1 b λv1=>zG v1 h λv2=>sLen v2 λv3=>za .sub .int v3 (I 2) λv4=>K (ja.fr a b c d v4 f g j) h nx:=by kernel_rfl
theorem ja.fU:IR.run ja.t8 C N O K (ja.fr a b c d e f g j) h nx =
 za .geq .int e (I 0) λv1=>K (ja.fr a b c d e f v1 j) h nx:=by kernel_rfl
theorem ja.v6:Arg.ev (.t (.of 6)) ⟨(ja.fr a b c d e f g j),[]⟩=g:=by kernel_rfl
theorem ja.xu:IR.run ja.t11 C N O K (ja.fr a b c d e f g j) h nx =
 zM 1 b λv1=>zG v1 h λv2=>zJ 1 v2 e λv3=>zG v3 h λv4=>C.fn 211 (.of 211) [v4,(I 9)] h nx λv5 h6 n7=>za .add .str d v5 λv8=>K (ja.fr a b c v8 e f g j) h6 n7:=by kernel_rfl
theorem ja.rP:IR.run ja.t13 C N O K (ja.fr a b c d e f g j) h nx =
 za .sub .int e (I 1) λv1=>K (ja.fr a b c d v1 f g j) h nx:=by kernel_rfl
theorem ja.zab (Inv:Nat->AV->AV->T Blk->Pa->Prop) {m:Nat} (hm:m<N) (hi:Inv m d e h nx)
  (step:∀ (m:Nat) (z3 z4 z6:AV) (h:T Blk) (nx:Pa) (R:Ks Prop),Inv m z3 z4 h nx->(∀ (m':Nat) (w3 w4 w6:AV) (h':T Blk) (nx':Pa),m'<m->Inv m' w3 w4 h' nx'->R (ja.fr a b c w3 w4 f w6 j) h' nx'=.ok True)->IR.run ja.t15 C N O R (ja.fr a b c z3 z4 f z6 j) h nx=.ok True) :
  IR.run ja.t16 C N O K (ja.fr a b c d e f g j) h nx=.ok True:=by
 rw [ja.t16];refine yA (λm tm h nx=>∃ z3 z4 z6,tm=(ja.fr a b c z3 z4 f z6 j)/\Inv m z3 z4 h nx) ?_ hm ⟨_,_,_,rfl,hi⟩;rintro m _ h nx R ⟨_,_,_,rfl,q⟩ p;exact step m _ _ _ h nx R q λ_ _ _ _ _ _ x y=>p _ _ _ _ x ⟨_,_,_,rfl,y⟩
theorem ja.sJ:IR.run ja.t19 C N O K (ja.fr a b c d e f g j) h nx =
 zM 0 b λv1=>zG v1 h λv2=>K (ja.fr a b c d e f g v2) h nx:=by kernel_rfl
theorem ja.aI:IR.run ja.t20 C N O K (ja.fr a b c d e f g j) h nx =
 za .add .str (.str [45]) d λv1=>K (ja.fr a b v1 d e f g j) h nx:=by kernel_rfl
theorem ja.v7:Arg.ev (.t (.of 7)) ⟨(ja.fr a b c d e f g j),[]⟩=j:=by kernel_rfl
theorem ja.aV:IR.run ja.t24 C N O K (ja.fr a b c d e f g j) h nx =
 K (ja.fr a b d d e f g j) h nx:=by kernel_rfl
theorem ja.go:zP tbl N C (.of 133) [a0] h nx K0=IR.run ja.t30 C N (fnO ja.res K0) (zi ja.res K0) (ja.fr a0 .u .u .u .u .u .u .u) h nx:=yE (F:=ja) (by kernel_rfl) (λ_=>by kernel_rfl) (by kernel_rfl)
theorem ja.ret:zi ja.res K0 (ja.fr a b c d e f g j) h nx=K0 c h nx:=by kernel_rfl
theorem uh.zu:IR.run uh.t0 C N O K (uh.fr a b c d e) h nx =
 K (uh.fr a (I 0) c d e) h nx:=by kernel_rfl
theorem uh.zo:IR.run uh.t1 C N O K (uh.fr a b c d e) h nx =
 K (uh.fr a b (I 0) d e) h nx:=by kernel_rfl
theorem uh.yw:IR.run uh.t2 C N O K (uh.fr a b c d e) h nx =
 K (uh.fr a b c (I 0) e) h nx:=by kernel_rfl
theorem uh.vk:IR.run uh.t3 C N O K (uh.fr a b c d e) h nx =
 qC a λv1=>za .lss .int d v1 λv2=>K (uh.fr a b c d v2) h nx:=by kernel_rfl
theorem uh.v4:Arg.ev (.t (.of 4)) ⟨(uh.fr a b c d e),[]⟩=e:=by kernel_rfl
theorem uh.uy:IR.run uh.t6 C N O K (uh.fr a b c d e) h nx =
 za .mul .int (I 10) c λv1=>j5 a d λv2=>kT .i64 v2 λv3=>za .add .int v1 v3 λv4=>za .sub .int v4 (I 48) λv5=>K (uh.fr a b v5 d e) h nx:=by kernel_rfl
theorem uh.fU:IR.run uh.t8 C N O K (uh.fr a b c d e) h nx =
 za .add .int d (I 1) λv1=>K (uh.fr a b c v1 e) h nx:=by kernel_rfl
theorem uh.zac (Inv:Nat->AV->AV->T Blk->Pa->Prop) {m:Nat} (hm:m<N) (hi:Inv m c d h nx)
  (step:∀ (m:Nat) (z2 z3 z4:AV) (h:T Blk) (nx:Pa) (R:Ks Prop),Inv m z2 z3 h nx->(∀ (m':Nat) (w2 w3 w4:AV) (h':T Blk) (nx':Pa),m'<m->Inv m' w2 w3 h' nx'->R (uh.fr a b w2 w3 w4) h' nx'=.ok True)->IR.run uh.t10 C N O R (uh.fr a b z2 z3 z4) h nx=.ok True) :
  IR.run uh.t11 C N O K (uh.fr a b c d e) h nx=.ok True:=by
 rw [uh.t11];refine yA (λm tm h nx=>∃ z2 z3 z4,tm=(uh.fr a b z2 z3 z4)/\Inv m z2 z3 h nx) ?_ hm ⟨_,_,_,rfl,hi⟩;rintro m _ h nx R ⟨_,_,_,rfl,q⟩ p;exact step m _ _ _ h nx R q λ_ _ _ _ _ _ x y=>p _ _ _ _ x ⟨_,_,_,rfl,y⟩
theorem uh.rG:IR.run uh.t14 C N O K (uh.fr a b c d e) h nx =
 K (uh.fr a c c d e) h nx:=by kernel_rfl
theorem uh.go:zP tbl N C (.of 209) [a0] h nx K0=IR.run uh.t18 C N (fnO uh.res K0) (zi uh.res K0) (uh.fr a0 .u .u .u .u) h nx:=yE (F:=uh) (by kernel_rfl) (λ_=>by kernel_rfl) (by kernel_rfl)
theorem uh.ret:zi uh.res K0 (uh.fr a b c d e) h nx=K0 b h nx:=by kernel_rfl
theorem jb.zu:IR.run jb.t0 C N O K (jb.fr a b c d e f) h nx =
 yX [(.bool false),.zb] h nx λv1 h2 n3=>K (jb.fr a v1 c d e f) h2 n3:=by kernel_rfl
theorem jb.zo:IR.run jb.t1 C N O K (jb.fr a b c d e f) h nx =
 qC a λv1=>za .gtr .int v1 (I 0) λv2=>sG v2 true (λk=>k a) λv3=>sG v2 true (λk=>j5 v3 (I 0) k) λv4=>sG v2 true (λk=>za .eql .int v4 (.int .u8 45) k) λv5=>yQ v2 v5 (.bool false) λv6=>K (jb.fr a b v6 d e f) h nx:=by kernel_rfl
theorem jb.yw:IR.run jb.t2 C N O K (jb.fr a b c d e f) h nx =
 K (jb.fr a b c d c f) h nx:=by kernel_rfl
theorem jb.vk:IR.run jb.t3 C N O K (jb.fr a b c d e f) h nx =
 gI a (some (I 1)) none λv1=>K (jb.fr v1 b c d e f) h nx:=by kernel_rfl
theorem jb.v4:Arg.ev (.t (.of 4)) ⟨(jb.fr a b c d e f),[]⟩=e:=by kernel_rfl
theorem jb.uy:IR.run jb.t6 C N O K (jb.fr a b c d e f) h nx =
 K (jb.fr a b c .zb e f) h nx:=by kernel_rfl
theorem jb.fF:IR.run jb.t7 C N O K (jb.fr a b c d e f) h nx =
 qC a λv1=>za .gtr .int v1 (I 9) λv2=>K (jb.fr a b c d e v2) h nx:=by kernel_rfl
theorem jb.v5:Arg.ev (.t (.of 5)) ⟨(jb.fr a b c d e f),[]⟩=f:=by kernel_rfl
theorem jb.ny:IR.run jb.t10 C N O K (jb.fr a b c d e f) h nx =
 qC a λv1=>za .sub .int v1 (I 9) λv2=>gI a (some v2) none λv3=>C.fn 209 (.of 209) [v3] h nx λv4 h5 n6=>yS 1 1 [(I 0)] [(0,1,v4)] h5 n6 λv7 h8 n9=>rY 1 8 d v7 h8 n9 λvH hC nD=>K (jb.fr a b c vH e f) hC nD:=by kernel_rfl
theorem jb.xu:IR.run jb.t11 C N O K (jb.fr a b c d e f) h nx =
 qC a λv1=>za .sub .int v1 (I 9) λv2=>gI a none (some v2) λv3=>K (jb.fr v3 b c d e f) h nx:=by kernel_rfl
theorem jb.zfo (Inv:Nat->AV->AV->T Blk->Pa->Prop) {m:Nat} (hm:m<N) (hi:Inv m a d h nx)
  (step:∀ (m:Nat) (z0 z3 z5:AV) (h:T Blk) (nx:Pa) (R:Ks Prop),Inv m z0 z3 h nx->(∀ (m':Nat) (w0 w3 w5:AV) (h':T Blk) (nx':Pa),m'<m->Inv m' w0 w3 h' nx'->R (jb.fr w0 b c w3 e w5) h' nx'=.ok True)->IR.run jb.t14 C N O R (jb.fr z0 b c z3 e z5) h nx=.ok True) :
  IR.run jb.t15 C N O K (jb.fr a b c d e f) h nx=.ok True:=by
 rw [jb.t15];refine yA (λm tm h nx=>∃ z0 z3 z5,tm=(jb.fr z0 b c z3 e z5)/\Inv m z0 z3 h nx) ?_ hm ⟨_,_,_,rfl,hi⟩;rintro m _ h nx R ⟨_,_,_,rfl,q⟩ p;exact step m _ _ _ h nx R q λ_ _ _ _ _ _ x y=>p _ _ _ _ x ⟨_,_,_,rfl,y⟩
theorem jb.tL:IR.run jb.t17 C N O K (jb.fr a b c d e f) h nx =
 C.fn 209 (.of 209) [a] h nx λv1 h2 n3=>yS 1 1 [(I 0)] [(0,1,v1)] h2 n3 λv4 h5 n6=>rY 1 8 d v4 h5 n6 λv7 h8 n9=>C.fn 214 (.of 214) [c,v7] h8 n9 λvH hC nD=>zV 2 b vH hC nD λvE hG nH=>K (jb.fr a b c d e f) hG nH:=by kernel_rfl
theorem jb.go:zP tbl N C (.of 205) [a0] h nx K0=IR.run jb.t23 C N (fnO jb.res K0) (zi jb.res K0) (jb.fr a0 .u .u .u .u .u) h nx:=yE (F:=jb) (by kernel_rfl) (λ_=>by kernel_rfl) (by kernel_rfl)
theorem jb.ret:zi jb.res K0 (jb.fr a b c d e f) h nx=zK 2 b h λv1=>K0 v1 h nx:=by kernel_rfl
theorem jq.zu:IR.run jq.t0 C N O K (jq.fr a b c d e) h nx =
 K (jq.fr a (I 0) c d e) h nx:=by kernel_rfl
theorem jq.zo:IR.run jq.t1 C N O K (jq.fr a b c d e) h nx =
 K (jq.fr a b (I 0) d e) h nx:=by kernel_rfl
theorem jq.yw:IR.run jq.t2 C N O K (jq.fr a b c d e) h nx =
 qC a λv1=>za .lss .int c v1 λv2=>K (jq.fr a b c v2 e) h nx:=by kernel_rfl
theorem jq.v3:Arg.ev (.t (.of 3)) ⟨(jq.fr a b c d e),[]⟩=d:=by kernel_rfl
theorem jq.fZ:IR.run jq.t5 C N O K (jq.fr a b c d e) h nx =
 j5 a c λv1=>za .eql .int v1 (.int .u8 47) λv2=>K (jq.fr a b c d v2) h nx:=by kernel_rfl
theorem jq.uy:IR.run jq.t6 C N O K (jq.fr a b c d e) h nx =
 K (jq.fr a c c d e) h nx:=by kernel_rfl
theorem jq.v4:Arg.ev (.t (.of 4)) ⟨(jq.fr a b c d e),[]⟩=e:=by kernel_rfl
theorem jq.xu:IR.run jq.t11 C N O K (jq.fr a b c d e) h nx =
 za .add .int c (I 1) λv1=>K (jq.fr a b v1 d e) h nx:=by kernel_rfl
theorem jq.zfp (Inv:Nat->AV->T Blk->Pa->Prop) {m:Nat} (hm:m<N) (hi:Inv m c h nx)
  (step:∀ (m:Nat) (z1 z2 z3 z4:AV) (h:T Blk) (nx:Pa) (R:Ks Prop),Inv m z2 h nx->(∀ (m':Nat) (w1 w2 w3 w4:AV) (h':T Blk) (nx':Pa),m'<m->Inv m' w2 h' nx'->R (jq.fr a w1 w2 w3 w4) h' nx'=.ok True)->IR.run jq.t13 C N O R (jq.fr a z1 z2 z3 z4) h nx=.ok True) :
  IR.run jq.t14 C N O K (jq.fr a b c d e) h nx=.ok True:=by
 rw [jq.t14];refine yA (λm tm h nx=>∃ z1 z2 z3 z4,tm=(jq.fr a z1 z2 z3 z4)/\Inv m z2 h nx) ?_ hm ⟨_,_,_,_,rfl,hi⟩;rintro m _ h nx R ⟨_,_,_,_,rfl,q⟩ p;exact step m _ _ _ _ h nx R q λ_ _ _ _ _ _ _ x y=>p _ _ _ _ x ⟨_,_,_,_,rfl,y⟩
theorem jq.tL:IR.run jq.t17 C N O K (jq.fr a b c d e) h nx =
 qC a λv1=>K (jq.fr a v1 c d e) h nx:=by kernel_rfl
theorem jq.go:zP tbl N C (.of 206) [a0] h nx K0=IR.run jq.t20 C N (fnO jq.res K0) (zi jq.res K0) (jq.fr a0 .u .u .u .u) h nx:=yE (F:=jq) (by kernel_rfl) (λ_=>by kernel_rfl) (by kernel_rfl)
theorem jq.ret:zi jq.res K0 (jq.fr a b c d e) h nx=K0 b h nx:=by kernel_rfl
theorem qi.zu:IR.run qi.t0 C N O K (qi.fr a b c d e f) h nx =
 yX [(.bool false),.zb] h nx λv1 h2 n3=>yX [(.bool false),.zb] h2 n3 λv4 h5 n6=>K (qi.fr a v1 v4 d e f) h5 n6:=by kernel_rfl
theorem qi.zo:IR.run qi.t1 C N O K (qi.fr a b c d e f) h nx =
 K (qi.fr a b c a e f) h nx:=by kernel_rfl
theorem qi.yw:IR.run qi.t2 C N O K (qi.fr a b c d e f) h nx =
 C.fn 206 (.of 206) [d] h nx λv1 h2 n3=>K (qi.fr a b c d v1 f) h2 n3:=by kernel_rfl
theorem qi.vk:IR.run qi.t3 C N O K (qi.fr a b c d e f) h nx =
 qC d λv1=>za .eql .int e v1 λv2=>K (qi.fr a b c d e v2) h nx:=by kernel_rfl
theorem qi.ng:IR.run qi.t4 C N O K (qi.fr a b c d e f) h nx =
 C.fn 205 (.of 205) [d] h nx λv1 h2 n3=>C.fn 134 (.of 134) [(I 1)] h2 n3 λv4 h5 n6=>zV 2 b v1 h5 n6 λv7 h8 n9=>zV 2 c v4 h8 n9 λvH hC nD=>K (qi.fr a b c d e f) hC nD:=by kernel_rfl
theorem qi.v5:Arg.ev (.t (.of 5)) ⟨(qi.fr a b c d e f),[]⟩=f:=by kernel_rfl
theorem qi.fU:IR.run qi.t8 C N O K (qi.fr a b c d e f) h nx =
 gI d none (some e) λv1=>za .add .int e (I 1) λv2=>gI d (some v2) none λv3=>C.fn 205 (.of 205) [v1] h nx λv4 h5 n6=>(gI d (some v2) none λvA=>zQ vA v3 ((za .add .int e (I 1) λvB=>zQ vB v2 (zQ e e (zQ d d (C.fn 205 (.of 205) [v3] h5 n6 λv7 h8 n9=>zV 2 b v4 h8 n9 λvH hC nD=>zV 2 c v7 hC nD λvE hG nH=>K (qi.fr a b c d e f) hG nH)))))):=by kernel_rfl
theorem qi.go:zP tbl N C (.of 129) [a0] h nx K0=IR.run qi.t13 C N (fnO qi.res K0) (zi qi.res K0) (qi.fr a0 .u .u .u .u .u) h nx:=yE (F:=qi) (by kernel_rfl) (λ_=>by kernel_rfl) (by kernel_rfl)
theorem qi.ret:zi qi.res K0 (qi.fr a b c d e f) h nx=zK 2 b h λv1=>zK 2 c h λv2=>K0 (.tup [v1,v2]) h nx:=by kernel_rfl
theorem zw.zu:IR.run zw.t0 C N O K (zw.fr a b c d e f g j q s i l p o) h nx =
 K (zw.fr a (I 0) (I 0) (.bool false) e f g j q s i l p o) h nx:=by kernel_rfl
theorem zw.zo:IR.run zw.t1 C N O K (zw.fr a b c d e f g j q s i l p o) h nx =
 K (zw.fr a b c d a f g j q s i l p o) h nx:=by kernel_rfl
theorem zw.yw:IR.run zw.t2 C N O K (zw.fr a b c d e f g j q s i l p o) h nx =
 qC e λv1=>za .gtr .int v1 (I 20) λv2=>K (zw.fr a b c d e f g j q v2 i l p o) h nx:=by kernel_rfl
theorem zw.v9:Arg.ev (.t (.of 9)) ⟨(zw.fr a b c d e f g j q s i l p o),[]⟩=s:=by kernel_rfl
theorem zw.fF:IR.run zw.t7 C N O K (zw.fr a b c d e f g j q s i l p o) h nx =
 qC e λv1=>za .gtr .int v1 (I 0) λv2=>sG v2 true (λk=>k e) λv3=>sG v2 true (λk=>j5 v3 (I 0) k) λv4=>sG v2 true (λk=>za .eql .int v4 (.int .u8 45) k) λv5=>yQ v2 v5 (.bool false) λv6=>K (zw.fr a b c d e v6 g j q s i l p o) h nx:=by kernel_rfl
theorem zw.fU:IR.run zw.t8 C N O K (zw.fr a b c d e f g j q s i l p o) h nx =
 K (zw.fr a b c d e f g j q s f l p o) h nx:=by kernel_rfl
theorem zw.nu:IR.run zw.t9 C N O K (zw.fr a b c d e f g j q s i l p o) h nx =
 gI e (some (I 1)) none λv1=>K (zw.fr a b c d v1 f g j q s i l p o) h nx:=by kernel_rfl
theorem zw.v10:Arg.ev (.t (.of 10)) ⟨(zw.fr a b c d e f g j q s i l p o),[]⟩=i:=by kernel_rfl
theorem zw.rH:IR.run zw.t12 C N O K (zw.fr a b c d e f g j q s i l p o) h nx =
 C.fn 206 (.of 206) [e] h nx λv1 h2 n3=>K (zw.fr a b c d e f v1 j q s i l p o) h2 n3:=by kernel_rfl
theorem zw.rP:IR.run zw.t13 C N O K tm h nx=zZ zw.r8_0 C ⟨tm,[]⟩ h nx (λtm h nx=>K tm.v h nx):=jN ..
theorem zw.zh5:zZ (zw.zfq r) C ⟨(zw.fr a b c d e f g j q s i l p o),[]⟩ h nx Kt =
 za .gtr .int g (I 9) λv1=>sG v1 false (λk=>k e) λv2=>sG v1 false (λk=>qC v2 k) λv3=>sG v1 false (λk=>k g) λv4=>sG v1 false (λk=>za .sub .int v3 v4 k) λv5=>sG v1 false (λk=>za .gtr .int v5 (I 10) k) λv6=>zZ r C ⟨(zw.fr a b c d e f g j q s i l p o),v6::v5::v4::v3::v2::v1::v1::g::[]⟩ h nx Kt:=by kernel_rfl
theorem zw.zh6:zZ (zw.zfr []) C ⟨(zw.fr a b c d e f g j q s i l p o),s0::s1::s2::s3::s4::s5::sT⟩ h nx Kt =
 yQ s5 (.bool true) s0 λv1=>Kt ⟨(zw.fr a b c d e f g j q s i v1 p o),s0::s1::s2::s3::s4::s5::sT⟩ h nx:=by kernel_rfl
theorem zw.v11:Arg.ev (.t (.of 11)) ⟨(zw.fr a b c d e f g j q s i l p o),[]⟩=l:=by kernel_rfl
theorem zw.zad:IR.run zw.t18 C N O K (zw.fr a b c d e f g j q s i l p o) h nx =
 gI e none (some g) λv1=>C.fn 209 (.of 209) [v1] h nx λv2 h3 n4=>K (zw.fr a b c d e f g v2 (I 1) s i l p o) h3 n4:=by kernel_rfl
theorem zw.sJ:IR.run zw.t19 C N O K (zw.fr a b c d e f g j q s i l p o) h nx =
 qC e λv1=>za .lss .int g v1 λv2=>K (zw.fr a b c d e f g j q s i l v2 o) h nx:=by kernel_rfl
theorem zw.aI:IR.run zw.t20 C N O K (zw.fr a b c d e f g j q s i l p o) h nx =
 za .add .int g (I 1) λv1=>gI e (some v1) none λv2=>C.fn 209 (.of 209) [v2] h nx λv3 h4 n5=>K (zw.fr a b c d e f g j v3 s i l p o) h4 n5:=by kernel_rfl
theorem zw.v12:Arg.ev (.t (.of 12)) ⟨(zw.fr a b c d e f g j q s i l p o),[]⟩=p:=by kernel_rfl
theorem zw.zm7:IR.run zw.t23 C N O K (zw.fr a b c d e f g j q s i l p o) h nx =
 K (zw.fr a b c d e f g j q s i l p f) h nx:=by kernel_rfl
theorem zw.aV:IR.run zw.t24 C N O K (zw.fr a b c d e f g j q s i l p o) h nx =
 za .sub .int (I 0) j λv1=>K (zw.fr a b c d e f g v1 q s i l p o) h nx:=by kernel_rfl
theorem zw.v13:Arg.ev (.t (.of 13)) ⟨(zw.fr a b c d e f g j q s i l p o),[]⟩=o:=by kernel_rfl
theorem zw.zjy:IR.run zw.t27 C N O K (zw.fr a b c d e f g j q s i l p o) h nx =
 K (zw.fr a j q (.bool true) e f g j q s i l p o) h nx:=by kernel_rfl
theorem zw.go:zP tbl N C (.of 127) [a0] h nx K0=IR.run zw.t38 C N (fnO zw.res K0) (zi zw.res K0) (zw.fr a0 .u .u .u .u .u .u .u .u .u .u .u .u .u) h nx:=yE (F:=zw) (by kernel_rfl) (λ_=>by kernel_rfl) (by kernel_rfl)
theorem zw.ret:zi zw.res K0 (zw.fr a b c d e f g j q s i l p o) h nx=K0 (.tup [b,c,d]) h nx:=by kernel_rfl
theorem yc.zu:IR.run yc.t0 C N O K (yc.fr a b c d e f g j q) h nx =
 K (yc.fr a b (.str []) d e f g j q) h nx:=by kernel_rfl
theorem yc.zo:IR.run yc.t1 C N O K tm h nx=zZ yc.tJ C ⟨tm,[]⟩ h nx (λtm h nx=>K tm.v h nx):=jN ..
theorem yc.tK:zZ (yc.sK r) C ⟨(yc.fr a b c d e f g j q),[]⟩ h nx Kt =
 za .lss .int a (I (-4000000000000000000)) λv1=>sG v1 false (λk=>k a) λv2=>sG v1 false (λk=>za .gtr .int v2 (I 4000000000000000000) k) λv3=>yQ v1 (.bool true) v3 λv4=>sG v4 false (λk=>k b) λv5=>zZ r C ⟨(yc.fr a b c d e f g j q),v5::v4::v4::v3::v2::v1::v1::a::[]⟩ h nx Kt:=by kernel_rfl
theorem yc.sQ:zZ (yc.sM []) C ⟨(yc.fr a b c d e f g j q),s0::s1::sT⟩ h nx Kt =
 sG s1 false (λk=>za .lss .int s0 (I (-4000000000000000000)) k) λv1=>yQ s1 (.bool true) v1 λv2=>sG v2 false (λk=>k b) λv3=>sG v2 false (λk=>za .gtr .int v3 (I 4000000000000000000) k) λv4=>yQ v2 (.bool true) v4 λv5=>Kt ⟨(yc.fr a b c d e v5 g j q),v4::v3::v2::v2::v1::s0::s1::sT⟩ h nx:=by kernel_rfl
theorem yc.v5:Arg.ev (.t (.of 5)) ⟨(yc.fr a b c d e f g j q),[]⟩=f:=by kernel_rfl
theorem yc.uy:IR.run yc.t6 C N O K (yc.fr a b c d e f g j q) h nx =
 za .lss .int b (I 0) λv1=>K (yc.fr a b c d e f v1 j q) h nx:=by kernel_rfl
theorem yc.v6:Arg.ev (.t (.of 6)) ⟨(yc.fr a b c d e f g j q),[]⟩=g:=by kernel_rfl
theorem yc.ny:IR.run yc.t10 C N O K (yc.fr a b c d e f g j q) h nx =
 za .sub .int (I 0) a λv1=>sMin true a [v1] λv2=>C.fn 210 (.of 210) [v2,b] h nx λv3 h4 n5=>K (yc.fr a b c v3 e f g j q) h4 n5:=by kernel_rfl
theorem yc.xu:IR.run yc.t11 C N O K (yc.fr a b c d e f g j q) h nx =
 za .quo .int a d λv1=>za .quo .int b d λv2=>K (yc.fr v1 v2 c d e f g j q) h nx:=by kernel_rfl
theorem yc.rH:IR.run yc.t12 C N O K (yc.fr a b c d e f g j q) h nx =
 K (yc.fr a b c d (.str []) f g j q) h nx:=by kernel_rfl
theorem yc.rP:IR.run yc.t13 C N O K (yc.fr a b c d e f g j q) h nx =
 za .lss .int a (I 0) λv1=>K (yc.fr a b c d e f g v1 q) h nx:=by kernel_rfl
theorem yc.rG:IR.run yc.t14 C N O K (yc.fr a b c d e f g j q) h nx =
 K (yc.fr a b c d (.str [45]) f g j q) h nx:=by kernel_rfl
theorem yc.v7:Arg.ev (.t (.of 7)) ⟨(yc.fr a b c d e f g j q),[]⟩=j:=by kernel_rfl
theorem yc.tL:IR.run yc.t17 C N O K (yc.fr a b c d e f g j q) h nx =
 za .sub .int (I 0) a λv1=>sMin true a [v1] λv2=>C.fn 211 (.of 211) [v2,(I 1)] h nx λv3 h4 n5=>za .add .str e v3 λv6=>K (yc.fr a b c d v6 f g j q) h4 n5:=by kernel_rfl
theorem yc.zad:IR.run yc.t18 C N O K (yc.fr a b c d e f g j q) h nx =
 za .gtr .int b (I 1) λv1=>K (yc.fr a b c d e f g j v1) h nx:=by kernel_rfl
theorem yc.sJ:IR.run yc.t19 C N O K (yc.fr a b c d e f g j q) h nx =
 za .add .str e (.str [47]) λv1=>C.fn 211 (.of 211) [b,(I 1)] h nx λv2 h3 n4=>za .add .str v1 v2 λv5=>K (yc.fr a b c d v5 f g j q) h3 n4:=by kernel_rfl
theorem yc.v8:Arg.ev (.t (.of 8)) ⟨(yc.fr a b c d e f g j q),[]⟩=q:=by kernel_rfl
theorem yc.tO:IR.run yc.t22 C N O K (yc.fr a b c d e f g j q) h nx =
 K (yc.fr a b e d e f g j q) h nx:=by kernel_rfl
theorem yc.go:zP tbl N C (.of 128) [a0,a1] h nx K0=IR.run yc.t32 C N (fnO yc.res K0) (zi yc.res K0) (yc.fr a0 a1 .u .u .u .u .u .u .u) h nx:=yE (F:=yc) (by kernel_rfl) (λ_=>by kernel_rfl) (by kernel_rfl)
theorem yc.ret:zi yc.res K0 (yc.fr a b c d e f g j q) h nx=K0 c h nx:=by kernel_rfl
theorem mh.zu:IR.run mh.t0 C N O K (mh.fr a b c d) h nx =
 xq a h nx λv1 h2 n3=>yX [(I 0),.zb] h2 n3 λv4 h5 n6=>K (mh.fr a v1 v4 d) h5 n6:=by kernel_rfl
theorem mh.zo:IR.run mh.t1 C N O K (mh.fr a b c d) h nx =
 zM 0 b λv1=>zG v1 h λv2=>za .lss .int v2 (I 0) λv3=>K (mh.fr a b c v3) h nx:=by kernel_rfl
theorem mh.yw:IR.run mh.t2 C N O K (mh.fr a b c d) h nx =
 zK 2 b h λv1=>C.fn 193 (.of 193) [v1] h nx λv2 h3 n4=>zV 2 c v2 h3 n4 λv5 h6 n7=>K (mh.fr a b c d) h6 n7:=by kernel_rfl
theorem mh.v3:Arg.ev (.t (.of 3)) ⟨(mh.fr a b c d),[]⟩=d:=by kernel_rfl
theorem mh.uy:IR.run mh.t6 C N O K (mh.fr a b c d) h nx =
 zK 2 b h λv1=>zV 2 c v1 h nx λv2 h3 n4=>K (mh.fr a b c d) h3 n4:=by kernel_rfl
theorem mh.go:zP tbl N C (.of 299) [a0] h nx K0=IR.run mh.t9 C N (fnO mh.res K0) (zi mh.res K0) (mh.fr a0 .u .u .u) h nx:=yE (F:=mh) (by kernel_rfl) (λ_=>by kernel_rfl) (by kernel_rfl)
theorem mh.ret:zi mh.res K0 (mh.fr a b c d) h nx=zK 2 c h λv1=>K0 v1 h nx:=by kernel_rfl
theorem uo.zu:IR.run uo.t0 C N O K (uo.fr a b c d e f g) h nx =
 xq a h nx λv1 h2 n3=>xq b h2 n3 λv4 h5 n6=>yX [(I 0),.zb] h5 n6 λv7 h8 n9=>K (uo.fr a b v1 v4 v7 f g) h8 n9:=by kernel_rfl
theorem uo.zo:IR.run uo.t1 C N O K (uo.fr a b c d e f g) h nx =
 zK 2 c h λv1=>zK 2 d h λv2=>C.fn 299 (.of 299) [v1] h nx λv3 h4 n5=>(zK 2 d h4 λvC=>zQ vC v2 (C.fn 299 (.of 299) [v2] h4 n5 λv6 h7 n8=>zV 2 c v3 h7 n8 λv9 hA nA=>zV 2 d v6 hA nA λvF hD nE=>K (uo.fr a b c d e f g) hD nE)):=by kernel_rfl
theorem uo.yw:IR.run uo.t2 C N O K (uo.fr a b c d e f g) h nx =
 zK 2 d h λv1=>C.fn 194 (.of 194) [v1] h nx λv2 h3 n4=>za .neq .int v2 (I 0) λv5=>K (uo.fr a b c d e f v5) h3 n4:=by kernel_rfl
theorem uo.v6:Arg.ev (.t (.of 6)) ⟨(uo.fr a b c d e f g),[]⟩=g:=by kernel_rfl
theorem uo.fZ:IR.run uo.t5 C N O K (uo.fr a b c d e f g) h nx =
 zK 2 c h λv1=>zK 2 d h λv2=>C.fn 201 (.of 201) [v1,v2] h nx λv3 h4 n5=>fO 0 v3 λv6=>fO 1 v3 λv7=>yX [(I 0),.zb] h4 n5 λv8 h9 nB=>yX [(I 0),.zb] h9 nB λvG hB nC=>zV 2 v8 v6 hB nC λvD hE nF=>zV 2 vG v7 hE nF λvA hF nG=>K (uo.fr a b c d e vG g) hF nG:=by kernel_rfl
theorem uo.uy:IR.run uo.t6 C N O K (uo.fr a b c d e f g) h nx =
 zK 2 d h λv1=>zK 2 f h λv2=>zV 2 c v1 h nx λv3 h4 n5=>(zK 2 f h4 λv9=>zQ v9 v2 (zV 2 d v2 h4 n5 λv6 h7 n8=>K (uo.fr a b c d e f g) h7 n8)):=by kernel_rfl
theorem uo.zm6 (Inv:Nat->T Blk->Pa->Prop) {m:Nat} (hm:m<N) (hi:Inv m h nx)
  (step:∀ (m:Nat) (z5 z6:AV) (h:T Blk) (nx:Pa) (R:Ks Prop),Inv m h nx->(∀ (m':Nat) (w5 w6:AV) (h':T Blk) (nx':Pa),m'<m->Inv m' h' nx'->R (uo.fr a b c d e w5 w6) h' nx'=.ok True)->IR.run uo.t9 C N O R (uo.fr a b c d e z5 z6) h nx=.ok True) :
  IR.run uo.t10 C N O K (uo.fr a b c d e f g) h nx=.ok True:=by
 rw [uo.t10];refine yA (λm tm h nx=>∃ z5 z6,tm=(uo.fr a b c d e z5 z6)/\Inv m h nx) ?_ hm ⟨_,_,rfl,hi⟩;rintro m _ h nx R ⟨_,_,rfl,q⟩ p;exact step m _ _ h nx R q λ_ _ _ _ _ x y=>p _ _ _ _ x ⟨_,_,rfl,y⟩
theorem uo.rH:IR.run uo.t12 C N O K (uo.fr a b c d e f g) h nx =
 zK 2 c h λv1=>zV 2 e v1 h nx λv2 h3 n4=>K (uo.fr a b c d e f g) h3 n4:=by kernel_rfl
theorem uo.go:zP tbl N C (.of 258) [a0,a1] h nx K0=IR.run uo.t16 C N (fnO uo.res K0) (zi uo.res K0) (uo.fr a0 a1 .u .u .u .u .u) h nx:=yE (F:=uo) (by kernel_rfl) (λ_=>by kernel_rfl) (by kernel_rfl)
theorem uo.ret:zi uo.res K0 (uo.fr a b c d e f g) h nx=zK 2 e h λv1=>K0 v1 h nx:=by kernel_rfl
theorem dz.zu:IR.run dz.t0 C N O K (dz.fr a b c) h nx =
 xq a h nx λv1 h2 n3=>K (dz.fr a v1 (.bool false)) h2 n3:=by kernel_rfl
theorem dz.zo:IR.run dz.t1 C N O K tm h nx=zZ dz.tJ C ⟨tm,[]⟩ h nx (λtm h nx=>K tm.v h nx):=jN ..
theorem dz.tK:zZ (dz.sK r) C ⟨(dz.fr a b c),[]⟩ h nx Kt =
 zM 2 b λv1=>zM 1 v1 λv2=>zG v2 h λv3=>za .eql (.nil .sl) v3 .zb λv4=>sG v4 true (λk=>zM 2 b k) λv5=>sG v4 true (λk=>zM 0 v5 k) λv6=>sG v4 true (λk=>zG v6 h k) λv7=>zZ r C ⟨(dz.fr a b c),v7::v6::v5::v4::v4::v3::v2::v1::[]⟩ h nx Kt:=by kernel_rfl
theorem dz.sQ:zZ (dz.sM []) C ⟨(dz.fr a b c),s0::s1::s2::s3::sT⟩ h nx Kt =
 sG s3 true (λk=>za .eql .int s0 (I 1) k) λv1=>yQ s3 v1 (.bool false) λv2=>Kt ⟨(dz.fr a b v2),v2::v1::s0::s1::s2::s3::sT⟩ h nx:=by kernel_rfl
theorem dz.go:zP tbl N C (.of 122) [a0] h nx K0=IR.run dz.t3 C N (fnO dz.res K0) (zi dz.res K0) (dz.fr a0 .u .u) h nx:=yE (F:=dz) (by kernel_rfl) (λ_=>by kernel_rfl) (by kernel_rfl)
theorem dz.ret:zi dz.res K0 (dz.fr a b c) h nx=K0 c h nx:=by kernel_rfl
theorem nS.zu:IR.run nS.t0 C N O K (nS.fr a b c) h nx =
 xq a h nx λv1 h2 n3=>yX [(I 0),.zb,(I 0),.zb] h2 n3 λv4 h5 n6=>K (nS.fr a v1 v4) h5 n6:=by kernel_rfl
theorem nS.zo:IR.run nS.t1 C N O K (nS.fr a b c) h nx =
 zK 2 b h λv1=>C.fn 187 (.of 187) [(I 1)] h nx λv2 h3 n4=>(zK 2 b h3 λv9=>zQ v9 v1 (uX [(I 0),.zb,(I 0),.zb] [(0,2,v1),(2,2,v2)] λv5=>zV 4 c v5 h3 n4 λv6 h7 n8=>K (nS.fr a b c) h7 n8)):=by kernel_rfl
theorem nS.go:zP tbl N C (.of 186) [a0] h nx K0=IR.run nS.t3 C N (fnO nS.res K0) (zi nS.res K0) (nS.fr a0 .u .u) h nx:=yE (F:=nS) (by kernel_rfl) (λ_=>by kernel_rfl) (by kernel_rfl)
theorem nS.ret:zi nS.res K0 (nS.fr a b c) h nx=zK 4 c h λv1=>K0 v1 h nx:=by kernel_rfl
theorem F96.zu:IR.run F96.t0 C N O K (F96.fr a b) h nx =
 yX [(I 0),.zb,(I 0),.zb] h nx λv1 h2 n3=>K (F96.fr a v1) h2 n3:=by kernel_rfl
theorem F96.zo:IR.run F96.t1 C N O K (F96.fr a b) h nx =
 C.fn 187 (.of 187) [a] h nx λv1 h2 n3=>C.fn 186 (.of 186) [v1] h2 n3 λv4 h5 n6=>zV 4 b v4 h5 n6 λv7 h8 n9=>K (F96.fr a b) h8 n9:=by kernel_rfl
theorem F96.go:zP tbl N C (.of 96) [a0] h nx K0=IR.run F96.t3 C N (fnO F96.res K0) (zi F96.res K0) (F96.fr a0 .u) h nx:=yE (F:=F96) (by kernel_rfl) (λ_=>by kernel_rfl) (by kernel_rfl)
theorem F96.ret:zi F96.res K0 (F96.fr a b) h nx=zK 4 b h λv1=>K0 v1 h nx:=by kernel_rfl
theorem jr.zu:IR.run jr.t0 C N O K (jr.fr a b c d e f g j) h nx =
 xq a h nx λv1 h2 n3=>xq b h2 n3 λv4 h5 n6=>yX [(I 0),.zb,(I 0),.zb] h5 n6 λv7 h8 n9=>K (jr.fr a b v1 v4 v7 f g j) h8 n9:=by kernel_rfl
theorem jr.zo:IR.run jr.t1 C N O K (jr.fr a b c d e f g j) h nx =
 zK 2 d h λv1=>C.fn 194 (.of 194) [v1] h nx λv2 h3 n4=>za .lss .int v2 (I 0) λv5=>K (jr.fr a b c d e f v5 j) h3 n4:=by kernel_rfl
theorem jr.yw:IR.run jr.t2 C N O K (jr.fr a b c d e f g j) h nx =
 zK 2 c h λv1=>zK 2 d h λv2=>C.fn 193 (.of 193) [v1] h nx λv3 h4 n5=>(zK 2 d h4 λvC=>zQ vC v2 (C.fn 193 (.of 193) [v2] h4 n5 λv6 h7 n8=>zV 2 c v3 h7 n8 λv9 hA nA=>zV 2 d v6 hA nA λvF hD nE=>K (jr.fr a b c d e f g j) hD nE)):=by kernel_rfl
theorem jr.v6:Arg.ev (.t (.of 6)) ⟨(jr.fr a b c d e f g j),[]⟩=g:=by kernel_rfl
theorem jr.fZ:IR.run jr.t5 C N O K (jr.fr a b c d e f g j) h nx =
 zM 1 d λv1=>zG v1 h λv2=>za .eql (.nil .sl) v2 .zb λv3=>sG v3 true (λk=>zM 0 d k) λv4=>sG v3 true (λk=>zG v4 h k) λv5=>sG v3 true (λk=>za .eql .int v5 (I 1) k) λv6=>yQ v3 v6 (.bool false) λv7=>K (jr.fr a b c d e f g v7) h nx:=by kernel_rfl
theorem jr.uy:IR.run jr.t6 C N O K (jr.fr a b c d e f g j) h nx =
 zK 2 c h λv1=>zK 2 d h λv2=>uX [(I 0),.zb,(I 0),.zb] [(0,2,v1),(2,2,v2)] λv3=>zV 4 e v3 h nx λv4 h5 n6=>K (jr.fr a b c d e f g j) h5 n6:=by kernel_rfl
theorem jr.v7:Arg.ev (.t (.of 7)) ⟨(jr.fr a b c d e f g j),[]⟩=j:=by kernel_rfl
theorem jr.ny:IR.run jr.t10 C N O K (jr.fr a b c d e f g j) h nx =
 zK 2 c h λv1=>zK 2 d h λv2=>C.fn 258 (.of 258) [v1,v2] h nx λv3 h4 n5=>yX [(I 0),.zb] h4 n5 λv6 h7 n8=>zV 2 v6 v3 h7 n8 λv9 hA nA=>K (jr.fr a b c d e v6 g j) hA nA:=by kernel_rfl
theorem jr.xu:IR.run jr.t11 C N O K (jr.fr a b c d e f g j) h nx =
 zK 2 c h λv1=>zK 2 f h λv2=>zK 2 d h λv3=>zK 2 f h λv4=>C.fn 259 (.of 259) [v1,v2] h nx λv5 h6 n7=>(zK 2 f h6 λvB=>zQ vB v4 ((zK 2 d h6 λvC=>zQ vC v3 (C.fn 259 (.of 259) [v3,v4] h6 n7 λv8 h9 nB=>uX [(I 0),.zb,(I 0),.zb] [(0,2,v5),(2,2,v8)] λvG=>zV 4 e vG h9 nB λvF hD nE=>K (jr.fr a b c d e f g j) hD nE)))):=by kernel_rfl
theorem jr.go:zP tbl N C (.of 195) [a0,a1] h nx K0=IR.run jr.t16 C N (fnO jr.res K0) (zi jr.res K0) (jr.fr a0 a1 .u .u .u .u .u .u) h nx:=yE (F:=jr) (by kernel_rfl) (λ_=>by kernel_rfl) (by kernel_rfl)
theorem jr.ret:zi jr.res K0 (jr.fr a b c d e f g j) h nx=zK 4 e h λv1=>K0 v1 h nx:=by kernel_rfl
theorem nT.zu:IR.run nT.t0 C N O K (nT.fr a b c) h nx =
 xq a h nx λv1 h2 n3=>K (nT.fr a v1 (I 0)) h2 n3:=by kernel_rfl
theorem nT.zo:IR.run nT.t1 C N O K (nT.fr a b c) h nx =
 zM 0 b λv1=>zK 2 v1 h λv2=>C.fn 194 (.of 194) [v2] h nx λv3 h4 n5=>K (nT.fr a b v3) h4 n5:=by kernel_rfl
theorem nT.go:zP tbl N C (.of 110) [a0] h nx K0=IR.run nT.t3 C N (fnO nT.res K0) (zi nT.res K0) (nT.fr a0 .u .u) h nx:=yE (F:=nT) (by kernel_rfl) (λ_=>by kernel_rfl) (by kernel_rfl)
theorem nT.ret:zi nT.res K0 (nT.fr a b c) h nx=K0 c h nx:=by kernel_rfl
theorem nU.zu:IR.run nU.t0 C N O K (nU.fr a b c) h nx =
 xq a h nx λv1 h2 n3=>yX [(I 0),.zb,(I 0),.zb] h2 n3 λv4 h5 n6=>K (nU.fr a v1 v4) h5 n6:=by kernel_rfl
theorem nU.zo:IR.run nU.t1 C N O K (nU.fr a b c) h nx =
 zM 0 b λv1=>zK 2 v1 h λv2=>zM 2 b λv3=>zK 2 v3 h λv4=>C.fn 193 (.of 193) [v2] h nx λv5 h6 n7=>(zK 2 v3 h6 λvE=>zQ vE v4 ((zM 2 b λvF=>zQ vF v3 (uX [(I 0),.zb,(I 0),.zb] [(0,2,v5),(2,2,v4)] λv8=>zV 4 c v8 h6 n7 λv9 hA nA=>K (nU.fr a b c) hA nA)))):=by kernel_rfl
theorem nU.go:zP tbl N C (.of 107) [a0] h nx K0=IR.run nU.t3 C N (fnO nU.res K0) (zi nU.res K0) (nU.fr a0 .u .u) h nx:=yE (F:=nU) (by kernel_rfl) (λ_=>by kernel_rfl) (by kernel_rfl)
theorem nU.ret:zi nU.res K0 (nU.fr a b c) h nx=zK 4 c h λv1=>K0 v1 h nx:=by kernel_rfl
theorem nV.zu:IR.run nV.t0 C N O K (nV.fr a b c) h nx =
 xq a h nx λv1 h2 n3=>yX [(I 0),.zb,(I 0),.zb] h2 n3 λv4 h5 n6=>K (nV.fr a v1 v4) h5 n6:=by kernel_rfl
theorem nV.zo:IR.run nV.t1 C N O K (nV.fr a b c) h nx =
 zM 2 b λv1=>zK 2 v1 h λv2=>zM 0 b λv3=>zK 2 v3 h λv4=>C.fn 195 (.of 195) [v2,v4] h nx λv5 h6 n7=>zV 4 c v5 h6 n7 λv8 h9 nB=>K (nV.fr a b c) h9 nB:=by kernel_rfl
theorem nV.go:zP tbl N C (.of 112) [a0] h nx K0=IR.run nV.t3 C N (fnO nV.res K0) (zi nV.res K0) (nV.fr a0 .u .u) h nx:=yE (F:=nV) (by kernel_rfl) (λ_=>by kernel_rfl) (by kernel_rfl)
theorem nV.ret:zi nV.res K0 (nV.fr a b c) h nx=zK 4 c h λv1=>K0 v1 h nx:=by kernel_rfl
theorem nW.zu:IR.run nW.t0 C N O K (nW.fr a b c d e) h nx =
 xq a h nx λv1 h2 n3=>xq b h2 n3 λv4 h5 n6=>yX [(I 0),.zb,(I 0),.zb] h5 n6 λv7 h8 n9=>K (nW.fr a b v1 v4 v7) h8 n9:=by kernel_rfl
theorem nW.zo:IR.run nW.t1 C N O K (nW.fr a b c d e) h nx =
 zM 0 c λv1=>zK 2 v1 h λv2=>zM 0 d λv3=>zK 2 v3 h λv4=>zM 2 c λv5=>zK 2 v5 h λv6=>zM 2 d λv7=>zK 2 v7 h λv8=>C.fn 198 (.of 198) [v2,v4] h nx λv9 hA nA=>(zK 2 v7 hA λvI=>zQ vI v8 ((zM 2 d λvJ=>zQ vJ v7 ((zK 2 v5 hA λvK=>zQ vK v6 ((zM 2 c λvL=>zQ vL v5 (C.fn 198 (.of 198) [v6,v8] hA nA λvF hD nE=>C.fn 195 (.of 195) [v9,vF] hD nE λvC hH nI=>zV 4 e vC hH nI λvM hI nJ=>K (nW.fr a b c d e) hI nJ)))))))):=by kernel_rfl
theorem nW.go:zP tbl N C (.of 119) [a0,a1] h nx K0=IR.run nW.t3 C N (fnO nW.res K0) (zi nW.res K0) (nW.fr a0 a1 .u .u .u) h nx:=yE (F:=nW) (by kernel_rfl) (λ_=>by kernel_rfl) (by kernel_rfl)
theorem nW.ret:zi nW.res K0 (nW.fr a b c d e) h nx=zK 4 e h λv1=>K0 v1 h nx:=by kernel_rfl
theorem xh.zu:IR.run xh.t0 C N O K (xh.fr a b c d e f) h nx =
 xq a h nx λv1 h2 n3=>xq b h2 n3 λv4 h5 n6=>yX [(I 0),.zb,(I 0),.zb] h5 n6 λv7 h8 n9=>K (xh.fr a b v1 v4 v7 f) h8 n9:=by kernel_rfl
theorem xh.zo:IR.run xh.t1 C N O K (xh.fr a b c d e f) h nx =
 zK 4 c h λv1=>C.fn 122 (.of 122) [v1] h nx λv2 h3 n4=>sG v2 true (λk=>zK 4 d h3 k) λv5=>sGW v2 true (λk=>C.fn 122 (.of 122) [v5] h3 n4 k) h3 n4 λv6 h7 n8=>yQ v2 v6 (.bool false) λv9=>K (xh.fr a b c d e v9) h7 n8:=by kernel_rfl
theorem xh.yw:IR.run xh.t2 C N O K (xh.fr a b c d e f) h nx =
 zM 0 c λv1=>zK 2 v1 h λv2=>zM 0 d λv3=>zK 2 v3 h λv4=>C.fn 197 (.of 197) [v2,v4] h nx λv5 h6 n7=>C.fn 186 (.of 186) [v5] h6 n7 λv8 h9 nB=>zV 4 e v8 h9 nB λvG hB nC=>K (xh.fr a b c d e f) hB nC:=by kernel_rfl
theorem xh.v5:Arg.ev (.t (.of 5)) ⟨(xh.fr a b c d e f),[]⟩=f:=by kernel_rfl
theorem xh.uy:IR.run xh.t6 C N O K (xh.fr a b c d e f) h nx =
 zM 0 c λv1=>zK 2 v1 h λv2=>zM 2 d λv3=>zK 2 v3 h λv4=>zM 0 d λv5=>zK 2 v5 h λv6=>zM 2 c λv7=>zK 2 v7 h λv8=>zM 2 c λv9=>zK 2 v9 h λvH=>zM 2 d λvG=>zK 2 vG h λvF=>C.fn 198 (.of 198) [v2,v4] h nx λvE hG nH=>(zK 2 vG hG λvN=>zQ vN vF ((zM 2 d λvO=>zQ vO vG ((zK 2 v9 hG λvP=>zQ vP vH ((zM 2 c λvQ=>zQ vQ v9 ((zK 2 v7 hG λvR=>zQ vR v8 ((zM 2 c λvS=>zQ vS v7 ((zK 2 v5 hG λvT=>zQ vT v6 ((zM 0 d λvU=>zQ vU v5 (C.fn 198 (.of 198) [v6,v8] hG nH λvB hJ nK=>(zK 2 vG hJ λvV=>zQ vV vF ((zM 2 d λvW=>zQ vW vG ((zK 2 v9 hJ λvX=>zQ vX vH ((zM 2 c λvY=>zQ vY v9 (C.fn 197 (.of 197) [vE,vB] hJ nK λvZ hK nL=>(zK 2 vG hK λv34=>zQ v34 vF ((zM 2 d λv33=>zQ v33 vG ((zK 2 v9 hK λv32=>zQ v32 vH ((zM 2 c λv31=>zQ v31 v9 (C.fn 198 (.of 198) [vH,vF] hK nL λvK hL nM=>C.fn 195 (.of 195) [vZ,vK] hL nM λv25 hM nN=>zV 4 e v25 hM nN λv28 hN nO=>K (xh.fr a b c d e f) hN nO)))))))))))))))))))))))))))))))):=by kernel_rfl
theorem xh.go:zP tbl N C (.of 114) [a0,a1] h nx K0=IR.run xh.t9 C N (fnO xh.res K0) (zi xh.res K0) (xh.fr a0 a1 .u .u .u .u) h nx:=yE (F:=xh) (by kernel_rfl) (λ_=>by kernel_rfl) (by kernel_rfl)
theorem xh.ret:zi xh.res K0 (xh.fr a b c d e f) h nx=zK 4 e h λv1=>K0 v1 h nx:=by kernel_rfl
theorem nX.zu:IR.run nX.t0 C N O K (nX.fr a b c d e) h nx =
 xq a h nx λv1 h2 n3=>xq b h2 n3 λv4 h5 n6=>yX [(I 0),.zb,(I 0),.zb] h5 n6 λv7 h8 n9=>K (nX.fr a b v1 v4 v7) h8 n9:=by kernel_rfl
theorem nX.zo:IR.run nX.t1 C N O K (nX.fr a b c d e) h nx =
 zK 4 c h λv1=>zK 4 d h λv2=>C.fn 107 (.of 107) [v2] h nx λv3 h4 n5=>(zK 4 c h4 λvF=>zQ vF v1 (C.fn 114 (.of 114) [v1,v3] h4 n5 λv6 h7 n8=>zV 4 e v6 h7 n8 λv9 hA nA=>K (nX.fr a b c d e) hA nA)):=by kernel_rfl
theorem nX.go:zP tbl N C (.of 192) [a0,a1] h nx K0=IR.run nX.t3 C N (fnO nX.res K0) (zi nX.res K0) (nX.fr a0 a1 .u .u .u) h nx:=yE (F:=nX) (by kernel_rfl) (λ_=>by kernel_rfl) (by kernel_rfl)
theorem nX.ret:zi nX.res K0 (nX.fr a b c d e) h nx=zK 4 e h λv1=>K0 v1 h nx:=by kernel_rfl
theorem F40.zu:IR.run F40.t0 C N O K (F40.fr a b c d e f g j q s i l p o) h nx =
 K (F40.fr a b (.str []) d e f g j q s i l p o) h nx:=by kernel_rfl
theorem F40.zo:IR.run F40.t1 C N O K (F40.fr a b c d e f g j q s i l p o) h nx =
 C.fn 127 (.of 127) [a] h nx λv1 h2 n3=>fO 0 v1 λv4=>fO 1 v1 λv5=>fO 2 v1 λv6=>K (F40.fr a b c v4 v5 v6 g j q s i l p o) h2 n3:=by kernel_rfl
theorem F40.yw:IR.run F40.t2 C N O K (F40.fr a b c d e f g j q s i l p o) h nx =
 C.fn 127 (.of 127) [b] h nx λv1 h2 n3=>fO 0 v1 λv4=>fO 1 v1 λv5=>fO 2 v1 λv6=>K (F40.fr a b c d e f v4 v5 v6 s i l p o) h2 n3:=by kernel_rfl
theorem F40.vk:IR.run F40.t3 C N O K (F40.fr a b c d e f g j q s i l p o) h nx =
 sG f true (λk=>k q) λv1=>yQ f v1 (.bool false) λv2=>K (F40.fr a b c d e f g j q s i l p v2) h nx:=by kernel_rfl
theorem F40.ng:IR.run F40.t4 C N O K (F40.fr a b c d e f g j q s i l p o) h nx =
 za .mul .int d j λv1=>za .mul .int g e λv2=>za .add .int v1 v2 λv3=>za .mul .int e j λv4=>C.fn 128 (.of 128) [v3,v4] h nx λv5 h6 n7=>K (F40.fr a b v5 d e f g j q s i l p o) h6 n7:=by kernel_rfl
theorem F40.v13:Arg.ev (.t (.of 13)) ⟨(F40.fr a b c d e f g j q s i l p o),[]⟩=o:=by kernel_rfl
theorem F40.go:zP tbl N C (.of 40) [a0,a1] h nx K0=IR.run F40.t17 C N (fnO F40.res K0) (zi F40.res K0) (F40.fr a0 a1 .u .u .u .u .u .u .u .u .u .u .u .u) h nx:=yE (F:=F40) (by kernel_rfl) (λ_=>by kernel_rfl) (by kernel_rfl)
theorem F40.ret:zi F40.res K0 (F40.fr a b c d e f g j q s i l p o) h nx=K0 c h nx:=by kernel_rfl
theorem F41.zu:IR.run F41.t0 C N O K (F41.fr a b c d e f g j q s i l p o) h nx =
 K (F41.fr a b (.str []) d e f g j q s i l p o) h nx:=by kernel_rfl
theorem F41.zo:IR.run F41.t1 C N O K (F41.fr a b c d e f g j q s i l p o) h nx =
 C.fn 127 (.of 127) [a] h nx λv1 h2 n3=>fO 0 v1 λv4=>fO 1 v1 λv5=>fO 2 v1 λv6=>K (F41.fr a b c v4 v5 v6 g j q s i l p o) h2 n3:=by kernel_rfl
theorem F41.yw:IR.run F41.t2 C N O K (F41.fr a b c d e f g j q s i l p o) h nx =
 C.fn 127 (.of 127) [b] h nx λv1 h2 n3=>fO 0 v1 λv4=>fO 1 v1 λv5=>fO 2 v1 λv6=>K (F41.fr a b c d e f v4 v5 v6 s i l p o) h2 n3:=by kernel_rfl
theorem F41.vk:IR.run F41.t3 C N O K (F41.fr a b c d e f g j q s i l p o) h nx =
 sG f true (λk=>k q) λv1=>yQ f v1 (.bool false) λv2=>K (F41.fr a b c d e f g j q s i l p v2) h nx:=by kernel_rfl
theorem F41.ng:IR.run F41.t4 C N O K (F41.fr a b c d e f g j q s i l p o) h nx =
 za .mul .int d g λv1=>za .mul .int e j λv2=>C.fn 128 (.of 128) [v1,v2] h nx λv3 h4 n5=>K (F41.fr a b v3 d e f g j q s i l p o) h4 n5:=by kernel_rfl
theorem F41.v13:Arg.ev (.t (.of 13)) ⟨(F41.fr a b c d e f g j q s i l p o),[]⟩=o:=by kernel_rfl
theorem F41.go:zP tbl N C (.of 41) [a0,a1] h nx K0=IR.run F41.t17 C N (fnO F41.res K0) (zi F41.res K0) (F41.fr a0 a1 .u .u .u .u .u .u .u .u .u .u .u .u) h nx:=yE (F:=F41) (by kernel_rfl) (λ_=>by kernel_rfl) (by kernel_rfl)
theorem F41.ret:zi F41.res K0 (F41.fr a b c d e f g j q s i l p o) h nx=K0 c h nx:=by kernel_rfl
theorem yj.zu:IR.run yj.t0 C N O K (yj.fr a b c d e f g j q s i) h nx =
 xq a h nx λv1 h2 n3=>xq b h2 n3 λv4 h5 n6=>K (yj.fr a b v1 v4 (.str []) f g j q s i) h5 n6:=by kernel_rfl
theorem yj.zo:IR.run yj.t1 C N O K (yj.fr a b c d e f g j q s i) h nx =
 zM 0 d λv1=>zG v1 h λv2=>K (yj.fr a b c d e f g j q v2 i) h nx:=by kernel_rfl
theorem yj.yw:IR.run yj.t2 C N O K (yj.fr a b c d e f g j q s i) h nx =
 zK 2 c h λv1=>zK 2 d h λv2=>C.fn 212 (.of 212) [v1] h nx λv3 h4 n5=>(zK 2 d h4 λvC=>zQ vC v2 (C.fn 212 (.of 212) [v2] h4 n5 λv6 h7 n8=>zV 2 c v3 h7 n8 λv9 hA nA=>zV 2 d v6 hA nA λvF hD nE=>K (yj.fr a b c d e f g j q s i) hD nE)):=by kernel_rfl
theorem yj.v9:Arg.ev (.t (.of 9)) ⟨(yj.fr a b c d e f g j q s i),[]⟩=s:=by kernel_rfl
theorem yj.fZ:IR.run yj.t5 C N O K (yj.fr a b c d e f g j q s i) h nx =
 zM 1 c λv1=>zG v1 h λv2=>zM 1 d λv3=>zG v3 h λv4=>C.fn 208 (.of 208) [v2,v4] h nx λv5 h6 n7=>K (yj.fr a b c d e v5 g j q s i) h6 n7:=by kernel_rfl
theorem yj.uy:IR.run yj.t6 C N O K (yj.fr a b c d e f g j q s i) h nx =
 zM 1 c λv1=>zG v1 h λv2=>C.fn 213 (.of 213) [v2,f] h nx λv3 h4 n5=>fO 0 v3 λv6=>fO 1 v3 λv7=>K (yj.fr a b c d e f v6 j q s i) h4 n5:=by kernel_rfl
theorem yj.fF:IR.run yj.t7 C N O K (yj.fr a b c d e f g j q s i) h nx =
 zM 1 d λv1=>zG v1 h λv2=>C.fn 213 (.of 213) [v2,f] h nx λv3 h4 n5=>fO 0 v3 λv6=>fO 1 v3 λv7=>K (yj.fr a b c d e f g v6 q s i) h4 n5:=by kernel_rfl
theorem yj.fU:IR.run yj.t8 C N O K (yj.fr a b c d e f g j q s i) h nx =
 zM 0 c λv1=>zG v1 h λv2=>C.fn 214 (.of 214) [v2,g] h nx λv3 h4 n5=>C.fn 133 (.of 133) [v3] h4 n5 λv6 h7 n8=>K (yj.fr a b c d e f g j v6 s i) h7 n8:=by kernel_rfl
theorem yj.nu:IR.run yj.t9 C N O K tm h nx=zZ yj.r6_0 C ⟨tm,[]⟩ h nx (λtm h nx=>K tm.v h nx):=jN ..
theorem yj.zd3:zZ (yj.zfs r) C ⟨(yj.fr a b c d e f g j q s i),[]⟩ h nx Kt =
 sLen j λv1=>za .eql .int v1 (I 1) λv2=>sG v2 true (λk=>k j) λv3=>sG v2 true (λk=>zJ 1 v3 (I 0) k) λv4=>sG v2 true (λk=>zG v4 h k) λv5=>sG v2 true (λk=>za .eql .int v5 (I 1) k) λv6=>zZ r C ⟨(yj.fr a b c d e f g j q s i),v6::v5::v4::v3::v2::v2::v1::j::[]⟩ h nx Kt:=by kernel_rfl
theorem yj.oK:zZ (yj.zft []) C ⟨(yj.fr a b c d e f g j q s i),s0::s1::s2::s3::s4::sT⟩ h nx Kt =
 yQ s4 s0 (.bool false) λv1=>Kt ⟨(yj.fr a b c d e f g j q s v1),s0::s1::s2::s3::s4::sT⟩ h nx:=by kernel_rfl
theorem yj.ny:IR.run yj.t10 C N O K (yj.fr a b c d e f g j q s i) h nx =
 K (yj.fr a b c d q f g j q s i) h nx:=by kernel_rfl
theorem yj.v10:Arg.ev (.t (.of 10)) ⟨(yj.fr a b c d e f g j q s i),[]⟩=i:=by kernel_rfl
theorem yj.rG:IR.run yj.t14 C N O K (yj.fr a b c d e f g j q s i) h nx =
 za .add .str q (.str [47]) λv1=>C.fn 214 (.of 214) [(.bool false),j] h nx λv2 h3 n4=>C.fn 133 (.of 133) [v2] h3 n4 λv5 h6 n7=>za .add .str v1 v5 λv8=>K (yj.fr a b c d v8 f g j q s i) h6 n7:=by kernel_rfl
theorem yj.go:zP tbl N C (.of 130) [a0,a1] h nx K0=IR.run yj.t22 C N (fnO yj.res K0) (zi yj.res K0) (yj.fr a0 a1 .u .u .u .u .u .u .u .u .u) h nx:=yE (F:=yj) (by kernel_rfl) (λ_=>by kernel_rfl) (by kernel_rfl)
theorem yj.ret:zi yj.res K0 (yj.fr a b c d e f g j q s i) h nx=K0 e h nx:=by kernel_rfl
theorem F99.zu:IR.run F99.t0 C N O K (F99.fr a b c) h nx =
 K (F99.fr a b (.str [])) h nx:=by kernel_rfl
theorem F99.zo:IR.run F99.t1 C N O K (F99.fr a b c) h nx =
 C.fn 189 (.of 189) [b] h nx λv1 h2 n3=>C.fn 40 (.of 40) [a,v1] h2 n3 λv4 h5 n6=>K (F99.fr a b v4) h5 n6:=by kernel_rfl
theorem F99.go:zP tbl N C (.of 99) [a0,a1] h nx K0=IR.run F99.t3 C N (fnO F99.res K0) (zi F99.res K0) (F99.fr a0 a1 .u) h nx:=yE (F:=F99) (by kernel_rfl) (λ_=>by kernel_rfl) (by kernel_rfl)
theorem F99.ret:zi F99.res K0 (F99.fr a b c) h nx=K0 c h nx:=by kernel_rfl
theorem qf.zu:IR.run qf.t0 C N O K (qf.fr a b c d) h nx =
 K (qf.fr a (.str []) c d) h nx:=by kernel_rfl
theorem qf.zo:IR.run qf.t1 C N O K (qf.fr a b c d) h nx =
 C.fn 255 (.of 255) [a] h nx λv1 h2 n3=>za .lss .int v1 (I 0) λv4=>K (qf.fr a b v4 d) h2 n3:=by kernel_rfl
theorem qf.yw:IR.run qf.t2 C N O K (qf.fr a b c d) h nx =
 gI a (some (I 1)) none λv1=>K (qf.fr a v1 c d) h nx:=by kernel_rfl
theorem qf.v2:Arg.ev (.t (.of 2)) ⟨(qf.fr a b c d),[]⟩=c:=by kernel_rfl
theorem qf.uy:IR.run qf.t6 C N O K (qf.fr a b c d) h nx =
 C.fn 255 (.of 255) [a] h nx λv1 h2 n3=>za .eql .int v1 (I 0) λv4=>K (qf.fr a b c v4) h2 n3:=by kernel_rfl
theorem qf.fF:IR.run qf.t7 C N O K (qf.fr a b c d) h nx =
 K (qf.fr a a c d) h nx:=by kernel_rfl
theorem qf.v3:Arg.ev (.t (.of 3)) ⟨(qf.fr a b c d),[]⟩=d:=by kernel_rfl
theorem qf.xu:IR.run qf.t11 C N O K (qf.fr a b c d) h nx =
 za .add .str (.str [45]) a λv1=>K (qf.fr a v1 c d) h nx:=by kernel_rfl
theorem qf.go:zP tbl N C (.of 189) [a0] h nx K0=IR.run qf.t15 C N (fnO qf.res K0) (zi qf.res K0) (qf.fr a0 .u .u .u) h nx:=yE (F:=qf) (by kernel_rfl) (λ_=>by kernel_rfl) (by kernel_rfl)
theorem qf.ret:zi qf.res K0 (qf.fr a b c d) h nx=K0 b h nx:=by kernel_rfl
theorem fP.zu:IR.run fP.t0 C N O K (fP.fr a b c d) h nx =
 K (fP.fr a (.str []) c d) h nx:=by kernel_rfl
theorem fP.zo:IR.run fP.t1 C N O K (fP.fr a b c d) h nx =
 C.fn 129 (.of 129) [a] h nx λv1 h2 n3=>fO 0 v1 λv4=>fO 1 v1 λv5=>yX [(.bool false),.zb] h2 n3 λv6 h7 n8=>yX [(.bool false),.zb] h7 n8 λv9 hA nA=>zV 2 v6 v4 hA nA λvF hD nE=>zV 2 v9 v5 hD nE λvC hH nI=>K (fP.fr a b v6 v9) hH nI:=by kernel_rfl
theorem fP.yw:IR.run fP.t2 C N O K (fP.fr a b c d) h nx =
 zK 2 d h λv1=>zK 2 c h λv2=>C.fn 130 (.of 130) [v1,v2] h nx λv3 h4 n5=>K (fP.fr a v3 c d) h4 n5:=by kernel_rfl
theorem fP.go:zP tbl N C (.of 203) [a0] h nx K0=IR.run fP.t5 C N (fnO fP.res K0) (zi fP.res K0) (fP.fr a0 .u .u .u) h nx:=yE (F:=fP) (by kernel_rfl) (λ_=>by kernel_rfl) (by kernel_rfl)
theorem fP.ret:zi fP.res K0 (fP.fr a b c d) h nx=K0 b h nx:=by kernel_rfl
theorem qa.zu:IR.run qa.t0 C N O K (qa.fr a b c d) h nx =
 K (qa.fr a (I 0) c d) h nx:=by kernel_rfl
theorem qa.zo:IR.run qa.t1 C N O K (qa.fr a b c d) h nx =
 za .eql .str a (.str [48]) λv1=>K (qa.fr a b v1 d) h nx:=by kernel_rfl
theorem qa.yw:IR.run qa.t2 C N O K (qa.fr a b c d) h nx =
 K (qa.fr a (I 0) c d) h nx:=by kernel_rfl
theorem qa.v2:Arg.ev (.t (.of 2)) ⟨(qa.fr a b c d),[]⟩=c:=by kernel_rfl
theorem qa.uy:IR.run qa.t6 C N O K (qa.fr a b c d) h nx =
 qC a λv1=>za .gtr .int v1 (I 0) λv2=>sG v2 true (λk=>k a) λv3=>sG v2 true (λk=>j5 v3 (I 0) k) λv4=>sG v2 true (λk=>za .eql .int v4 (.int .u8 45) k) λv5=>yQ v2 v5 (.bool false) λv6=>K (qa.fr a b c v6) h nx:=by kernel_rfl
theorem qa.fF:IR.run qa.t7 C N O K (qa.fr a b c d) h nx =
 K (qa.fr a (I (-1)) c d) h nx:=by kernel_rfl
theorem qa.v3:Arg.ev (.t (.of 3)) ⟨(qa.fr a b c d),[]⟩=d:=by kernel_rfl
theorem qa.xu:IR.run qa.t11 C N O K (qa.fr a b c d) h nx =
 K (qa.fr a (I 1) c d) h nx:=by kernel_rfl
theorem qa.go:zP tbl N C (.of 255) [a0] h nx K0=IR.run qa.t15 C N (fnO qa.res K0) (zi qa.res K0) (qa.fr a0 .u .u .u) h nx:=yE (F:=qa) (by kernel_rfl) (λ_=>by kernel_rfl) (by kernel_rfl)
theorem qa.ret:zi qa.res K0 (qa.fr a b c d) h nx=K0 b h nx:=by kernel_rfl
theorem F39.zu:IR.run F39.t0 C N O K (F39.fr a b) h nx =
 K (F39.fr a (.bool false)) h nx:=by kernel_rfl
theorem F39.zo:IR.run F39.t1 C N O K (F39.fr a b) h nx =
 za .eql .str a (.str [48]) λv1=>K (F39.fr a v1) h nx:=by kernel_rfl
theorem F39.go:zP tbl N C (.of 39) [a0] h nx K0=IR.run F39.t3 C N (fnO F39.res K0) (zi F39.res K0) (F39.fr a0 .u) h nx:=yE (F:=F39) (by kernel_rfl) (λ_=>by kernel_rfl) (by kernel_rfl)
theorem F39.ret:zi F39.res K0 (F39.fr a b) h nx=K0 b h nx:=by kernel_rfl
theorem uj.zu:IR.run uj.t0 C N O K (uj.fr a b c d e) h nx =
 K (uj.fr a .zb c d e) h nx:=by kernel_rfl
theorem uj.zo:IR.run uj.t1 C N O K (uj.fr a b c d e) h nx =
 K (uj.fr a b .zb d e) h nx:=by kernel_rfl
theorem uj.yw:IR.run uj.t2 C N O K (uj.fr a b c d e) h nx =
 K (uj.fr a b c (I 0) e) h nx:=by kernel_rfl
theorem uj.vk:IR.run uj.t3 C N O K (uj.fr a b c d e) h nx =
 sLen a λv1=>za .lss .int d v1 λv2=>K (uj.fr a b c d v2) h nx:=by kernel_rfl
theorem uj.v4:Arg.ev (.t (.of 4)) ⟨(uj.fr a b c d e),[]⟩=e:=by kernel_rfl
theorem uj.uy:IR.run uj.t6 C N O K (uj.fr a b c d e) h nx =
 yS 1 0 [(.str [])] [] h nx λv1 h2 n3=>zJ 1 a d λv4=>zG v4 h2 λv5=>rY 1 16 v1 v5 h2 n3 λv6 h7 n8=>yS 1 1 [.zb] [(0,1,v6)] h7 n8 λv9 hA nA=>rY 1 24 c v9 hA nA λvF hD nE=>K (uj.fr a b vF d e) hD nE:=by kernel_rfl
theorem uj.fU:IR.run uj.t8 C N O K (uj.fr a b c d e) h nx =
 za .add .int d (I 1) λv1=>K (uj.fr a b c v1 e) h nx:=by kernel_rfl
theorem uj.zac (Inv:Nat->AV->AV->T Blk->Pa->Prop) {m:Nat} (hm:m<N) (hi:Inv m c d h nx)
  (step:∀ (m:Nat) (z2 z3 z4:AV) (h:T Blk) (nx:Pa) (R:Ks Prop),Inv m z2 z3 h nx->(∀ (m':Nat) (w2 w3 w4:AV) (h':T Blk) (nx':Pa),m'<m->Inv m' w2 w3 h' nx'->R (uj.fr a b w2 w3 w4) h' nx'=.ok True)->IR.run uj.t10 C N O R (uj.fr a b z2 z3 z4) h nx=.ok True) :
  IR.run uj.t11 C N O K (uj.fr a b c d e) h nx=.ok True:=by
 rw [uj.t11];refine yA (λm tm h nx=>∃ z2 z3 z4,tm=(uj.fr a b z2 z3 z4)/\Inv m z2 z3 h nx) ?_ hm ⟨_,_,_,rfl,hi⟩;rintro m _ h nx R ⟨_,_,_,rfl,q⟩ p;exact step m _ _ _ h nx R q λ_ _ _ _ _ _ x y=>p _ _ _ _ x ⟨_,_,_,rfl,y⟩
theorem uj.rG:IR.run uj.t14 C N O K (uj.fr a b c d e) h nx =
 K (uj.fr a c c d e) h nx:=by kernel_rfl
theorem uj.go:zP tbl N C (.of 256) [a0] h nx K0=IR.run uj.t18 C N (fnO uj.res K0) (zi uj.res K0) (uj.fr a0 .u .u .u .u) h nx:=yE (F:=uj) (by kernel_rfl) (λ_=>by kernel_rfl) (by kernel_rfl)
theorem uj.ret:zi uj.res K0 (uj.fr a b c d e) h nx=K0 b h nx:=by kernel_rfl
theorem ve.zu:IR.run ve.t0 C N O K (ve.fr a b c) h nx =
 K (ve.fr a (I 0) c) h nx:=by kernel_rfl
theorem ve.zo:IR.run ve.t1 C N O K (ve.fr a b c) h nx =
 sLen a λv1=>za .eql .int v1 (I 0) λv2=>K (ve.fr a b v2) h nx:=by kernel_rfl
theorem ve.yw:IR.run ve.t2 C N O K (ve.fr a b c) h nx =
 K (ve.fr a (I 0) c) h nx:=by kernel_rfl
theorem ve.v2:Arg.ev (.t (.of 2)) ⟨(ve.fr a b c),[]⟩=c:=by kernel_rfl
theorem ve.uy:IR.run ve.t6 C N O K (ve.fr a b c) h nx =
 zJ 1 a (I 0) λv1=>zG v1 h λv2=>sLen v2 λv3=>K (ve.fr a v3 c) h nx:=by kernel_rfl
theorem ve.go:zP tbl N C (.of 196) [a0] h nx K0=IR.run ve.t9 C N (fnO ve.res K0) (zi ve.res K0) (ve.fr a0 .u .u) h nx:=yE (F:=ve) (by kernel_rfl) (λ_=>by kernel_rfl) (by kernel_rfl)
theorem ve.ret:zi ve.res K0 (ve.fr a b c) h nx=K0 b h nx:=by kernel_rfl
theorem F29.zu:IR.run F29.t0 C N O K (F29.fr a b c d e f g) h nx =
 K (F29.fr a b (.bool false) d e f g) h nx:=by kernel_rfl
theorem F29.zo:IR.run F29.t1 C N O K (F29.fr a b c d e f g) h nx =
 sLen a λv1=>sLen b λv2=>za .neq .int v1 v2 λv3=>K (F29.fr a b c d v3 f g) h nx:=by kernel_rfl
theorem F29.yw:IR.run F29.t2 C N O K (F29.fr a b c d e f g) h nx =
 K (F29.fr a b (.bool false) d e f g) h nx:=by kernel_rfl
theorem F29.v4:Arg.ev (.t (.of 4)) ⟨(F29.fr a b c d e f g),[]⟩=e:=by kernel_rfl
theorem F29.uy:IR.run F29.t6 C N O K (F29.fr a b c d e f g) h nx =
 K (F29.fr a b c (I 0) e f g) h nx:=by kernel_rfl
theorem F29.fF:IR.run F29.t7 C N O K (F29.fr a b c d e f g) h nx =
 sLen a λv1=>za .lss .int d v1 λv2=>K (F29.fr a b c d e v2 g) h nx:=by kernel_rfl
theorem F29.v5:Arg.ev (.t (.of 5)) ⟨(F29.fr a b c d e f g),[]⟩=f:=by kernel_rfl
theorem F29.ny:IR.run F29.t10 C N O K (F29.fr a b c d e f g) h nx =
 zJ 1 a d λv1=>zG v1 h λv2=>zJ 1 b d λv3=>zG v3 h λv4=>za .neq .str v2 v4 λv5=>K (F29.fr a b c d e f v5) h nx:=by kernel_rfl
theorem F29.xu:IR.run F29.t11 C N O K (F29.fr a b c d e f g) h nx =
 K (F29.fr a b (.bool false) d e f g) h nx:=by kernel_rfl
theorem F29.v6:Arg.ev (.t (.of 6)) ⟨(F29.fr a b c d e f g),[]⟩=g:=by kernel_rfl
theorem F29.sw:IR.run F29.t16 C N O K (F29.fr a b c d e f g) h nx =
 za .add .int d (I 1) λv1=>K (F29.fr a b c v1 e f g) h nx:=by kernel_rfl
theorem F29.zfu (Inv:Nat->AV->T Blk->Pa->Prop) {m:Nat} (hm:m<N) (hi:Inv m d h nx)
  (step:∀ (m:Nat) (z2 z3 z5 z6:AV) (h:T Blk) (nx:Pa) (R:Ks Prop),Inv m z3 h nx->(∀ (m':Nat) (w2 w3 w5 w6:AV) (h':T Blk) (nx':Pa),m'<m->Inv m' w3 h' nx'->R (F29.fr a b w2 w3 e w5 w6) h' nx'=.ok True)->IR.run F29.t18 C N O R (F29.fr a b z2 z3 e z5 z6) h nx=.ok True) :
  IR.run F29.t19 C N O K (F29.fr a b c d e f g) h nx=.ok True:=by
 rw [F29.t19];refine yA (λm tm h nx=>∃ z2 z3 z5 z6,tm=(F29.fr a b z2 z3 e z5 z6)/\Inv m z3 h nx) ?_ hm ⟨_,_,_,_,rfl,hi⟩;rintro m _ h nx R ⟨_,_,_,_,rfl,q⟩ p;exact step m _ _ _ _ h nx R q λ_ _ _ _ _ _ _ x y=>p _ _ _ _ x ⟨_,_,_,_,rfl,y⟩
theorem F29.tO:IR.run F29.t22 C N O K (F29.fr a b c d e f g) h nx =
 K (F29.fr a b (.bool true) d e f g) h nx:=by kernel_rfl
theorem F29.go:zP tbl N C (.of 29) [a0,a1] h nx K0=IR.run F29.t26 C N (fnO F29.res K0) (zi F29.res K0) (F29.fr a0 a1 .u .u .u .u .u) h nx:=yE (F:=F29) (by kernel_rfl) (λ_=>by kernel_rfl) (by kernel_rfl)
theorem F29.ret:zi F29.res K0 (F29.fr a b c d e f g) h nx=K0 c h nx:=by kernel_rfl
theorem F25.zu:IR.run F25.t0 C N O K (F25.fr a b c d e f g) h nx =
 K (F25.fr a b (.bool false) d e f g) h nx:=by kernel_rfl
theorem F25.zo:IR.run F25.t1 C N O K (F25.fr a b c d e f g) h nx =
 sLen a λv1=>sLen b λv2=>za .neq .int v1 v2 λv3=>K (F25.fr a b c d v3 f g) h nx:=by kernel_rfl
theorem F25.yw:IR.run F25.t2 C N O K (F25.fr a b c d e f g) h nx =
 K (F25.fr a b (.bool false) d e f g) h nx:=by kernel_rfl
theorem F25.v4:Arg.ev (.t (.of 4)) ⟨(F25.fr a b c d e f g),[]⟩=e:=by kernel_rfl
theorem F25.uy:IR.run F25.t6 C N O K (F25.fr a b c d e f g) h nx =
 K (F25.fr a b c (I 0) e f g) h nx:=by kernel_rfl
theorem F25.fF:IR.run F25.t7 C N O K (F25.fr a b c d e f g) h nx =
 sLen a λv1=>za .lss .int d v1 λv2=>K (F25.fr a b c d e v2 g) h nx:=by kernel_rfl
theorem F25.v5:Arg.ev (.t (.of 5)) ⟨(F25.fr a b c d e f g),[]⟩=f:=by kernel_rfl
theorem F25.ny:IR.run F25.t10 C N O K (F25.fr a b c d e f g) h nx =
 zJ 1 a d λv1=>zG v1 h λv2=>zJ 1 b d λv3=>zG v3 h λv4=>C.fn 29 (.of 29) [v2,v4] h nx λv5 h6 n7=>sNot v5 λv8=>K (F25.fr a b c d e f v8) h6 n7:=by kernel_rfl
theorem F25.xu:IR.run F25.t11 C N O K (F25.fr a b c d e f g) h nx =
 K (F25.fr a b (.bool false) d e f g) h nx:=by kernel_rfl
theorem F25.v6:Arg.ev (.t (.of 6)) ⟨(F25.fr a b c d e f g),[]⟩=g:=by kernel_rfl
theorem F25.sw:IR.run F25.t16 C N O K (F25.fr a b c d e f g) h nx =
 za .add .int d (I 1) λv1=>K (F25.fr a b c v1 e f g) h nx:=by kernel_rfl
theorem F25.zfu (Inv:Nat->AV->T Blk->Pa->Prop) {m:Nat} (hm:m<N) (hi:Inv m d h nx)
  (step:∀ (m:Nat) (z2 z3 z5 z6:AV) (h:T Blk) (nx:Pa) (R:Ks Prop),Inv m z3 h nx->(∀ (m':Nat) (w2 w3 w5 w6:AV) (h':T Blk) (nx':Pa),m'<m->Inv m' w3 h' nx'->R (F25.fr a b w2 w3 e w5 w6) h' nx'=.ok True)->IR.run F25.t18 C N O R (F25.fr a b z2 z3 e z5 z6) h nx=.ok True) :
  IR.run F25.t19 C N O K (F25.fr a b c d e f g) h nx=.ok True:=by
 rw [F25.t19];refine yA (λm tm h nx=>∃ z2 z3 z5 z6,tm=(F25.fr a b z2 z3 e z5 z6)/\Inv m z3 h nx) ?_ hm ⟨_,_,_,_,rfl,hi⟩;rintro m _ h nx R ⟨_,_,_,_,rfl,q⟩ p;exact step m _ _ _ _ h nx R q λ_ _ _ _ _ _ _ x y=>p _ _ _ _ x ⟨_,_,_,_,rfl,y⟩
theorem F25.tO:IR.run F25.t22 C N O K (F25.fr a b c d e f g) h nx =
 K (F25.fr a b (.bool true) d e f g) h nx:=by kernel_rfl
theorem F25.go:zP tbl N C (.of 25) [a0,a1] h nx K0=IR.run F25.t26 C N (fnO F25.res K0) (zi F25.res K0) (F25.fr a0 a1 .u .u .u .u .u) h nx:=yE (F:=F25) (by kernel_rfl) (λ_=>by kernel_rfl) (by kernel_rfl)
theorem F25.ret:zi F25.res K0 (F25.fr a b c d e f g) h nx=K0 c h nx:=by kernel_rfl
theorem ze.zu:IR.run ze.t0 C N O K (ze.fr a b c d e f g j q s i l p o u v w y z) h nx =
 K (ze.fr a .zb .zb d e f g j q s i l p o u v w y z) h nx:=by kernel_rfl
theorem ze.zo:IR.run ze.t1 C N O K (ze.fr a b c d e f g j q s i l p o u v w y z) h nx =
 C.fn 256 (.of 256) [a] h nx λv1 h2 n3=>K (ze.fr v1 b c d e f g j q s i l p o u v w y z) h2 n3:=by kernel_rfl
theorem ze.yw:IR.run ze.t2 C N O K (ze.fr a b c d e f g j q s i l p o u v w y z) h nx =
 K (ze.fr a b c .zb e f g j q s i l p o u v w y z) h nx:=by kernel_rfl
theorem ze.vk:IR.run ze.t3 C N O K (ze.fr a b c d e f g j q s i l p o u v w y z) h nx =
 K (ze.fr a b c d (I 0) f g j q s i l p o u v w y z) h nx:=by kernel_rfl
theorem ze.ng:IR.run ze.t4 C N O K tm h nx=zZ ze.r4_0 C ⟨tm,[]⟩ h nx (λtm h nx=>K tm.v h nx):=jN ..
theorem ze.zd4:zZ (ze.zfv r) C ⟨(ze.fr a b c d e f g j q s i l p o u v w y z),[]⟩ h nx Kt =
 C.fn 196 (.of 196) [a] h nx λv1 h2 n3=>zZ r C ⟨(ze.fr a b c d e f g j q s i l p o u v w y z),v1::a::e::[]⟩ h2 n3 Kt:=by kernel_rfl
theorem ze.zd5:zZ (ze.zfw []) C ⟨(ze.fr a b c d e f g j q s i l p o u v w y z),s0::s1::s2::[]⟩ h nx Kt =
 za .lss .int s2 s0 λv1=>sG v1 true (λk=>k d) λv2=>sG v1 true (λk=>sLen v2 k) λv3=>sG v1 true (λk=>k a) λv4=>sG v1 true (λk=>sLen v4 k) λv5=>sG v1 true (λk=>za .lss .int v3 v5 k) λv6=>yQ v1 v6 (.bool false) λv7=>Kt ⟨(ze.fr a b c d e f g j q s i l v7 o u v w y z),v6::v5::v4::v3::v2::v1::v1::s0::s1::s2::[]⟩ h nx:=by kernel_rfl
theorem ze.v12:Arg.ev (.t (.of 12)) ⟨(ze.fr a b c d e f g j q s i l p o u v w y z),[]⟩=p:=by kernel_rfl
theorem ze.fF:IR.run ze.t7 C N O K (ze.fr a b c d e f g j q s i l p o u v w y z) h nx =
 sLen d λv1=>K (ze.fr a b c d e v1 g j q s i l p o u v w y z) h nx:=by kernel_rfl
theorem ze.fU:IR.run ze.t8 C N O K tm h nx=zZ ze.r6_0 C ⟨tm,[]⟩ h nx (λtm h nx=>K tm.v h nx):=jN ..
theorem ze.zd3:zZ (ze.zfs r) C ⟨(ze.fr a b c d e f g j q s i l p o u v w y z),[]⟩ h nx Kt =
 sLen a λv1=>za .lss .int f v1 λv2=>sG v2 true (λk=>k a) λv3=>sG v2 true (λk=>k f) λv4=>sG v2 true (λk=>zJ 1 v3 v4 k) λv5=>zZ r C ⟨(ze.fr a b c d e f g j q s i l p o u v w y z),v5::v4::v3::v2::v2::v1::a::f::[]⟩ h nx Kt:=by kernel_rfl
theorem ze.oK:zZ (ze.zft r) C ⟨(ze.fr a b c d e f g j q s i l p o u v w y z),s0::s1::s2::s3::sT⟩ h nx Kt =
 sG s3 true (λk=>zG s0 h k) λv1=>sG s3 true (λk=>k e) λv2=>sG s3 true (λk=>zJ 1 v1 v2 k) λv3=>sG s3 true (λk=>zG v3 h k) λv4=>sGW s3 true (λk=>C.fn 39 (.of 39) [v4] h nx k) h nx λv5 h6 n7=>zZ r C ⟨(ze.fr a b c d e f g j q s i l p o u v w y z),v5::v4::v3::v2::v1::s0::s1::s2::s3::sT⟩ h6 n7 Kt:=by kernel_rfl
theorem ze.zm8:zZ (ze.zuy []) C ⟨(ze.fr a b c d e f g j q s i l p o u v w y z),s0::s1::s2::s3::s4::s5::s6::s7::s8::sT⟩ h nx Kt =
 yQ s8 s0 (.bool false) λv1=>Kt ⟨(ze.fr a b c d e f g j q s i l p v1 u v w y z),s0::s1::s2::s3::s4::s5::s6::s7::s8::sT⟩ h nx:=by kernel_rfl
theorem ze.v13:Arg.ev (.t (.of 13)) ⟨(ze.fr a b c d e f g j q s i l p o u v w y z),[]⟩=o:=by kernel_rfl
theorem ze.xu:IR.run ze.t11 C N O K (ze.fr a b c d e f g j q s i l p o u v w y z) h nx =
 za .add .int f (I 1) λv1=>K (ze.fr a b c d e v1 g j q s i l p o u v w y z) h nx:=by kernel_rfl
theorem ze.zfp (Inv:Nat->AV->T Blk->Pa->Prop) {m:Nat} (hm:m<N) (hi:Inv m f h nx)
  (step:∀ (m:Nat) (z5 zA:AV) (h:T Blk) (nx:Pa) (R:Ks Prop),Inv m z5 h nx->(∀ (m':Nat) (w5 wA:AV) (h':T Blk) (nx':Pa),m'<m->Inv m' w5 h' nx'->R (ze.fr a b c d e w5 g j q s i l p wA u v w y z) h' nx'=.ok True)->IR.run ze.t13 C N O R (ze.fr a b c d e z5 g j q s i l p zA u v w y z) h nx=.ok True) :
  IR.run ze.t14 C N O K (ze.fr a b c d e f g j q s i l p o u v w y z) h nx=.ok True:=by
 rw [ze.t14];refine yA (λm tm h nx=>∃ z5 zA,tm=(ze.fr a b c d e z5 g j q s i l p zA u v w y z)/\Inv m z5 h nx) ?_ hm ⟨_,_,rfl,hi⟩;rintro m _ h nx R ⟨_,_,rfl,q⟩ p;exact step m _ _ h nx R q λ_ _ _ _ _ x y=>p _ _ _ _ x ⟨_,_,rfl,y⟩
theorem ze.sw:IR.run ze.t16 C N O K (ze.fr a b c d e f g j q s i l p o u v w y z) h nx =
 sLen a λv1=>za .eql .int f v1 λv2=>K (ze.fr a b c d e f g j q s i l p o v2 v w y z) h nx:=by kernel_rfl
theorem ze.v14:Arg.ev (.t (.of 14)) ⟨(ze.fr a b c d e f g j q s i l p o u v w y z),[]⟩=u:=by kernel_rfl
theorem ze.sJ:IR.run ze.t19 C N O K (ze.fr a b c d e f g j q s i l p o u v w y z) h nx =
 sLen d λv1=>K (ze.fr a b c d e f v1 j q s i l p o u v w y z) h nx:=by kernel_rfl
theorem ze.aI:IR.run ze.t20 C N O K (ze.fr a b c d e f g j q s i l p o u v w y z) h nx =
 zJ 1 a g λv1=>zG v1 h λv2=>zJ 1 a f λv3=>zG v3 h λv4=>zJ 1 a f λv5=>zV 1 v5 v2 h nx λv6 h7 n8=>zQ g g (zQ a a (zJ 1 a g λv9=>zV 1 v9 v4 h7 n8 λvH hC nD=>K (ze.fr a b c d e f g j q s i l p o u v w y z) hC nD)):=by kernel_rfl
theorem ze.zaa:IR.run ze.t21 C N O K (ze.fr a b c d e f g j q s i l p o u v w y z) h nx =
 zJ 1 a g λv1=>zG v1 h λv2=>zJ 1 v2 e λv3=>zG v3 h λv4=>C.fn 203 (.of 203) [v4] h nx λv5 h6 n7=>K (ze.fr a b c d e f g v5 q s i l p o u v w y z) h6 n7:=by kernel_rfl
theorem ze.tO:IR.run ze.t22 C N O K (ze.fr a b c d e f g j q s i l p o u v w y z) h nx =
 K (ze.fr a b c d e f g j (I 0) s i l p o u v w y z) h nx:=by kernel_rfl
theorem ze.zm7:IR.run ze.t23 C N O K (ze.fr a b c d e f g j q s i l p o u v w y z) h nx =
 zJ 1 a g λv1=>zG v1 h λv2=>sLen v2 λv3=>za .lss .int q v3 λv4=>K (ze.fr a b c d e f g j q s i l p o u v4 w y z) h nx:=by kernel_rfl
theorem ze.v15:Arg.ev (.t (.of 15)) ⟨(ze.fr a b c d e f g j q s i l p o u v w y z),[]⟩=v:=by kernel_rfl
theorem ze.zzc:IR.run ze.t26 C N O K (ze.fr a b c d e f g j q s i l p o u v w y z) h nx =
 zJ 1 a g λv1=>zG v1 h λv2=>zJ 1 a g λv3=>zG v3 h λv4=>zJ 1 v4 q λv5=>zG v5 h λv6=>C.fn 41 (.of 41) [v6,j] h nx λv7 h8 n9=>zQ q q ((zG v1 h8 λvC=>zQ vC v2 ((zJ 1 a g λvD=>zQ vD v1 (zQ g g (zQ a a (zJ 1 v2 q λvH=>zV 1 vH v7 h8 n9 λvG hB nC=>K (ze.fr a b c d e f g j q s i l p o u v w y z) hB nC))))))):=by kernel_rfl
theorem ze.om:IR.run ze.t28 C N O K (ze.fr a b c d e f g j q s i l p o u v w y z) h nx =
 za .add .int q (I 1) λv1=>K (ze.fr a b c d e f g j v1 s i l p o u v w y z) h nx:=by kernel_rfl
theorem ze.zfm (Inv:Nat->AV->T Blk->Pa->Prop) {m:Nat} (hm:m<N) (hi:Inv m q h nx)
  (step:∀ (m:Nat) (z8 zB:AV) (h:T Blk) (nx:Pa) (R:Ks Prop),Inv m z8 h nx->(∀ (m':Nat) (w8 wB:AV) (h':T Blk) (nx':Pa),m'<m->Inv m' w8 h' nx'->R (ze.fr a b c d e f g j w8 s i l p o u wB w y z) h' nx'=.ok True)->IR.run ze.t30 C N O R (ze.fr a b c d e f g j z8 s i l p o u zB w y z) h nx=.ok True) :
  IR.run ze.t31 C N O K (ze.fr a b c d e f g j q s i l p o u v w y z) h nx=.ok True:=by
 rw [ze.t31];refine yA (λm tm h nx=>∃ z8 zB,tm=(ze.fr a b c d e f g j z8 s i l p o u zB w y z)/\Inv m z8 h nx) ?_ hm ⟨_,_,rfl,hi⟩;rintro m _ h nx R ⟨_,_,rfl,q⟩ p;exact step m _ _ h nx R q λ_ _ _ _ _ x y=>p _ _ _ _ x ⟨_,_,rfl,y⟩
theorem ze.zfn:IR.run ze.t34 C N O K (ze.fr a b c d e f g j q s i l p o u v w y z) h nx =
 K (ze.fr a b c d e f g j q (I 0) i l p o u v w y z) h nx:=by kernel_rfl
theorem ze.zzd:IR.run ze.t35 C N O K (ze.fr a b c d e f g j q s i l p o u v w y z) h nx =
 sLen a λv1=>za .lss .int s v1 λv2=>K (ze.fr a b c d e f g j q s i l p o u v v2 y z) h nx:=by kernel_rfl
theorem ze.v16:Arg.ev (.t (.of 16)) ⟨(ze.fr a b c d e f g j q s i l p o u v w y z),[]⟩=w:=by kernel_rfl
theorem ze.zm9:IR.run ze.t38 C N O K (ze.fr a b c d e f g j q s i l p o u v w y z) h nx =
 zJ 1 a s λv1=>zG v1 h λv2=>zJ 1 v2 e λv3=>zG v3 h λv4=>K (ze.fr a b c d e f g j q s v4 l p o u v w y z) h nx:=by kernel_rfl
theorem ze.zze:IR.run ze.t39 C N O K (ze.fr a b c d e f g j q s i l p o u v w y z) h nx =
 za .eql .int s g λv1=>sG v1 false (λk=>k i) λv2=>sGW v1 false (λk=>C.fn 39 (.of 39) [v2] h nx k) h nx λv3 h4 n5=>yQ v1 (.bool true) v3 λv6=>K (ze.fr a b c d e f g j q s i l p o u v w v6 z) h4 n5:=by kernel_rfl
theorem ze.v17:Arg.ev (.t (.of 17)) ⟨(ze.fr a b c d e f g j q s i l p o u v w y z),[]⟩=y:=by kernel_rfl
theorem ze.zna:IR.run ze.t42 C N O K (ze.fr a b c d e f g j q s i l p o u v w y z) h nx =
 K (ze.fr a b c d e f g j q s i (I 0) p o u v w y z) h nx:=by kernel_rfl
theorem ze.znb:IR.run ze.t43 C N O K (ze.fr a b c d e f g j q s i l p o u v w y z) h nx =
 zJ 1 a s λv1=>zG v1 h λv2=>sLen v2 λv3=>za .lss .int l v3 λv4=>K (ze.fr a b c d e f g j q s i l p o u v w y v4) h nx:=by kernel_rfl
theorem ze.v18:Arg.ev (.t (.of 18)) ⟨(ze.fr a b c d e f g j q s i l p o u v w y z),[]⟩=z:=by kernel_rfl
theorem ze.znc:IR.run ze.t46 C N O K (ze.fr a b c d e f g j q s i l p o u v w y z) h nx =
 zJ 1 a s λv1=>zG v1 h λv2=>zJ 1 a s λv3=>zG v3 h λv4=>zJ 1 v4 l λv5=>zG v5 h λv6=>zJ 1 a g λv7=>zG v7 h λv8=>zJ 1 v8 l λv9=>zG v9 h λvH=>C.fn 41 (.of 41) [i,vH] h nx λvG hB nC=>(zG v5 hB λv28=>zQ v28 v6 ((zJ 1 v4 l λv27=>zQ v27 v5 (zQ l l ((zG v3 hB λv26=>zQ v26 v4 ((zJ 1 a s λv25=>zQ v25 v3 (zQ s s (zQ a a (zQ l l ((zG v1 hB λvI=>zQ vI v2 ((zJ 1 a s λvJ=>zQ vJ v1 (zQ s s (zQ a a (C.fn 99 (.of 99) [v6,vG] hB nC λvD hE nF=>zQ l l ((zG v1 hE λvK=>zQ vK v2 ((zJ 1 a s λvL=>zQ vL v1 (zQ s s (zQ a a (zJ 1 v2 l λvA=>zV 1 vA vD hE nF λvM hI nJ=>K (ze.fr a b c d e f g j q s i l p o u v w y z) hI nJ))))))))))))))))))))))))):=by kernel_rfl
theorem ze.zzf:IR.run ze.t48 C N O K (ze.fr a b c d e f g j q s i l p o u v w y z) h nx =
 za .add .int l (I 1) λv1=>K (ze.fr a b c d e f g j q s i v1 p o u v w y z) h nx:=by kernel_rfl
theorem ze.zzg (Inv:Nat->AV->T Blk->Pa->Prop) {m:Nat} (hm:m<N) (hi:Inv m l h nx)
  (step:∀ (m:Nat) (zC zD:AV) (h:T Blk) (nx:Pa) (R:Ks Prop),Inv m zC h nx->(∀ (m':Nat) (wC wD:AV) (h':T Blk) (nx':Pa),m'<m->Inv m' wC h' nx'->R (ze.fr a b c d e f g j q s i wC p o u v w y wD) h' nx'=.ok True)->IR.run ze.t50 C N O R (ze.fr a b c d e f g j q s i zC p o u v w y zD) h nx=.ok True) :
  IR.run ze.t51 C N O K (ze.fr a b c d e f g j q s i l p o u v w y z) h nx=.ok True:=by
 rw [ze.t51];refine yA (λm tm h nx=>∃ zC zD,tm=(ze.fr a b c d e f g j q s i zC p o u v w y zD)/\Inv m zC h nx) ?_ hm ⟨_,_,rfl,hi⟩;rintro m _ h nx R ⟨_,_,rfl,q⟩ p;exact step m _ _ h nx R q λ_ _ _ _ _ x y=>p _ _ _ _ x ⟨_,_,rfl,y⟩
theorem ze.zzh:IR.run ze.t57 C N O K (ze.fr a b c d e f g j q s i l p o u v w y z) h nx =
 za .add .int s (I 1) λv1=>K (ze.fr a b c d e f g j q v1 i l p o u v w y z) h nx:=by kernel_rfl
theorem ze.zzi (Inv:Nat->AV->T Blk->Pa->Prop) {m:Nat} (hm:m<N) (hi:Inv m s h nx)
  (step:∀ (m:Nat) (z9 zE zC zF zH zD:AV) (h:T Blk) (nx:Pa) (R:Ks Prop),Inv m z9 h nx->(∀ (m':Nat) (w9 wE wC wF wG wD:AV) (h':T Blk) (nx':Pa),m'<m->Inv m' w9 h' nx'->R (ze.fr a b c d e f g j q w9 wE wC p o u v wF wG wD) h' nx'=.ok True)->IR.run ze.t59 C N O R (ze.fr a b c d e f g j q z9 zE zC p o u v zF zH zD) h nx=.ok True) :
  IR.run ze.t60 C N O K (ze.fr a b c d e f g j q s i l p o u v w y z) h nx=.ok True:=by
 rw [ze.t60];refine yA (λm tm h nx=>∃ z9 zE zC zF zH zD,tm=(ze.fr a b c d e f g j q z9 zE zC p o u v zF zH zD)/\Inv m z9 h nx) ?_ hm ⟨_,_,_,_,_,_,rfl,hi⟩;rintro m _ h nx R ⟨_,_,_,_,_,_,rfl,q⟩ p;exact step m _ _ _ _ _ _ h nx R q λ_ _ _ _ _ _ _ _ _ x y=>p _ _ _ _ x ⟨_,_,_,_,_,_,rfl,y⟩
theorem ze.zzj:IR.run ze.t63 C N O K (ze.fr a b c d e f g j q s i l p o u v w y z) h nx =
 yS 1 1 [(I 0)] [(0,1,e)] h nx λv1 h2 n3=>rY 1 8 d v1 h2 n3 λv4 h5 n6=>K (ze.fr a b c v4 e f g j q s i l p o u v w y z) h5 n6:=by kernel_rfl
theorem ze.zuz:IR.run ze.t73 C N O K (ze.fr a b c d e f g j q s i l p o u v w y z) h nx =
 za .add .int e (I 1) λv1=>K (ze.fr a b c d v1 f g j q s i l p o u v w y z) h nx:=by kernel_rfl
theorem ze.zu0 (Inv:Nat->AV->AV->T Blk->Pa->Prop) {m:Nat} (hm:m<N) (hi:Inv m d e h nx)
  (step:∀ (m:Nat) (z3 z4 z5 z6 z7 z8 z9 zE zC zI zA zL zB zF zH zD:AV) (h:T Blk) (nx:Pa) (R:Ks Prop),Inv m z3 z4 h nx->(∀ (m':Nat) (w3 w4 w5 w6 w7 w8 w9 wE wC wH wA wI wB wF wG wD:AV) (h':T Blk) (nx':Pa),m'<m->Inv m' w3 w4 h' nx'->R (ze.fr a b c w3 w4 w5 w6 w7 w8 w9 wE wC wH wA wI wB wF wG wD) h' nx'=.ok True)->IR.run ze.t75 C N O R (ze.fr a b c z3 z4 z5 z6 z7 z8 z9 zE zC zI zA zL zB zF zH zD) h nx=.ok True) :
  IR.run ze.t76 C N O K (ze.fr a b c d e f g j q s i l p o u v w y z) h nx=.ok True:=by
 rw [ze.t76];refine yA (λm tm h nx=>∃ z3 z4 z5 z6 z7 z8 z9 zE zC zI zA zL zB zF zH zD,tm=(ze.fr a b c z3 z4 z5 z6 z7 z8 z9 zE zC zI zA zL zB zF zH zD)/\Inv m z3 z4 h nx) ?_ hm ⟨_,_,_,_,_,_,_,_,_,_,_,_,_,_,_,_,rfl,hi⟩;rintro m _ h nx R ⟨_,_,_,_,_,_,_,_,_,_,_,_,_,_,_,_,rfl,q⟩ p;exact step m _ _ _ _ _ _ _ _ _ _ _ _ _ _ _ _ h nx R q λ_ _ _ _ _ _ _ _ _ _ _ _ _ _ _ _ _ _ _ x y=>p _ _ _ _ x ⟨_,_,_,_,_,_,_,_,_,_,_,_,_,_,_,_,rfl,y⟩
theorem ze.zu1:IR.run ze.t79 C N O K (ze.fr a b c d e f g j q s i l p o u v w y z) h nx =
 sLen d λv1=>wX 1 a none (some v1) none λv2=>K (ze.fr a v2 d d e f g j q s i l p o u v w y z) h nx:=by kernel_rfl
theorem ze.go:zP tbl N C (.of 190) [a0] h nx K0=IR.run ze.t84 C N (fnO ze.res K0) (zi ze.res K0) (ze.fr a0 .u .u .u .u .u .u .u .u .u .u .u .u .u .u .u .u .u .u) h nx:=yE (F:=ze) (by kernel_rfl) (λ_=>by kernel_rfl) (by kernel_rfl)
theorem ze.ret:zi ze.res K0 (ze.fr a b c d e f g j q s i l p o u v w y z) h nx=K0 (.tup [b,c]) h nx:=by kernel_rfl
theorem jk.zu:IR.run jk.t0 C N O K (jk.fr a b c d e f g j q) h nx =
 K (jk.fr a b .zb d e f g j q) h nx:=by kernel_rfl
theorem jk.zo:IR.run jk.t1 C N O K (jk.fr a b c d e f g j q) h nx =
 C.fn 105 (.of 105) [a] h nx λv1 h2 n3=>K (jk.fr a b c v1 e f g j q) h2 n3:=by kernel_rfl
theorem jk.yw:IR.run jk.t2 C N O K (jk.fr a b c d e f g j q) h nx =
 sLen b λv1=>K (jk.fr a b c d e b v1 (I 0) q) h nx:=by kernel_rfl
theorem jk.vk:IR.run jk.t3 C N O K (jk.fr a b c d e f g j q) h nx =
 za .lss .int j g λv1=>K (jk.fr a b c d e f g j v1) h nx:=by kernel_rfl
theorem jk.v8:Arg.ev (.t (.of 8)) ⟨(jk.fr a b c d e f g j q),[]⟩=q:=by kernel_rfl
theorem jk.fZ:IR.run jk.t5 C N O K (jk.fr a b c d e f g j q) h nx =
 zJ 1 f j λv1=>zG v1 h λv2=>K (jk.fr a b c d v2 f g j q) h nx:=by kernel_rfl
theorem jk.uy:IR.run jk.t6 C N O K (jk.fr a b c d e f g j q) h nx =
 C.fn 96 (.of 96) [(I 1)] h nx λv1 h2 n3=>zJ 4 d e λv4=>zV 4 v4 v1 h2 n3 λv5 h6 n7=>K (jk.fr a b c d e f g j q) h6 n7:=by kernel_rfl
theorem jk.nu:IR.run jk.t9 C N O K (jk.fr a b c d e f g j q) h nx =
 za .add .int j (I 1) λv1=>K (jk.fr a b c d e f g v1 q) h nx:=by kernel_rfl
theorem jk.zfx (Inv:Nat->AV->T Blk->Pa->Prop) {m:Nat} (hm:m<N) (hi:Inv m j h nx)
  (step:∀ (m:Nat) (z4 z7 z8:AV) (h:T Blk) (nx:Pa) (R:Ks Prop),Inv m z7 h nx->(∀ (m':Nat) (w4 w7 w8:AV) (h':T Blk) (nx':Pa),m'<m->Inv m' w7 h' nx'->R (jk.fr a b c d w4 f g w7 w8) h' nx'=.ok True)->IR.run jk.t12 C N O R (jk.fr a b c d z4 f g z7 z8) h nx=.ok True) :
  IR.run jk.t13 C N O K (jk.fr a b c d e f g j q) h nx=.ok True:=by
 rw [jk.t13];refine yA (λm tm h nx=>∃ z4 z7 z8,tm=(jk.fr a b c d z4 f g z7 z8)/\Inv m z7 h nx) ?_ hm ⟨_,_,_,rfl,hi⟩;rintro m _ h nx R ⟨_,_,_,rfl,q⟩ p;exact step m _ _ _ h nx R q λ_ _ _ _ _ _ x y=>p _ _ _ _ x ⟨_,_,_,rfl,y⟩
theorem jk.sw:IR.run jk.t16 C N O K (jk.fr a b c d e f g j q) h nx =
 K (jk.fr a b d d e f g j q) h nx:=by kernel_rfl
theorem jk.go:zP tbl N C (.of 104) [a0,a1] h nx K0=IR.run jk.t20 C N (fnO jk.res K0) (zi jk.res K0) (jk.fr a0 a1 .u .u .u .u .u .u .u) h nx:=yE (F:=jk) (by kernel_rfl) (λ_=>by kernel_rfl) (by kernel_rfl)
theorem jk.ret:zi jk.res K0 (jk.fr a b c d e f g j q) h nx=K0 c h nx:=by kernel_rfl
theorem jl.zu:IR.run jl.t0 C N O K (jl.fr a b c d e f g) h nx =
 K (jl.fr a .zb c d e f g) h nx:=by kernel_rfl
theorem jl.zo:IR.run jl.t1 C N O K (jl.fr a b c d e f g) h nx =
 q8 4 64 [(I 0),.zb,(I 0),.zb] a a h nx λv1 h2 n3=>K (jl.fr a b v1 d e f g) h2 n3:=by kernel_rfl
theorem jl.yw:IR.run jl.t2 C N O K (jl.fr a b c d e f g) h nx =
 sLen c λv1=>K (jl.fr a b c d v1 (I 0) g) h nx:=by kernel_rfl
theorem jl.vk:IR.run jl.t3 C N O K (jl.fr a b c d e f g) h nx =
 za .lss .int f e λv1=>K (jl.fr a b c d e f v1) h nx:=by kernel_rfl
theorem jl.v6:Arg.ev (.t (.of 6)) ⟨(jl.fr a b c d e f g),[]⟩=g:=by kernel_rfl
theorem jl.fZ:IR.run jl.t5 C N O K (jl.fr a b c d e f g) h nx =
 K (jl.fr a b c f e f g) h nx:=by kernel_rfl
theorem jl.uy:IR.run jl.t6 C N O K (jl.fr a b c d e f g) h nx =
 C.fn 96 (.of 96) [(I 0)] h nx λv1 h2 n3=>zJ 4 c d λv4=>zV 4 v4 v1 h2 n3 λv5 h6 n7=>K (jl.fr a b c d e f g) h6 n7:=by kernel_rfl
theorem jl.nu:IR.run jl.t9 C N O K (jl.fr a b c d e f g) h nx =
 za .add .int f (I 1) λv1=>K (jl.fr a b c d e v1 g) h nx:=by kernel_rfl
theorem jl.zfx (Inv:Nat->AV->T Blk->Pa->Prop) {m:Nat} (hm:m<N) (hi:Inv m f h nx)
  (step:∀ (m:Nat) (z3 z5 z6:AV) (h:T Blk) (nx:Pa) (R:Ks Prop),Inv m z5 h nx->(∀ (m':Nat) (w3 w5 w6:AV) (h':T Blk) (nx':Pa),m'<m->Inv m' w5 h' nx'->R (jl.fr a b c w3 e w5 w6) h' nx'=.ok True)->IR.run jl.t12 C N O R (jl.fr a b c z3 e z5 z6) h nx=.ok True) :
  IR.run jl.t13 C N O K (jl.fr a b c d e f g) h nx=.ok True:=by
 rw [jl.t13];refine yA (λm tm h nx=>∃ z3 z5 z6,tm=(jl.fr a b c z3 e z5 z6)/\Inv m z5 h nx) ?_ hm ⟨_,_,_,rfl,hi⟩;rintro m _ h nx R ⟨_,_,_,rfl,q⟩ p;exact step m _ _ _ h nx R q λ_ _ _ _ _ _ x y=>p _ _ _ _ x ⟨_,_,_,rfl,y⟩
theorem jl.sw:IR.run jl.t16 C N O K (jl.fr a b c d e f g) h nx =
 K (jl.fr a c c d e f g) h nx:=by kernel_rfl
theorem jl.go:zP tbl N C (.of 105) [a0] h nx K0=IR.run jl.t20 C N (fnO jl.res K0) (zi jl.res K0) (jl.fr a0 .u .u .u .u .u .u) h nx:=yE (F:=jl) (by kernel_rfl) (λ_=>by kernel_rfl) (by kernel_rfl)
theorem jl.ret:zi jl.res K0 (jl.fr a b c d e f g) h nx=K0 b h nx:=by kernel_rfl
theorem jv.zu:IR.run jv.t0 C N O K (jv.fr a b c d e f g j q s i) h nx =
 xq b h nx λv1 h2 n3=>K (jv.fr a b c v1 e f g j q s i) h2 n3:=by kernel_rfl
theorem jv.zo:IR.run jv.t1 C N O K (jv.fr a b c d e f g j q s i) h nx =
 sLen c λv1=>K (jv.fr a b c d e f c v1 (I 0) s i) h nx:=by kernel_rfl
theorem jv.yw:IR.run jv.t2 C N O K (jv.fr a b c d e f g j q s i) h nx =
 za .lss .int q j λv1=>K (jv.fr a b c d e f g j q v1 i) h nx:=by kernel_rfl
theorem jv.v9:Arg.ev (.t (.of 9)) ⟨(jv.fr a b c d e f g j q s i),[]⟩=s:=by kernel_rfl
theorem jv.ng:IR.run jv.t4 C N O K (jv.fr a b c d e f g j q s i) h nx =
 zJ 4 g q λv1=>zK 4 v1 h λv2=>yX [(I 0),.zb,(I 0),.zb] h nx λv3 h4 n5=>zV 4 v3 v2 h4 n5 λv6 h7 n8=>K (jv.fr a b c d q v3 g j q s i) h7 n8:=by kernel_rfl
theorem jv.fZ:IR.run jv.t5 C N O K (jv.fr a b c d e f g j q s i) h nx =
 zK 4 f h λv1=>C.fn 110 (.of 110) [v1] h nx λv2 h3 n4=>za .neq .int v2 (I 0) λv5=>K (jv.fr a b c d e f g j q s v5) h3 n4:=by kernel_rfl
theorem jv.uy:IR.run jv.t6 C N O K (jv.fr a b c d e f g j q s i) h nx =
 zJ 4 a e λv1=>zK 4 v1 h λv2=>zK 4 d h λv3=>zK 4 f h λv4=>C.fn 119 (.of 119) [v3,v4] h nx λv5 h6 n7=>(zK 4 v1 h6 λvB=>zQ vB v2 ((zJ 4 a e λvC=>zQ vC v1 (zQ e e (zQ a a (zQ e e (zQ a a (C.fn 192 (.of 192) [v2,v5] h6 n7 λv8 h9 nB=>zQ e e (zQ a a (zJ 4 a e λvG=>zV 4 vG v8 h9 nB λvF hD nE=>K (jv.fr a b c d e f g j q s i) hD nE)))))))))):=by kernel_rfl
theorem jv.v10:Arg.ev (.t (.of 10)) ⟨(jv.fr a b c d e f g j q s i),[]⟩=i:=by kernel_rfl
theorem jv.xu:IR.run jv.t11 C N O K (jv.fr a b c d e f g j q s i) h nx =
 za .add .int q (I 1) λv1=>K (jv.fr a b c d e f g j v1 s i) h nx:=by kernel_rfl
theorem jv.zfo (Inv:Nat->AV->T Blk->Pa->Prop) {m:Nat} (hm:m<N) (hi:Inv m q h nx)
  (step:∀ (m:Nat) (z4 z5 z8 z9 zE:AV) (h:T Blk) (nx:Pa) (R:Ks Prop),Inv m z8 h nx->(∀ (m':Nat) (w4 w5 w8 w9 wE:AV) (h':T Blk) (nx':Pa),m'<m->Inv m' w8 h' nx'->R (jv.fr a b c d w4 w5 g j w8 w9 wE) h' nx'=.ok True)->IR.run jv.t14 C N O R (jv.fr a b c d z4 z5 g j z8 z9 zE) h nx=.ok True) :
  IR.run jv.t15 C N O K (jv.fr a b c d e f g j q s i) h nx=.ok True:=by
 rw [jv.t15];refine yA (λm tm h nx=>∃ z4 z5 z8 z9 zE,tm=(jv.fr a b c d z4 z5 g j z8 z9 zE)/\Inv m z8 h nx) ?_ hm ⟨_,_,_,_,_,rfl,hi⟩;rintro m _ h nx R ⟨_,_,_,_,_,rfl,q⟩ p;exact step m _ _ _ _ _ h nx R q λ_ _ _ _ _ _ _ _ x y=>p _ _ _ _ x ⟨_,_,_,_,_,rfl,y⟩
theorem jv.go:zP tbl N C (.of 106) [a0,a1,a2] h nx K0=IR.run jv.t18 C N (fnO jv.res K0) (zi jv.res K0) (jv.fr a0 a1 a2 .u .u .u .u .u .u .u .u) h nx:=yE (F:=jv) (by kernel_rfl) (λ_=>by kernel_rfl) (by kernel_rfl)
theorem jv.ret:zi jv.res K0 (jv.fr a b c d e f g j q s i) h nx=K0 (.tup []) h nx:=by kernel_rfl
theorem jy.zu:IR.run jy.t0 C N O K (jy.fr a b c d e f g j q s) h nx =
 xq b h nx λv1 h2 n3=>K (jy.fr a b v1 d e f g j q s) h2 n3:=by kernel_rfl
theorem jy.zo:IR.run jy.t1 C N O K (jy.fr a b c d e f g j q s) h nx =
 sLen a λv1=>K (jy.fr a b c d e a v1 (I 0) q s) h nx:=by kernel_rfl
theorem jy.yw:IR.run jy.t2 C N O K (jy.fr a b c d e f g j q s) h nx =
 za .lss .int j g λv1=>K (jy.fr a b c d e f g j v1 s) h nx:=by kernel_rfl
theorem jy.v8:Arg.ev (.t (.of 8)) ⟨(jy.fr a b c d e f g j q s),[]⟩=q:=by kernel_rfl
theorem jy.ng:IR.run jy.t4 C N O K (jy.fr a b c d e f g j q s) h nx =
 zJ 4 f j λv1=>zK 4 v1 h λv2=>yX [(I 0),.zb,(I 0),.zb] h nx λv3 h4 n5=>zV 4 v3 v2 h4 n5 λv6 h7 n8=>K (jy.fr a b c j v3 f g j q s) h7 n8:=by kernel_rfl
theorem jy.fZ:IR.run jy.t5 C N O K (jy.fr a b c d e f g j q s) h nx =
 zK 4 e h λv1=>C.fn 110 (.of 110) [v1] h nx λv2 h3 n4=>za .neq .int v2 (I 0) λv5=>K (jy.fr a b c d e f g j q v5) h3 n4:=by kernel_rfl
theorem jy.uy:IR.run jy.t6 C N O K (jy.fr a b c d e f g j q s) h nx =
 zK 4 e h λv1=>zK 4 c h λv2=>C.fn 119 (.of 119) [v1,v2] h nx λv3 h4 n5=>zJ 4 a d λv6=>zV 4 v6 v3 h4 n5 λv7 h8 n9=>K (jy.fr a b c d e f g j q s) h8 n9:=by kernel_rfl
theorem jy.v9:Arg.ev (.t (.of 9)) ⟨(jy.fr a b c d e f g j q s),[]⟩=s:=by kernel_rfl
theorem jy.xu:IR.run jy.t11 C N O K (jy.fr a b c d e f g j q s) h nx =
 za .add .int j (I 1) λv1=>K (jy.fr a b c d e f g v1 q s) h nx:=by kernel_rfl
theorem jy.zfo (Inv:Nat->AV->T Blk->Pa->Prop) {m:Nat} (hm:m<N) (hi:Inv m j h nx)
  (step:∀ (m:Nat) (z3 z4 z7 z8 z9:AV) (h:T Blk) (nx:Pa) (R:Ks Prop),Inv m z7 h nx->(∀ (m':Nat) (w3 w4 w7 w8 w9:AV) (h':T Blk) (nx':Pa),m'<m->Inv m' w7 h' nx'->R (jy.fr a b c w3 w4 f g w7 w8 w9) h' nx'=.ok True)->IR.run jy.t14 C N O R (jy.fr a b c z3 z4 f g z7 z8 z9) h nx=.ok True) :
  IR.run jy.t15 C N O K (jy.fr a b c d e f g j q s) h nx=.ok True:=by
 rw [jy.t15];refine yA (λm tm h nx=>∃ z3 z4 z7 z8 z9,tm=(jy.fr a b c z3 z4 f g z7 z8 z9)/\Inv m z7 h nx) ?_ hm ⟨_,_,_,_,_,rfl,hi⟩;rintro m _ h nx R ⟨_,_,_,_,_,rfl,q⟩ p;exact step m _ _ _ _ _ h nx R q λ_ _ _ _ _ _ _ _ x y=>p _ _ _ _ x ⟨_,_,_,_,_,rfl,y⟩
theorem jy.go:zP tbl N C (.of 111) [a0,a1] h nx K0=IR.run jy.t18 C N (fnO jy.res K0) (zi jy.res K0) (jy.fr a0 a1 .u .u .u .u .u .u .u .u) h nx:=yE (F:=jy) (by kernel_rfl) (λ_=>by kernel_rfl) (by kernel_rfl)
theorem jy.ret:zi jy.res K0 (jy.fr a b c d e f g j q s) h nx=K0 (.tup []) h nx:=by kernel_rfl
theorem nY.zu:IR.run nY.t0 C N O K (nY.fr a b c) h nx =
 K (nY.fr a b (.bool false)) h nx:=by kernel_rfl
theorem nY.zo:IR.run nY.t1 C N O K (nY.fr a b c) h nx =
 C.fn 247 (.of 247) [a,b] h nx λv1 h2 n3=>za .geq .int v1 (I 0) λv4=>K (nY.fr a b v4) h2 n3:=by kernel_rfl
theorem nY.go:zP tbl N C (.of 182) [a0,a1] h nx K0=IR.run nY.t3 C N (fnO nY.res K0) (zi nY.res K0) (nY.fr a0 a1 .u) h nx:=yE (F:=nY) (by kernel_rfl) (λ_=>by kernel_rfl) (by kernel_rfl)
theorem nY.ret:zi nY.res K0 (nY.fr a b c) h nx=K0 c h nx:=by kernel_rfl
theorem ji.zu:IR.run ji.t0 C N O K (ji.fr a b c d e f g j) h nx =
 K (ji.fr a b (I 0) d e f g j) h nx:=by kernel_rfl
theorem ji.zo:IR.run ji.t1 C N O K (ji.fr a b c d e f g j) h nx =
 sLen a λv1=>K (ji.fr a b c d v1 (I 0) g j) h nx:=by kernel_rfl
theorem ji.yw:IR.run ji.t2 C N O K (ji.fr a b c d e f g j) h nx =
 za .lss .int f e λv1=>K (ji.fr a b c d e f v1 j) h nx:=by kernel_rfl
theorem ji.v6:Arg.ev (.t (.of 6)) ⟨(ji.fr a b c d e f g j),[]⟩=g:=by kernel_rfl
theorem ji.ng:IR.run ji.t4 C N O K (ji.fr a b c d e f g j) h nx =
 K (ji.fr a b c f e f g j) h nx:=by kernel_rfl
theorem ji.fZ:IR.run ji.t5 C N O K (ji.fr a b c d e f g j) h nx =
 zJ 1 a d λv1=>zG v1 h λv2=>za .eql .int b v2 λv3=>K (ji.fr a b c d e f g v3) h nx:=by kernel_rfl
theorem ji.uy:IR.run ji.t6 C N O K (ji.fr a b c d e f g j) h nx =
 K (ji.fr a b d d e f g j) h nx:=by kernel_rfl
theorem ji.v7:Arg.ev (.t (.of 7)) ⟨(ji.fr a b c d e f g j),[]⟩=j:=by kernel_rfl
theorem ji.rH:IR.run ji.t12 C N O K (ji.fr a b c d e f g j) h nx =
 za .add .int f (I 1) λv1=>K (ji.fr a b c d e v1 g j) h nx:=by kernel_rfl
theorem ji.zab (Inv:Nat->AV->T Blk->Pa->Prop) {m:Nat} (hm:m<N) (hi:Inv m f h nx)
  (step:∀ (m:Nat) (z2 z3 z5 z6 z7:AV) (h:T Blk) (nx:Pa) (R:Ks Prop),Inv m z5 h nx->(∀ (m':Nat) (w2 w3 w5 w6 w7:AV) (h':T Blk) (nx':Pa),m'<m->Inv m' w5 h' nx'->R (ji.fr a b w2 w3 e w5 w6 w7) h' nx'=.ok True)->IR.run ji.t15 C N O R (ji.fr a b z2 z3 e z5 z6 z7) h nx=.ok True) :
  IR.run ji.t16 C N O K (ji.fr a b c d e f g j) h nx=.ok True:=by
 rw [ji.t16];refine yA (λm tm h nx=>∃ z2 z3 z5 z6 z7,tm=(ji.fr a b z2 z3 e z5 z6 z7)/\Inv m z5 h nx) ?_ hm ⟨_,_,_,_,_,rfl,hi⟩;rintro m _ h nx R ⟨_,_,_,_,_,rfl,q⟩ p;exact step m _ _ _ _ _ h nx R q λ_ _ _ _ _ _ _ _ x y=>p _ _ _ _ x ⟨_,_,_,_,_,rfl,y⟩
theorem ji.sJ:IR.run ji.t19 C N O K (ji.fr a b c d e f g j) h nx =
 K (ji.fr a b (I (-1)) d e f g j) h nx:=by kernel_rfl
theorem ji.go:zP tbl N C (.of 247) [a0,a1] h nx K0=IR.run ji.t22 C N (fnO ji.res K0) (zi ji.res K0) (ji.fr a0 a1 .u .u .u .u .u .u) h nx:=yE (F:=ji) (by kernel_rfl) (λ_=>by kernel_rfl) (by kernel_rfl)
theorem ji.ret:zi ji.res K0 (ji.fr a b c d e f g j) h nx=K0 c h nx:=by kernel_rfl
theorem F49.oo (X3:IR) (C:Calls Prop) (N:Nat) (O:fK Prop) (K:Ks Prop) (a b c d e f g:AV) (h:T Blk) (nx:Pa):IR.run (F49.g2 X3) C N O K (F49.fr a b c d e f g) h nx =
 IR.run X3 C N (O.blk 0 K) K (F49.fr a b c d e f g) h nx:=by kernel_rfl
theorem F49.tab:T.get none (.of 49) tbl=some F49:=by kernel_rfl
theorem F49.go:zP tbl N C (.of 49) [a0,a1] h nx K0 =
 sLen a0 λv1=>sLen a1 λv2=>za .neq .int v1 v2 λv3=>yH v3 (K0 (.bool false) h nx) (IR.run F49.b2 C N (fnO F49.res K0) (IR.run F49.b9 C N (fnO F49.res K0) (zi F49.res K0)) (F49.fr a0 a1 (.bool false) (I 0) v3 .u .u) h nx):=by
 rw [yK F49.tab];kernel_rfl
theorem F49.e2:IR.run F49.b4 C N ((fnO F49.res K0).blk 0 K) R (F49.fr a b c d e f g) h nx =
 sLen a λv1=>za .lss .int d v1 λv2=>yH v2 (zJ 1 a d λv3=>zG v3 h λv4=>zJ 1 b d λv5=>zG v5 h λv6=>za .neq .int v4 v6 λv7=>yH v7 (K0 (.bool false) h nx) (za .add .int d (I 1) λv8=>R (F49.fr a b c v8 e v2 v7) h nx)) (K (F49.fr a b c d e v2 g) h nx):=by kernel_rfl
theorem F49.L2 (Inv:Nat->AV->T Blk->Pa->Prop) {m:Nat} (hm:m<N) (hi:Inv m d h nx)
  (step:∀ (m:Nat) (z2 z3 z5 z6:AV) (h:T Blk) (nx:Pa) (R:Ks Prop),Inv m z3 h nx->(∀ (m':Nat) (w2 w3 w5 w6:AV) (h':T Blk) (nx':Pa),m'<m->Inv m' w3 h' nx'->R (F49.fr a b w2 w3 e w5 w6) h' nx'=.ok True) ->
   (sLen a λv1=>za .lss .int z3 v1 λv2=>yH v2 (zJ 1 a z3 λv3=>zG v3 h λv4=>zJ 1 b z3 λv5=>zG v5 h λv6=>za .neq .int v4 v6 λv7=>yH v7 (K0 (.bool false) h nx) (za .add .int z3 (I 1) λv8=>R (F49.fr a b z2 v8 e v2 v7) h nx)) (K (F49.fr a b z2 z3 e v2 z6) h nx))=.ok True) :
  IR.run F49.b2 C N (fnO F49.res K0) K (F49.fr a b c d e f g) h nx=.ok True:=by
 rw [F49.b2,F49.oo,F49.b3];refine yA (λm tm h nx=>∃ z2 z3 z5 z6,tm=(F49.fr a b z2 z3 e z5 z6)/\Inv m z3 h nx) ?_ hm ⟨_,_,_,_,rfl,hi⟩;rintro m tm h nx R ⟨z2,z3,z5,z6,rfl,hi⟩ hR;rw [F49.e2];exact step m z2 z3 z5 z6 h nx R hi λm' w2 w3 w5 w6 h' nx' hlt hi'=>hR m' _ h' nx' hlt ⟨_,_,_,_,rfl,hi'⟩
theorem F49.k9:IR.run F49.b9 C N (fnO F49.res K0) K (F49.fr a b c d e f g) h nx =
 K0 (.bool true) h nx:=by kernel_rfl
theorem aY.tab:T.get none (.of 176) tbl=some aY:=by kernel_rfl
theorem aY.go:zP tbl N C (.of 176) [a0,a1] h nx K0 =
 zG a1 h λv1=>C.fn 177 (.of 177) [a0,v1] h nx λv2 h3 n4=>K0 v2 h3 n4:=by
 rw [yK aY.tab];kernel_rfl
theorem aZ.tab:T.get none (.of 175) tbl=some aZ:=by kernel_rfl
theorem aZ.go:zP tbl N C (.of 175) [a0,a1] h nx K0 =
 C.fn 245 (.of 245) [a0,a1] h nx λv1 h2 n3=>za .geq .int v1 (I 0) λv4=>K0 v4 h2 n3:=by
 rw [yK aZ.tab];kernel_rfl
theorem vo.rZ (X2:IR) (C:Calls Prop) (N:Nat) (O:fK Prop) (K:Ks Prop) (a b c d e f g j:AV) (h:T Blk) (nx:Pa):IR.run (vo.g1 X2) C N O K (vo.fr a b c d e f g j) h nx =
 IR.run X2 C N (O.blk 0 K) K (vo.fr a b c d e f g j) h nx:=by kernel_rfl
theorem vo.tab:T.get none (.of 245) tbl=some vo:=by kernel_rfl
theorem vo.go:zP tbl N C (.of 245) [a0,a1] h nx K0 =
 sLen a0 λv1=>IR.run vo.b1 C N (fnO vo.res K0) (IR.run vo.b8 C N (fnO vo.res K0) (zi vo.res K0)) (vo.fr a0 a1 (I 0) .u v1 (I 0) .u .u) h nx:=by
 rw [yK vo.tab];kernel_rfl
theorem vo.e1:IR.run vo.b3 C N ((fnO vo.res K0).blk 0 K) R (vo.fr a b c d e f g j) h nx =
 za .lss .int f e λv1=>yH v1 (zJ 1 a f λv2=>zG v2 h λv3=>zae C b [v3] h nx λv4 h5 n6=>yH v4 (K0 f h5 n6) (za .add .int f (I 1) λv7=>R (vo.fr a b c f e v7 v1 v4) h5 n6)) (K (vo.fr a b c d e f v1 j) h nx):=by kernel_rfl
theorem vo.L1 (Inv:Nat->AV->T Blk->Pa->Prop) {m:Nat} (hm:m<N) (hi:Inv m f h nx)
  (step:∀ (m:Nat) (z2 z3 z5 z6 z7:AV) (h:T Blk) (nx:Pa) (R:Ks Prop),Inv m z5 h nx->(∀ (m':Nat) (w2 w3 w5 w6 w7:AV) (h':T Blk) (nx':Pa),m'<m->Inv m' w5 h' nx'->R (vo.fr a b w2 w3 e w5 w6 w7) h' nx'=.ok True) ->
   (za .lss .int z5 e λv1=>yH v1 (zJ 1 a z5 λv2=>zG v2 h λv3=>zae C b [v3] h nx λv4 h5 n6=>yH v4 (K0 z5 h5 n6) (za .add .int z5 (I 1) λv7=>R (vo.fr a b z2 z5 e v7 v1 v4) h5 n6)) (K (vo.fr a b z2 z3 e z5 v1 z7) h nx))=.ok True) :
  IR.run vo.b1 C N (fnO vo.res K0) K (vo.fr a b c d e f g j) h nx=.ok True:=by
 rw [vo.b1,vo.rZ,vo.b2];refine yA (λm tm h nx=>∃ z2 z3 z5 z6 z7,tm=(vo.fr a b z2 z3 e z5 z6 z7)/\Inv m z5 h nx) ?_ hm ⟨_,_,_,_,_,rfl,hi⟩;rintro m tm h nx R ⟨z2,z3,z5,z6,z7,rfl,hi⟩ hR;rw [vo.e1];exact step m z2 z3 z5 z6 z7 h nx R hi λm' w2 w3 w5 w6 w7 h' nx' hlt hi'=>hR m' _ h' nx' hlt ⟨_,_,_,_,_,rfl,hi'⟩
theorem vo.k8:IR.run vo.b8 C N (fnO vo.res K0) K (vo.fr a b c d e f g j) h nx =
 K0 (I (-1)) h nx:=by kernel_rfl
theorem vw.oo (X3:IR) (C:Calls Prop) (N:Nat) (O:fK Prop) (K:Ks Prop) (a b c d e f g j q:AV) (h:T Blk) (nx:Pa):IR.run (vw.g2 X3) C N O K (vw.fr a b c d e f g j q) h nx =
 IR.run X3 C N (O.blk 0 K) K (vw.fr a b c d e f g j q) h nx:=by kernel_rfl
theorem vw.tab:T.get none (.of 177) tbl=some vw:=by kernel_rfl
theorem vw.go:zP tbl N C (.of 177) [a0,a1] h nx K0 =
 sLen a0 λv1=>sLen a1 λv2=>za .neq .int v1 v2 λv3=>yH v3 (K0 (.bool false) h nx) (sLen a0 λv4=>IR.run vw.b2 C N (fnO vw.res K0) (IR.run vw.b9 C N (fnO vw.res K0) (zi vw.res K0)) (vw.fr a0 a1 (.bool false) .u v3 v4 (I 0) .u .u) h nx):=by
 rw [yK vw.tab];kernel_rfl
theorem vw.e2:IR.run vw.b4 C N ((fnO vw.res K0).blk 0 K) R (vw.fr a b c d e f g j q) h nx =
 za .lss .int g f λv1=>yH v1 (zJ 1 a g λv2=>zG v2 h λv3=>zJ 1 b g λv4=>zG v4 h λv5=>za .neq .int v3 v5 λv6=>yH v6 (K0 (.bool false) h nx) (za .add .int g (I 1) λv7=>R (vw.fr a b c g e f v7 v1 v6) h nx)) (K (vw.fr a b c d e f g v1 q) h nx):=by kernel_rfl
theorem vw.L2 (Inv:Nat->AV->T Blk->Pa->Prop) {m:Nat} (hm:m<N) (hi:Inv m g h nx)
  (step:∀ (m:Nat) (z2 z3 z6 z7 z8:AV) (h:T Blk) (nx:Pa) (R:Ks Prop),Inv m z6 h nx->(∀ (m':Nat) (w2 w3 w6 w7 w8:AV) (h':T Blk) (nx':Pa),m'<m->Inv m' w6 h' nx'->R (vw.fr a b w2 w3 e f w6 w7 w8) h' nx'=.ok True) ->
   (za .lss .int z6 f λv1=>yH v1 (zJ 1 a z6 λv2=>zG v2 h λv3=>zJ 1 b z6 λv4=>zG v4 h λv5=>za .neq .int v3 v5 λv6=>yH v6 (K0 (.bool false) h nx) (za .add .int z6 (I 1) λv7=>R (vw.fr a b z2 z6 e f v7 v1 v6) h nx)) (K (vw.fr a b z2 z3 e f z6 v1 z8) h nx))=.ok True) :
  IR.run vw.b2 C N (fnO vw.res K0) K (vw.fr a b c d e f g j q) h nx=.ok True:=by
 rw [vw.b2,vw.oo,vw.b3];refine yA (λm tm h nx=>∃ z2 z3 z6 z7 z8,tm=(vw.fr a b z2 z3 e f z6 z7 z8)/\Inv m z6 h nx) ?_ hm ⟨_,_,_,_,_,rfl,hi⟩;rintro m tm h nx R ⟨z2,z3,z6,z7,z8,rfl,hi⟩ hR;rw [vw.e2];exact step m z2 z3 z6 z7 z8 h nx R hi λm' w2 w3 w6 w7 w8 h' nx' hlt hi'=>hR m' _ h' nx' hlt ⟨_,_,_,_,_,rfl,hi'⟩
theorem vw.k9:IR.run vw.b9 C N (fnO vw.res K0) K (vw.fr a b c d e f g j q) h nx =
 K0 (.bool true) h nx:=by kernel_rfl
theorem F90.rZ (X2:IR) (C:Calls Prop) (N:Nat) (O:fK Prop) (K:Ks Prop) (a b c d e f:AV) (h:T Blk) (nx:Pa):IR.run (F90.g1 X2) C N O K (F90.fr a b c d e f) h nx =
 IR.run X2 C N (O.blk 0 K) K (F90.fr a b c d e f) h nx:=by kernel_rfl
theorem F90.tab:T.get none (.of 90) tbl=some F90:=by kernel_rfl
theorem F90.go:zP tbl N C (.of 90) [a0,a1] h nx K0 =
 IR.run F90.b1 C N (fnO F90.res K0) (IR.run F90.b8 C N (fnO F90.res K0) (zi F90.res K0)) (F90.fr a0 a1 (.bool false) (I 0) .u .u) h nx:=by
 rw [yK F90.tab];kernel_rfl
theorem F90.e1:IR.run F90.b3 C N ((fnO F90.res K0).blk 0 K) R (F90.fr a b c d e f) h nx =
 sLen a λv1=>za .lss .int d v1 λv2=>yH v2 (zJ 1 a d λv3=>zG v3 h λv4=>C.fn 49 (.of 49) [v4,b] h nx λv5 h6 n7=>yH v5 (K0 (.bool true) h6 n7) (za .add .int d (I 1) λv8=>R (F90.fr a b c v8 v2 v5) h6 n7)) (K (F90.fr a b c d v2 f) h nx):=by kernel_rfl
theorem F90.L1 (Inv:Nat->AV->T Blk->Pa->Prop) {m:Nat} (hm:m<N) (hi:Inv m d h nx)
  (step:∀ (m:Nat) (z2 z3 z4 z5:AV) (h:T Blk) (nx:Pa) (R:Ks Prop),Inv m z3 h nx->(∀ (m':Nat) (w2 w3 w4 w5:AV) (h':T Blk) (nx':Pa),m'<m->Inv m' w3 h' nx'->R (F90.fr a b w2 w3 w4 w5) h' nx'=.ok True) ->
   (sLen a λv1=>za .lss .int z3 v1 λv2=>yH v2 (zJ 1 a z3 λv3=>zG v3 h λv4=>C.fn 49 (.of 49) [v4,b] h nx λv5 h6 n7=>yH v5 (K0 (.bool true) h6 n7) (za .add .int z3 (I 1) λv8=>R (F90.fr a b z2 v8 v2 v5) h6 n7)) (K (F90.fr a b z2 z3 v2 z5) h nx))=.ok True) :
  IR.run F90.b1 C N (fnO F90.res K0) K (F90.fr a b c d e f) h nx=.ok True:=by
 rw [F90.b1,F90.rZ,F90.b2];refine yA (λm tm h nx=>∃ z2 z3 z4 z5,tm=(F90.fr a b z2 z3 z4 z5)/\Inv m z3 h nx) ?_ hm ⟨_,_,_,_,rfl,hi⟩;rintro m tm h nx R ⟨z2,z3,z4,z5,rfl,hi⟩ hR;rw [F90.e1];exact step m z2 z3 z4 z5 h nx R hi λm' w2 w3 w4 w5 h' nx' hlt hi'=>hR m' _ h' nx' hlt ⟨_,_,_,_,rfl,hi'⟩
theorem F90.k8:IR.run F90.b8 C N (fnO F90.res K0) K (F90.fr a b c d e f) h nx =
 K0 (.bool false) h nx:=by kernel_rfl
theorem F86.rZ (X2:IR) (C:Calls Prop) (N:Nat) (O:fK Prop) (K:Ks Prop) (a b c d e f g j:AV) (h:T Blk) (nx:Pa):IR.run (F86.g1 X2) C N O K (F86.fr a b c d e f g j) h nx =
 IR.run X2 C N (O.blk 0 K) K (F86.fr a b c d e f g j) h nx:=by kernel_rfl
theorem F86.tab:T.get none (.of 86) tbl=some F86:=by kernel_rfl
theorem F86.go:zP tbl N C (.of 86) [a0] h nx K0 =
 sLen a0 λv1=>IR.run F86.b1 C N (fnO F86.res K0) (IR.run F86.b8 C N (fnO F86.res K0) (zi F86.res K0)) (F86.fr a0 (I 0) .u a0 v1 (I 0) .u .u) h nx:=by
 rw [yK F86.tab];kernel_rfl
theorem F86.e1:IR.run F86.b3 C N ((fnO F86.res K0).blk 0 K) R (F86.fr a b c d e f g j) h nx =
 za .lss .int f e λv1=>yH v1 (zJ 1 d f λv2=>zG v2 h λv3=>za .neq .int v3 (I 0) λv4=>yH v4 (K0 v3 h nx) (za .add .int f (I 1) λv5=>R (F86.fr a b v3 d e v5 v1 v4) h nx)) (K (F86.fr a b c d e f v1 j) h nx):=by kernel_rfl
theorem F86.L1 (Inv:Nat->AV->T Blk->Pa->Prop) {m:Nat} (hm:m<N) (hi:Inv m f h nx)
  (step:∀ (m:Nat) (z1 z2 z5 z6 z7:AV) (h:T Blk) (nx:Pa) (R:Ks Prop),Inv m z5 h nx->(∀ (m':Nat) (w1 w2 w5 w6 w7:AV) (h':T Blk) (nx':Pa),m'<m->Inv m' w5 h' nx'->R (F86.fr a w1 w2 d e w5 w6 w7) h' nx'=.ok True) ->
   (za .lss .int z5 e λv1=>yH v1 (zJ 1 d z5 λv2=>zG v2 h λv3=>za .neq .int v3 (I 0) λv4=>yH v4 (K0 v3 h nx) (za .add .int z5 (I 1) λv5=>R (F86.fr a z1 v3 d e v5 v1 v4) h nx)) (K (F86.fr a z1 z2 d e z5 v1 z7) h nx))=.ok True) :
  IR.run F86.b1 C N (fnO F86.res K0) K (F86.fr a b c d e f g j) h nx=.ok True:=by
 rw [F86.b1,F86.rZ,F86.b2];refine yA (λm tm h nx=>∃ z1 z2 z5 z6 z7,tm=(F86.fr a z1 z2 d e z5 z6 z7)/\Inv m z5 h nx) ?_ hm ⟨_,_,_,_,_,rfl,hi⟩;rintro m tm h nx R ⟨z1,z2,z5,z6,z7,rfl,hi⟩ hR;rw [F86.e1];exact step m z1 z2 z5 z6 z7 h nx R hi λm' w1 w2 w5 w6 w7 h' nx' hlt hi'=>hR m' _ h' nx' hlt ⟨_,_,_,_,_,rfl,hi'⟩
theorem F86.k8:IR.run F86.b8 C N (fnO F86.res K0) K (F86.fr a b c d e f g j) h nx =
 K0 (I 0) h nx:=by kernel_rfl
theorem F88.tab:T.get none (.of 88) tbl=some F88:=by kernel_rfl
theorem F88.go:zP tbl N C (.of 88) [a0,a1] h nx K0 =
 yH a0 (K0 a1 h nx) (K0 (I 0) h nx):=by
 rw [yK F88.tab];kernel_rfl
theorem F16.oo (X3:IR) (C:Calls Prop) (N:Nat) (O:fK Prop) (K:Ks Prop) (a b c d e f g j q:AV) (h:T Blk) (nx:Pa):IR.run (F16.g2 X3) C N O K (F16.fr a b c d e f g j q) h nx =
 IR.run X3 C N (O.blk 0 K) K (F16.fr a b c d e f g j q) h nx:=by kernel_rfl
theorem F16.tab:T.get none (.of 16) tbl=some F16:=by kernel_rfl
theorem F16.go:zP tbl N C (.of 16) [a0,a1,a2] h nx K0 =
 xq a0 h nx λv1 h2 n3=>zM 1 v1 λv4=>zG v4 h2 λv5=>sLen v5 λv6=>za .gtr .int v6 a2 λv7=>yH v7 (K0 (.bool false) h2 n3) (IR.run F16.b2 C N (fnO F16.res K0) (IR.run F16.b9 C N (fnO F16.res K0) (zi F16.res K0)) (F16.fr a0 a1 a2 v1 (.bool false) (I 0) v7 .u .u) h2 n3):=by
 rw [yK F16.tab];kernel_rfl
theorem F16.e2:IR.run F16.b4 C N ((fnO F16.res K0).blk 0 K) R (F16.fr a b c d e f g j q) h nx =
 zM 1 d λv1=>zG v1 h λv2=>sLen v2 λv3=>za .lss .int f v3 λv4=>yH v4 (zM 1 d λv5=>zG v5 h λv6=>zJ 1 v6 f λv7=>zG v7 h λv8=>sLen v8 λv9=>za .gtr .int v9 b λvH=>yH vH (K0 (.bool false) h nx) (za .add .int f (I 1) λvG=>R (F16.fr a b c d e vG g v4 vH) h nx)) (K (F16.fr a b c d e f g v4 q) h nx):=by kernel_rfl
theorem F16.L2 (Inv:Nat->AV->T Blk->Pa->Prop) {m:Nat} (hm:m<N) (hi:Inv m f h nx)
  (step:∀ (m:Nat) (z4 z5 z7 z8:AV) (h:T Blk) (nx:Pa) (R:Ks Prop),Inv m z5 h nx->(∀ (m':Nat) (w4 w5 w7 w8:AV) (h':T Blk) (nx':Pa),m'<m->Inv m' w5 h' nx'->R (F16.fr a b c d w4 w5 g w7 w8) h' nx'=.ok True) ->
   (zM 1 d λv1=>zG v1 h λv2=>sLen v2 λv3=>za .lss .int z5 v3 λv4=>yH v4 (zM 1 d λv5=>zG v5 h λv6=>zJ 1 v6 z5 λv7=>zG v7 h λv8=>sLen v8 λv9=>za .gtr .int v9 b λvH=>yH vH (K0 (.bool false) h nx) (za .add .int z5 (I 1) λvG=>R (F16.fr a b c d z4 vG g v4 vH) h nx)) (K (F16.fr a b c d z4 z5 g v4 z8) h nx))=.ok True) :
  IR.run F16.b2 C N (fnO F16.res K0) K (F16.fr a b c d e f g j q) h nx=.ok True:=by
 rw [F16.b2,F16.oo,F16.b3];refine yA (λm tm h nx=>∃ z4 z5 z7 z8,tm=(F16.fr a b c d z4 z5 g z7 z8)/\Inv m z5 h nx) ?_ hm ⟨_,_,_,_,rfl,hi⟩;rintro m tm h nx R ⟨z4,z5,z7,z8,rfl,hi⟩ hR;rw [F16.e2];exact step m z4 z5 z7 z8 h nx R hi λm' w4 w5 w7 w8 h' nx' hlt hi'=>hR m' _ h' nx' hlt ⟨_,_,_,_,rfl,hi'⟩
theorem F16.k9:IR.run F16.b9 C N (fnO F16.res K0) K (F16.fr a b c d e f g j q) h nx =
 K0 (.bool true) h nx:=by kernel_rfl
theorem F19.zw0 (X11:IR) (C:Calls Prop) (N:Nat) (O:fK Prop) (K:Ks Prop) (a b c d e f g j q s i l p o:AV) (h:T Blk) (nx:Pa):IR.run (F19.g10 X11) C N O K (F19.fr a b c d e f g j q s i l p o) h nx =
 IR.run X11 C N (O.blk 2 K) K (F19.fr a b c d e f g j q s i l p o) h nx:=by kernel_rfl
theorem F19.zzk (X4:IR) (C:Calls Prop) (N:Nat) (O:fK Prop) (K:Ks Prop) (a b c d e f g j q s i l p o:AV) (h:T Blk) (nx:Pa):IR.run (F19.g3 X4) C N O K (F19.fr a b c d e f g j q s i l p o) h nx =
 IR.run X4 C N (O.blk 0 K) K (F19.fr a b c d e f g j q s i l p o) h nx:=by kernel_rfl
theorem F19.tab:T.get none (.of 19) tbl=some F19:=by kernel_rfl
theorem F19.go:zP tbl N C (.of 19) [a0] h nx K0 =
 xq a0 h nx λv1 h2 n3=>zM 0 v1 λv4=>zG v4 h2 λv5=>za .lss .int v5 (I 1) λv6=>sG v6 false (λk=>zM 0 v1 k) λv7=>sG v6 false (λk=>zG v7 h2 k) λv8=>sG v6 false (λk=>za .gtr .int v8 (I 256) k) λv9=>yQ v6 (.bool true) v9 λvH=>yH vH (K0 (I 3) h2 n3) (zM 1 v1 λvG=>zG vG h2 λvF=>sLen vF λvE=>za .gtr .int vE (I 128) λvD=>yH vD (K0 (I 5) h2 n3) (IR.run F19.b3 C N (fnO F19.res K0) (IR.run F19.b20 C N (fnO F19.res K0) (zi F19.res K0)) (F19.fr a0 v1 (I 0) (I 0) .u .u vH vD .u .u .u .u .u .u) h2 n3)):=by
 rw [yK F19.tab];kernel_rfl
theorem F19.e3:IR.run F19.b5 C N ((fnO F19.res K0).blk 0 K) R (F19.fr a b c d e f g j q s i l p o) h nx =
 zM 1 b λv1=>zG v1 h λv2=>sLen v2 λv3=>za .lss .int d v3 λv4=>yH v4 (zM 1 b λv5=>zG v5 h λv6=>zJ 1 v6 d λv7=>zG v7 h λv8=>sLen v8 λv9=>za .eql .int v9 (I 0) λvH=>yH vH (K0 (I 12) h nx) (IR.run F19.b10 C N (((fnO F19.res K0).blk 0 K).blk 1 (IR.run F19.b19 C N ((fnO F19.res K0).blk 0 K) R)) (IR.run F19.b18 C N (((fnO F19.res K0).blk 0 K).blk 1 (IR.run F19.b19 C N ((fnO F19.res K0).blk 0 K) R)) (IR.run F19.b19 C N ((fnO F19.res K0).blk 0 K) R)) (F19.fr a b c d v8 (I 0) g j v4 vH i l p o) h nx)) (K (F19.fr a b c d e f g j v4 s i l p o) h nx):=by kernel_rfl
theorem F19.L3 (Inv:Nat->AV->T Blk->Pa->Prop) {m:Nat} (hm:m<N) (hi:Inv m d h nx)
  (step:∀ (m:Nat) (z2 z3 z4 z5 z8 z9 zE zC zI zA:AV) (h:T Blk) (nx:Pa) (R:Ks Prop),Inv m z3 h nx->(∀ (m':Nat) (w2 w3 w4 w5 w8 w9 wE wC wH wA:AV) (h':T Blk) (nx':Pa),m'<m->Inv m' w3 h' nx'->R (F19.fr a b w2 w3 w4 w5 g j w8 w9 wE wC wH wA) h' nx'=.ok True) ->
   (zM 1 b λv1=>zG v1 h λv2=>sLen v2 λv3=>za .lss .int z3 v3 λv4=>yH v4 (zM 1 b λv5=>zG v5 h λv6=>zJ 1 v6 z3 λv7=>zG v7 h λv8=>sLen v8 λv9=>za .eql .int v9 (I 0) λvH=>yH vH (K0 (I 12) h nx) (IR.run F19.b10 C N (((fnO F19.res K0).blk 0 K).blk 1 (IR.run F19.b19 C N ((fnO F19.res K0).blk 0 K) R)) (IR.run F19.b18 C N (((fnO F19.res K0).blk 0 K).blk 1 (IR.run F19.b19 C N ((fnO F19.res K0).blk 0 K) R)) (IR.run F19.b19 C N ((fnO F19.res K0).blk 0 K) R)) (F19.fr a b z2 z3 v8 (I 0) g j v4 vH zE zC zI zA) h nx)) (K (F19.fr a b z2 z3 z4 z5 g j v4 z9 zE zC zI zA) h nx))=.ok True) :
  IR.run F19.b3 C N (fnO F19.res K0) K (F19.fr a b c d e f g j q s i l p o) h nx=.ok True:=by
 rw [F19.b3,F19.zzk,F19.b4];refine yA (λm tm h nx=>∃ z2 z3 z4 z5 z8 z9 zE zC zI zA,tm=(F19.fr a b z2 z3 z4 z5 g j z8 z9 zE zC zI zA)/\Inv m z3 h nx) ?_ hm ⟨_,_,_,_,_,_,_,_,_,_,rfl,hi⟩;rintro m tm h nx R ⟨z2,z3,z4,z5,z8,z9,zE,zC,zI,zA,rfl,hi⟩ hR;rw [F19.e3];exact step m z2 z3 z4 z5 z8 z9 zE zC zI zA h nx R hi λm' w2 w3 w4 w5 w8 w9 wE wC wH wA h' nx' hlt hi'=>hR m' _ h' nx' hlt ⟨_,_,_,_,_,_,_,_,_,_,rfl,hi'⟩
theorem F19.k20:IR.run F19.b20 C N (fnO F19.res K0) K (F19.fr a b c d e f g j q s i l p o) h nx =
 K0 (I 0) h nx:=by kernel_rfl
theorem F19.k19 {E0:Ks Prop}:IR.run F19.b19 C N ((fnO F19.res K0).blk 0 E0) K (F19.fr a b c d e f g j q s i l p o) h nx =
 za .add .int d (I 1) λv1=>K (F19.fr a b c v1 e f g j q s i l p o) h nx:=by kernel_rfl
theorem F19.e10 {E0 E1:Ks Prop}:IR.run F19.b12 C N ((((fnO F19.res K0).blk 0 E0).blk 1 E1).blk 2 K) R (F19.fr a b c d e f g j q s i l p o) h nx =
 sLen e λv1=>za .lss .int f v1 λv2=>yH v2 (zJ 1 e f λv3=>zG v3 h λv4=>za .lss .int v4 (I 0) λv5=>sG v5 false (λk=>k e) λv6=>sG v5 false (λk=>k f) λv7=>sG v5 false (λk=>zJ 1 v6 v7 k) λv8=>sG v5 false (λk=>zG v8 h k) λv9=>sG v5 false (λk=>zM 0 b k) λvH=>sG v5 false (λk=>zG vH h k) λvG=>sG v5 false (λk=>za .geq .int v9 vG k) λvF=>yQ v5 (.bool true) vF λvE=>yH vE (K0 (I 10) h nx) ((IR.run F19.b16 C N (((((fnO F19.res K0).blk 0 E0).blk 1 E1).blk 2 K).blk 3 (IR.run F19.b17 C N ((((fnO F19.res K0).blk 0 E0).blk 1 E1).blk 2 K) R)) (IR.run F19.b17 C N ((((fnO F19.res K0).blk 0 E0).blk 1 E1).blk 2 K) R)) (F19.fr a b c d e f g j q s v2 vE p o) h nx)) (K (F19.fr a b c d e f g j q s v2 l p o) h nx):=by kernel_rfl
theorem F19.L10 {E0 E1:Ks Prop} (Inv:Nat->AV->T Blk->Pa->Prop) {m:Nat} (hm:m<N) (hi:Inv m f h nx)
  (step:∀ (m:Nat) (z2 z5 zE zC zI:AV) (h:T Blk) (nx:Pa) (R:Ks Prop),Inv m z5 h nx->(∀ (m':Nat) (w2 w5 wE wC wH:AV) (h':T Blk) (nx':Pa),m'<m->Inv m' w5 h' nx'->R (F19.fr a b w2 d e w5 g j q s wE wC wH o) h' nx'=.ok True) ->
   (sLen e λv1=>za .lss .int z5 v1 λv2=>yH v2 (zJ 1 e z5 λv3=>zG v3 h λv4=>za .lss .int v4 (I 0) λv5=>sG v5 false (λk=>k e) λv6=>sG v5 false (λk=>k z5) λv7=>sG v5 false (λk=>zJ 1 v6 v7 k) λv8=>sG v5 false (λk=>zG v8 h k) λv9=>sG v5 false (λk=>zM 0 b k) λvH=>sG v5 false (λk=>zG vH h k) λvG=>sG v5 false (λk=>za .geq .int v9 vG k) λvF=>yQ v5 (.bool true) vF λvE=>yH vE (K0 (I 10) h nx) ((IR.run F19.b16 C N (((((fnO F19.res K0).blk 0 E0).blk 1 E1).blk 2 K).blk 3 (IR.run F19.b17 C N ((((fnO F19.res K0).blk 0 E0).blk 1 E1).blk 2 K) R)) (IR.run F19.b17 C N ((((fnO F19.res K0).blk 0 E0).blk 1 E1).blk 2 K) R)) (F19.fr a b z2 d e z5 g j q s v2 vE zI o) h nx)) (K (F19.fr a b z2 d e z5 g j q s v2 zC zI o) h nx))=.ok True) :
  IR.run F19.b10 C N (((fnO F19.res K0).blk 0 E0).blk 1 E1) K (F19.fr a b c d e f g j q s i l p o) h nx=.ok True:=by
 rw [F19.b10,F19.zw0,F19.b11];refine yA (λm tm h nx=>∃ z2 z5 zE zC zI,tm=(F19.fr a b z2 d e z5 g j q s zE zC zI o)/\Inv m z5 h nx) ?_ hm ⟨_,_,_,_,_,rfl,hi⟩;rintro m tm h nx R ⟨z2,z5,zE,zC,zI,rfl,hi⟩ hR;rw [F19.e10];exact step m z2 z5 zE zC zI h nx R hi λm' w2 w5 wE wC wH h' nx' hlt hi'=>hR m' _ h' nx' hlt ⟨_,_,_,_,_,rfl,hi'⟩
theorem F19.k18 {E0 E1:Ks Prop}:IR.run F19.b18 C N (((fnO F19.res K0).blk 0 E0).blk 1 E1) K (F19.fr a b c d e f g j q s i l p o) h nx =
 zM 1 b λv1=>zG v1 h λv2=>wX 1 v2 none (some d) none λv3=>C.fn 90 (.of 90) [v3,e] h nx λv4 h5 n6=>yH v4 (K0 (I 9) h5 n6) (K (F19.fr a b c d e f g j q s i l p v4) h5 n6):=by kernel_rfl
theorem F19.k17 {E0 E1 E2:Ks Prop}:IR.run F19.b17 C N ((((fnO F19.res K0).blk 0 E0).blk 1 E1).blk 2 E2) K (F19.fr a b c d e f g j q s i l p o) h nx =
 za .add .int f (I 1) λv1=>K (F19.fr a b c d e v1 g j q s i l p o) h nx:=by kernel_rfl
theorem F19.k16 {E0 E1 E2 E3:Ks Prop}:IR.run F19.b16 C N (((((fnO F19.res K0).blk 0 E0).blk 1 E1).blk 2 E2).blk 3 E3) K (F19.fr a b c d e f g j q s i l p o) h nx =
 za .gtr .int f (I 0) λv1=>sG v1 true (λk=>k e) λv2=>sG v1 true (λk=>k f) λv3=>sG v1 true (λk=>zJ 1 v2 v3 k) λv4=>sG v1 true (λk=>zG v4 h k) λv5=>sG v1 true (λk=>k e) λv6=>sG v1 true (λk=>k f) λv7=>sG v1 true (λk=>za .sub .int v7 (I 1) k) λv8=>sG v1 true (λk=>zJ 1 v6 v8 k) λv9=>sG v1 true (λk=>zG v9 h k) λvH=>sG v1 true (λk=>za .leq .int v5 vH k) λvG=>yQ v1 vG (.bool false) λvF=>yH vF (K0 (I 11) h nx) (K (F19.fr a b c d e f g j q s i l vF o) h nx):=by kernel_rfl
theorem F87.tab:T.get none (.of 87) tbl=some F87:=by kernel_rfl
theorem F87.go:zP tbl N C (.of 87) [a0,a1,a2] h nx K0 =
 xq a0 h nx λv1 h2 n3=>xq a1 h2 n3 λv4 h5 n6=>C.fn 173 (.of 173) [a2,(.fn 174 (.of 174) [v1,v4])] h5 n6 λv7 h8 n9=>C.fn 88 (.of 88) [v7,(I 3)] h8 n9 λvH hC nD=>K0 vH hC nD:=by
 rw [yK F87.tab];kernel_rfl
theorem eu.tab:T.get none (.of 174) tbl=some eu:=by kernel_rfl
theorem eu.go:zP tbl N C (.of 174) [a0,a1,a2] h nx K0 =
 zG a1 h λv1=>za .lss .int a0 v1 λv2=>sG v2 false (λk=>k a0) λv3=>sG v2 false (λk=>zG a2 h k) λv4=>sG v2 false (λk=>za .gtr .int v3 v4 k) λv5=>yQ v2 (.bool true) v5 λv6=>K0 v6 h nx:=by
 rw [yK eu.tab];kernel_rfl
theorem eD.tab:T.get none (.of 173) tbl=some eD:=by kernel_rfl
theorem eD.go:zP tbl N C (.of 173) [a0,a1] h nx K0 =
 C.fn 184 (.of 184) [a0,a1] h nx λv1 h2 n3=>za .geq .int v1 (I 0) λv4=>K0 v4 h2 n3:=by
 rw [yK eD.tab];kernel_rfl
theorem xw.rZ (X2:IR) (C:Calls Prop) (N:Nat) (O:fK Prop) (K:Ks Prop) (a b c d e f g j:AV) (h:T Blk) (nx:Pa):IR.run (xw.g1 X2) C N O K (xw.fr a b c d e f g j) h nx =
 IR.run X2 C N (O.blk 0 K) K (xw.fr a b c d e f g j) h nx:=by kernel_rfl
theorem xw.tab:T.get none (.of 184) tbl=some xw:=by kernel_rfl
theorem xw.go:zP tbl N C (.of 184) [a0,a1] h nx K0 =
 sLen a0 λv1=>IR.run xw.b1 C N (fnO xw.res K0) (IR.run xw.b8 C N (fnO xw.res K0) (zi xw.res K0)) (xw.fr a0 a1 (I 0) .u v1 (I 0) .u .u) h nx:=by
 rw [yK xw.tab];kernel_rfl
theorem xw.e1:IR.run xw.b3 C N ((fnO xw.res K0).blk 0 K) R (xw.fr a b c d e f g j) h nx =
 za .lss .int f e λv1=>yH v1 (zJ 1 a f λv2=>zG v2 h λv3=>zae C b [v3] h nx λv4 h5 n6=>yH v4 (K0 f h5 n6) (za .add .int f (I 1) λv7=>R (xw.fr a b c f e v7 v1 v4) h5 n6)) (K (xw.fr a b c d e f v1 j) h nx):=by kernel_rfl
theorem xw.L1 (Inv:Nat->AV->T Blk->Pa->Prop) {m:Nat} (hm:m<N) (hi:Inv m f h nx)
  (step:∀ (m:Nat) (z2 z3 z5 z6 z7:AV) (h:T Blk) (nx:Pa) (R:Ks Prop),Inv m z5 h nx->(∀ (m':Nat) (w2 w3 w5 w6 w7:AV) (h':T Blk) (nx':Pa),m'<m->Inv m' w5 h' nx'->R (xw.fr a b w2 w3 e w5 w6 w7) h' nx'=.ok True) ->
   (za .lss .int z5 e λv1=>yH v1 (zJ 1 a z5 λv2=>zG v2 h λv3=>zae C b [v3] h nx λv4 h5 n6=>yH v4 (K0 z5 h5 n6) (za .add .int z5 (I 1) λv7=>R (xw.fr a b z2 z5 e v7 v1 v4) h5 n6)) (K (xw.fr a b z2 z3 e z5 v1 z7) h nx))=.ok True) :
  IR.run xw.b1 C N (fnO xw.res K0) K (xw.fr a b c d e f g j) h nx=.ok True:=by
 rw [xw.b1,xw.rZ,xw.b2];refine yA (λm tm h nx=>∃ z2 z3 z5 z6 z7,tm=(xw.fr a b z2 z3 e z5 z6 z7)/\Inv m z5 h nx) ?_ hm ⟨_,_,_,_,_,rfl,hi⟩;rintro m tm h nx R ⟨z2,z3,z5,z6,z7,rfl,hi⟩ hR;rw [xw.e1];exact step m z2 z3 z5 z6 z7 h nx R hi λm' w2 w3 w5 w6 w7 h' nx' hlt hi'=>hR m' _ h' nx' hlt ⟨_,_,_,_,_,rfl,hi'⟩
theorem xw.k8:IR.run xw.b8 C N (fnO xw.res K0) K (xw.fr a b c d e f g j) h nx =
 K0 (I (-1)) h nx:=by kernel_rfl
theorem F18.oo (X3:IR) (C:Calls Prop) (N:Nat) (O:fK Prop) (K:Ks Prop) (a b c d e f g j q s i:AV) (h:T Blk) (nx:Pa):IR.run (F18.g2 X3) C N O K (F18.fr a b c d e f g j q s i) h nx =
 IR.run X3 C N (O.blk 0 K) K (F18.fr a b c d e f g j q s i) h nx:=by kernel_rfl
theorem F18.tab:T.get none (.of 18) tbl=some F18:=by kernel_rfl
theorem F18.go:zP tbl N C (.of 18) [a0] h nx K0 =
 xq a0 h nx λv1 h2 n3=>zM 0 v1 λv4=>zG v4 h2 λv5=>zM 1 v1 λv6=>zG v6 h2 λv7=>sLen v7 λv8=>za .gtr .int v8 (I 128) λv9=>yS 1 1 [(I 0)] [(0,1,v5)] h2 n3 λvH hC nD=>(za .gtr .int v8 (I 128) λvX=>zQ vX v9 ((sLen v7 λvY=>zQ vY v8 ((zG v6 hC λv34=>zQ v34 v7 ((zM 1 v1 λv33=>zQ v33 v6 (C.fn 87 (.of 87) [(I 1),(I 256),vH] hC nD λvE hG nH=>(za .gtr .int v8 (I 128) λv32=>zQ v32 v9 ((sLen v7 λv31=>zQ v31 v8 ((zG v6 hG λv30=>zQ v30 v7 ((zM 1 v1 λv29=>zQ v29 v6 (C.fn 88 (.of 88) [v9,(I 5)] hG nH λvB hJ nK=>yS 1 2 [(I 0)] [(0,1,vE),(1,1,vB)] hJ nK λvZ hK nL=>C.fn 86 (.of 86) [vZ] hK nL λvK hL nM=>za .neq .int vK (I 0) λv25=>yH v25 (K0 vK hL nM) (zM 1 v1 λv26=>zG v26 hL λv27=>sLen v27 λv28=>IR.run F18.b2 C N (fnO F18.res K0) (IR.run F18.b9 C N (fnO F18.res K0) (zi F18.res K0)) (F18.fr a0 v1 (I 0) vK .u .u v25 v28 (I 0) .u .u) hL nM))))))))))))))))):=by
 rw [yK F18.tab];kernel_rfl
theorem F18.e2:IR.run F18.b4 C N ((fnO F18.res K0).blk 0 K) R (F18.fr a b c d e f g j q s i) h nx =
 za .lss .int q j λv1=>yH v1 (zK 2 b h λv2=>C.fn 89 (.of 89) [v2,q] h nx λv3 h4 n5=>za .neq .int v3 (I 0) λv6=>yH v6 (K0 v3 h4 n5) (za .add .int q (I 1) λv7=>R (F18.fr a b c d q v3 g j v7 v1 v6) h4 n5)) (K (F18.fr a b c d e f g j q v1 i) h nx):=by kernel_rfl
theorem F18.L2 (Inv:Nat->AV->T Blk->Pa->Prop) {m:Nat} (hm:m<N) (hi:Inv m q h nx)
  (step:∀ (m:Nat) (z2 z4 z5 z8 z9 zE:AV) (h:T Blk) (nx:Pa) (R:Ks Prop),Inv m z8 h nx->(∀ (m':Nat) (w2 w4 w5 w8 w9 wE:AV) (h':T Blk) (nx':Pa),m'<m->Inv m' w8 h' nx'->R (F18.fr a b w2 d w4 w5 g j w8 w9 wE) h' nx'=.ok True) ->
   (za .lss .int z8 j λv1=>yH v1 (zK 2 b h λv2=>C.fn 89 (.of 89) [v2,z8] h nx λv3 h4 n5=>za .neq .int v3 (I 0) λv6=>yH v6 (K0 v3 h4 n5) (za .add .int z8 (I 1) λv7=>R (F18.fr a b z2 d z8 v3 g j v7 v1 v6) h4 n5)) (K (F18.fr a b z2 d z4 z5 g j z8 v1 zE) h nx))=.ok True) :
  IR.run F18.b2 C N (fnO F18.res K0) K (F18.fr a b c d e f g j q s i) h nx=.ok True:=by
 rw [F18.b2,F18.oo,F18.b3];refine yA (λm tm h nx=>∃ z2 z4 z5 z8 z9 zE,tm=(F18.fr a b z2 d z4 z5 g j z8 z9 zE)/\Inv m z8 h nx) ?_ hm ⟨_,_,_,_,_,_,rfl,hi⟩;rintro m tm h nx R ⟨z2,z4,z5,z8,z9,zE,rfl,hi⟩ hR;rw [F18.e2];exact step m z2 z4 z5 z8 z9 zE h nx R hi λm' w2 w4 w5 w8 w9 wE h' nx' hlt hi'=>hR m' _ h' nx' hlt ⟨_,_,_,_,_,_,rfl,hi'⟩
theorem F18.k9:IR.run F18.b9 C N (fnO F18.res K0) K (F18.fr a b c d e f g j q s i) h nx =
 K0 (I 0) h nx:=by kernel_rfl
theorem F89.oo (X3:IR) (C:Calls Prop) (N:Nat) (O:fK Prop) (K:Ks Prop) (a b c d e f g j q s i l p o:AV) (h:T Blk) (nx:Pa):IR.run (F89.g2 X3) C N O K (F89.fr a b c d e f g j q s i l p o) h nx =
 IR.run X3 C N (O.blk 0 K) K (F89.fr a b c d e f g j q s i l p o) h nx:=by kernel_rfl
theorem F89.tab:T.get none (.of 89) tbl=some F89:=by kernel_rfl
theorem F89.go:zP tbl N C (.of 89) [a0,a1] h nx K0 =
 xq a0 h nx λv1 h2 n3=>zM 1 v1 λv4=>zG v4 h2 λv5=>zJ 1 v5 a1 λv6=>zG v6 h2 λv7=>yX [.zb] h2 n3 λv8 h9 nB=>zV 1 v8 v7 h9 nB λvG hB nC=>zG v8 hB λvD=>sLen vD λvC=>za .eql .int vC (I 0) λvB=>yH vB (K0 (I 12) hB nC) (zG v8 hB λvA=>sLen vA λvM=>IR.run F89.b2 C N (fnO F89.res K0) (IR.run F89.b9 C N (fnO F89.res K0) (zi F89.res K0)) (F89.fr a0 a1 v1 (I 0) v8 .u .u .u vB vA vM (I 0) .u .u) hB nC):=by
 rw [yK F89.tab];kernel_rfl
theorem F89.e2:IR.run F89.b4 C N ((fnO F89.res K0).blk 0 K) R (F89.fr a b c d e f g j q s i l p o) h nx =
 za .lss .int l i λv1=>yH v1 (zJ 1 s l λv2=>zG v2 h λv3=>za .lss .int v3 (I 0) λv4=>sG v4 false (λk=>k v3) λv5=>sG v4 false (λk=>zM 0 c k) λv6=>sG v4 false (λk=>zG v6 h k) λv7=>sG v4 false (λk=>za .geq .int v5 v7 k) λv8=>yQ v4 (.bool true) v8 λv9=>C.fn 88 (.of 88) [v9,(I 10)] h nx λvH hC nD=>za .gtr .int l (I 0) λvE=>sG vE true (λk=>zG e hC k) λvD=>sG vE true (λk=>k l) λvC=>sG vE true (λk=>za .sub .int vC (I 1) k) λvB=>sG vE true (λk=>zJ 1 vD vB k) λvA=>sG vE true (λk=>zG vA hC k) λvM=>sG vE true (λk=>k v3) λvZ=>sG vE true (λk=>za .geq .int vM vZ k) λv20=>yQ vE v20 (.bool false) λvL=>C.fn 88 (.of 88) [vL,(I 11)] hC nD λvK hL nM=>yS 1 2 [(I 0)] [(0,1,vH),(1,1,vK)] hL nM λv25 hM nN=>C.fn 86 (.of 86) [v25] hM nN λv28 hN nO=>za .neq .int v28 (I 0) λv31=>yH v31 (K0 v28 hN nO) (za .add .int l (I 1) λv32=>R (F89.fr a b c d e l v3 v28 q s i v32 v1 v31) hN nO)) (K (F89.fr a b c d e f g j q s i l v1 o) h nx):=by kernel_rfl
theorem F89.L2 (Inv:Nat->AV->T Blk->Pa->Prop) {m:Nat} (hm:m<N) (hi:Inv m l h nx)
  (step:∀ (m:Nat) (z3 z5 z6 z7 zC zI zA:AV) (h:T Blk) (nx:Pa) (R:Ks Prop),Inv m zC h nx->(∀ (m':Nat) (w3 w5 w6 w7 wC wH wA:AV) (h':T Blk) (nx':Pa),m'<m->Inv m' wC h' nx'->R (F89.fr a b c w3 e w5 w6 w7 q s i wC wH wA) h' nx'=.ok True) ->
   (za .lss .int zC i λv1=>yH v1 (zJ 1 s zC λv2=>zG v2 h λv3=>za .lss .int v3 (I 0) λv4=>sG v4 false (λk=>k v3) λv5=>sG v4 false (λk=>zM 0 c k) λv6=>sG v4 false (λk=>zG v6 h k) λv7=>sG v4 false (λk=>za .geq .int v5 v7 k) λv8=>yQ v4 (.bool true) v8 λv9=>C.fn 88 (.of 88) [v9,(I 10)] h nx λvH hC nD=>za .gtr .int zC (I 0) λvE=>sG vE true (λk=>zG e hC k) λvD=>sG vE true (λk=>k zC) λvC=>sG vE true (λk=>za .sub .int vC (I 1) k) λvB=>sG vE true (λk=>zJ 1 vD vB k) λvA=>sG vE true (λk=>zG vA hC k) λvM=>sG vE true (λk=>k v3) λvZ=>sG vE true (λk=>za .geq .int vM vZ k) λv20=>yQ vE v20 (.bool false) λvL=>C.fn 88 (.of 88) [vL,(I 11)] hC nD λvK hL nM=>yS 1 2 [(I 0)] [(0,1,vH),(1,1,vK)] hL nM λv25 hM nN=>C.fn 86 (.of 86) [v25] hM nN λv28 hN nO=>za .neq .int v28 (I 0) λv31=>yH v31 (K0 v28 hN nO) (za .add .int zC (I 1) λv32=>R (F89.fr a b c z3 e zC v3 v28 q s i v32 v1 v31) hN nO)) (K (F89.fr a b c z3 e z5 z6 z7 q s i zC v1 zA) h nx))=.ok True) :
  IR.run F89.b2 C N (fnO F89.res K0) K (F89.fr a b c d e f g j q s i l p o) h nx=.ok True:=by
 rw [F89.b2,F89.oo,F89.b3];refine yA (λm tm h nx=>∃ z3 z5 z6 z7 zC zI zA,tm=(F89.fr a b c z3 e z5 z6 z7 q s i zC zI zA)/\Inv m zC h nx) ?_ hm ⟨_,_,_,_,_,_,_,rfl,hi⟩;rintro m tm h nx R ⟨z3,z5,z6,z7,zC,zI,zA,rfl,hi⟩ hR;rw [F89.e2];exact step m z3 z5 z6 z7 zC zI zA h nx R hi λm' w3 w5 w6 w7 wC wH wA h' nx' hlt hi'=>hR m' _ h' nx' hlt ⟨_,_,_,_,_,_,_,rfl,hi'⟩
theorem F89.k9:IR.run F89.b9 C N (fnO F89.res K0) K (F89.fr a b c d e f g j q s i l p o) h nx =
 zM 1 c λv1=>zG v1 h λv2=>wX 1 v2 none (some b) none λv3=>C.fn 175 (.of 175) [v3,(.fn 176 (.of 176) [e])] h nx λv4 h5 n6=>C.fn 88 (.of 88) [v4,(I 9)] h5 n6 λv7 h8 n9=>K0 v7 h8 n9:=by kernel_rfl
end
end Go.Ev
