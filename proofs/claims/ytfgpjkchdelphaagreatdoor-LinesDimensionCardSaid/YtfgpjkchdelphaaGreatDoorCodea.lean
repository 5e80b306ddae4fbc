import Derived.Test.YtfgpjkchdelphaaGreatDoorIrT
import Derived.Test.YtfgpjkchdelphaaGreatDoorEvD
import Derived.KernelRfl
set_option linter.unusedSimpArgs false
set_option linter.unusedVariables false
namespace Go.Ev
open Go Go.Proofs
set_option maxRecDepth 100000
section
variable {N:Nat} {C:Calls Prop} {K0:Kw Prop} {K R:Ks Prop} {h:T Blk} {nx:Pa} {a b c d e f g j p s i l a0 a1 s0 s1 s2 s3 s4 s5 s6 s7 s8 s9 s10 s11 s12 s13 s14 s15 s16 s17 s18 s19 s20 s21 s22 s23 s24 s25 s26 s27 s28 s29 s30 s31 s32 s33 s34 s35 s36 s37 s38 s39 s40 s41 s42 s43 s44 s45 s46 s47 s48 s49 s50 s51 s52 s53 s54 s55 s56 s57 s58 s59 o q u y v w z A B D E a2 G H L M P Q:AV} {O:fC Prop} {tm:T AV} {Kt:KTm} {r:List RO} {sT:List AV}
theorem jb.zx:IR.run jb.t0 C N O K (jb.fr a b c d e f g j p s i l) h nx =
 K (jb.fr a b (.int .u64 0) (.int .u64 0) e f g j p s i l) h nx:=by kernel_rfl
theorem jb.zu:IR.run jb.t1 C N O K (jb.fr a b c d e f g j p s i l) h nx =
 za .and .int a (.int .u64 4294967295) λv1=>K (jb.fr a b c d v1 f g j p s i l) h nx:=by kernel_rfl
theorem jb.je:IR.run jb.t2 C N O K (jb.fr a b c d e f g j p s i l) h nx =
 za .shr .int a (.int .u64 32) λv1=>K (jb.fr a b c d e v1 g j p s i l) h nx:=by kernel_rfl
theorem jb.bq:IR.run jb.t3 C N O K (jb.fr a b c d e f g j p s i l) h nx =
 za .and .int b (.int .u64 4294967295) λv1=>K (jb.fr a b c d e f v1 j p s i l) h nx:=by kernel_rfl
theorem jb.fD:IR.run jb.t4 C N O K (jb.fr a b c d e f g j p s i l) h nx =
 za .shr .int b (.int .u64 32) λv1=>K (jb.fr a b c d e f g v1 p s i l) h nx:=by kernel_rfl
theorem jb.mg:IR.run jb.t5 C N O K (jb.fr a b c d e f g j p s i l) h nx =
 za .mul .int e g λv1=>K (jb.fr a b c d e f g j v1 s i l) h nx:=by kernel_rfl
theorem jb.qj:IR.run jb.t6 C N O K (jb.fr a b c d e f g j p s i l) h nx =
 za .mul .int f g λv1=>za .shr .int p (.int .u64 32) λv2=>za .add .int v1 v2 λv3=>K (jb.fr a b c d e f g j p v3 i l) h nx:=by kernel_rfl
theorem jb.nk:IR.run jb.t7 C N O K (jb.fr a b c d e f g j p s i l) h nx =
 za .and .int s (.int .u64 4294967295) λv1=>K (jb.fr a b c d e f g j p s v1 l) h nx:=by kernel_rfl
theorem jb.fQ:IR.run jb.t8 C N O K (jb.fr a b c d e f g j p s i l) h nx =
 za .shr .int s (.int .u64 32) λv1=>K (jb.fr a b c d e f g j p s i v1) h nx:=by kernel_rfl
theorem jb.nu:IR.run jb.t9 C N O K (jb.fr a b c d e f g j p s i l) h nx =
 za .mul .int e j λv1=>za .add .int i v1 λv2=>K (jb.fr a b c d e f g j p s v2 l) h nx:=by kernel_rfl
theorem jb.rH:IR.run jb.t10 C N O K (jb.fr a b c d e f g j p s i l) h nx =
 za .mul .int f j λv1=>za .add .int v1 l λv2=>za .shr .int i (.int .u64 32) λv3=>za .add .int v2 v3 λv4=>K (jb.fr a b v4 d e f g j p s i l) h nx:=by kernel_rfl
theorem jb.mh:IR.run jb.t11 C N O K (jb.fr a b c d e f g j p s i l) h nx =
 za .mul .int a b λv1=>K (jb.fr a b c v1 e f g j p s i l) h nx:=by kernel_rfl
theorem jb.go:zQ tbl N C (.of 263) [a0,a1] h nx K0=IR.run jb.t23 C N (fnO jb.res K0) (zi jb.res K0) (jb.fr a0 a1 .u .u .u .u .u .u .u .u .u .u) h nx:=yE (F:=jb) (by kernel_rfl) (λ_=>by kernel_rfl) (by kernel_rfl)
theorem jb.ret:zi jb.res K0 (jb.fr a b c d e f g j p s i l) h nx=K0 (.tup [c,d]) h nx:=by kernel_rfl
theorem xh.zx:IR.run xh.t0 C N O K (xh.fr a b c) h nx =
 K (xh.fr a (.int .u64 0) c) h nx:=by kernel_rfl
theorem xh.zu:IR.run xh.t1 C N O K (xh.fr a b c) h nx =
 za .lss .int a (I 0) λv1=>K (xh.fr a b v1) h nx:=by kernel_rfl
theorem xh.je:IR.run xh.t2 C N O K (xh.fr a b c) h nx =
 sNeg a λv1=>kJ .u64 v1 λv2=>K (xh.fr a v2 c) h nx:=by kernel_rfl
theorem xh.v2:Arg.ev (.t (.of 2)) ⟨(xh.fr a b c),[]⟩=c:=by kernel_rfl
theorem xh.qj:IR.run xh.t6 C N O K (xh.fr a b c) h nx =
 kJ .u64 a λv1=>K (xh.fr a v1 c) h nx:=by kernel_rfl
theorem xh.go:zQ tbl N C (.of 264) [a0] h nx K0=IR.run xh.t9 C N (fnO xh.res K0) (zi xh.res K0) (xh.fr a0 .u .u) h nx:=yE (F:=xh) (by kernel_rfl) (λ_=>by kernel_rfl) (by kernel_rfl)
theorem xh.ret:zi xh.res K0 (xh.fr a b c) h nx=K0 b h nx:=by kernel_rfl
theorem yh.zx:IR.run yh.t0 C N O K (yh.fr a b c d e) h nx =
 K (yh.fr a (I 0) c d e) h nx:=by kernel_rfl
theorem yh.zu:IR.run yh.t1 C N O K (yh.fr a b c d e) h nx =
 za .geq .int a (.int .u64 4294967296) λv1=>K (yh.fr a b v1 d e) h nx:=by kernel_rfl
theorem yh.je:IR.run yh.t2 C N O K (yh.fr a b c d e) h nx =
 za .shr .int a (.int .u64 32) λv1=>K (yh.fr v1 b c d e) h nx:=by kernel_rfl
theorem yh.bq:IR.run yh.t3 C N O K (yh.fr a b c d e) h nx =
 K (yh.fr a (I 32) c d e) h nx:=by kernel_rfl
theorem yh.v2:Arg.ev (.t (.of 2)) ⟨(yh.fr a b c d e),[]⟩=c:=by kernel_rfl
theorem yh.nk:IR.run yh.t7 C N O K (yh.fr a b c d e) h nx =
 za .geq .int a (.int .u64 65536) λv1=>K (yh.fr a b c v1 e) h nx:=by kernel_rfl
theorem yh.fQ:IR.run yh.t8 C N O K (yh.fr a b c d e) h nx =
 za .shr .int a (.int .u64 16) λv1=>K (yh.fr v1 b c d e) h nx:=by kernel_rfl
theorem yh.nu:IR.run yh.t9 C N O K (yh.fr a b c d e) h nx =
 za .add .int b (I 16) λv1=>K (yh.fr a v1 c d e) h nx:=by kernel_rfl
theorem yh.v3:Arg.ev (.t (.of 3)) ⟨(yh.fr a b c d e),[]⟩=d:=by kernel_rfl
theorem yh.fK:IR.run yh.t13 C N O K (yh.fr a b c d e) h nx =
 za .geq .int a (.int .u64 256) λv1=>K (yh.fr a b c d v1) h nx:=by kernel_rfl
theorem yh.rJ:IR.run yh.t14 C N O K (yh.fr a b c d e) h nx =
 za .shr .int a (.int .u64 8) λv1=>K (yh.fr v1 b c d e) h nx:=by kernel_rfl
theorem yh.tZ:IR.run yh.t15 C N O K (yh.fr a b c d e) h nx =
 za .add .int b (I 8) λv1=>K (yh.fr a v1 c d e) h nx:=by kernel_rfl
theorem yh.v4:Arg.ev (.t (.of 4)) ⟨(yh.fr a b c d e),[]⟩=e:=by kernel_rfl
theorem yh.nQ:IR.run yh.t19 C N O K (yh.fr a b c d e) h nx =
 kJ .u8 a λv1=>jO (.str [0,1,2,2,3,3,3,3,4,4,4,4,4,4,4,4,5,5,5,5,5,5,5,5,5,5,5,5,5,5,5,5,6,6,6,6,6,6,6,6,6,6,6,6,6,6,6,6,6,6,6,6,6,6,6,6,6,6,6,6,6,6,6,6,7,7,7,7,7,7,7,7,7,7,7,7,7,7,7,7,7,7,7,7,7,7,7,7,7,7,7,7,7,7,7,7,7,7,7,7,7,7,7,7,7,7,7,7,7,7,7,7,7,7,7,7,7,7,7,7,7,7,7,7,7,7,7,7,8,8,8,8,8,8,8,8,8,8,8,8,8,8,8,8,8,8,8,8,8,8,8,8,8,8,8,8,8,8,8,8,8,8,8,8,8,8,8,8,8,8,8,8,8,8,8,8,8,8,8,8,8,8,8,8,8,8,8,8,8,8,8,8,8,8,8,8,8,8,8,8,8,8,8,8,8,8,8,8,8,8,8,8,8,8,8,8,8,8,8,8,8,8,8,8,8,8,8,8,8,8,8,8,8,8,8,8,8,8,8,8,8,8,8,8,8,8,8,8,8,8,8,8,8,8,8,8]) v1 λv2=>kJ .i64 v2 λv3=>za .add .int b v3 λv4=>K (yh.fr a v4 c d e) h nx:=by kernel_rfl
theorem yh.go:zQ tbl N C (.of 312) [a0] h nx K0=IR.run yh.t24 C N (fnO yh.res K0) (zi yh.res K0) (yh.fr a0 .u .u .u .u) h nx:=yE (F:=yh) (by kernel_rfl) (λ_=>by kernel_rfl) (by kernel_rfl)
theorem yh.ret:zi yh.res K0 (yh.fr a b c d e) h nx=K0 b h nx:=by kernel_rfl
theorem qd.zx:IR.run qd.t0 C N O K (qd.fr a b c d e f) h nx =
 dh a h nx λv1 h2 n3=>K (qd.fr a v1 (.bool false) .zb e f) h2 n3:=by kernel_rfl
theorem qd.zu:IR.run qd.t1 C N O K (qd.fr a b c d e f) h nx =
 zK 1 b λv1=>zI v1 h λv2=>za .neq (.nil .sl) v2 .zb λv3=>K (qd.fr a b c d v3 f) h nx:=by kernel_rfl
theorem qd.fD:IR.run qd.t4 C N O K (qd.fr a b c d e f) h nx =
 zK 0 b λv1=>zI v1 h λv2=>za .eql .int v2 (I 0) λv3=>K (qd.fr a b c d e v3) h nx:=by kernel_rfl
theorem qd.mg:IR.run qd.t5 C N O K (qd.fr a b c d e f) h nx =
 K (qd.fr a b (.bool false) .zb e f) h nx:=by kernel_rfl
theorem qd.v5:Arg.ev (.t (.of 5)) ⟨(qd.fr a b c d e f),[]⟩=f:=by kernel_rfl
theorem qd.v4:Arg.ev (.t (.of 4)) ⟨(qd.fr a b c d e f),[]⟩=e:=by kernel_rfl
theorem qd.fB:IR.run qd.t12 C N O K (qd.fr a b c d e f) h nx =
 zK 0 b λv1=>zI v1 h λv2=>za .lss .int v2 (I 0) λv3=>zK 0 b λv4=>zI v4 h λv5=>C.fn 264 (.of 264) [v5] h nx λv6 h7 n8=>(za .lss .int v2 (I 0) λvA=>zR vA v3 ((zI v1 h7 λvB=>zR vB v2 ((zK 0 b λvC=>zR vC v1 (jM 1 1 [(.int .u64 0)] [(0,1,v6)] h7 n8 λv9 hA nA=>zR v3 v3 ((za .lss .int v2 (I 0) λvD=>zR vD v3 ((zI v1 hA λvE=>zR vE v2 ((zK 0 b λvF=>zR vF v1 (K (qd.fr a b v3 v9 e f) hA nA))))))))))))):=by kernel_rfl
theorem qd.go:zQ tbl N C (.of 249) [a0] h nx K0=IR.run qd.t15 C N (fnO qd.res K0) (zi qd.res K0) (qd.fr a0 .u .u .u .u .u) h nx:=yE (F:=qd) (by kernel_rfl) (λ_=>by kernel_rfl) (by kernel_rfl)
theorem qd.ret:zi qd.res K0 (qd.fr a b c d e f) h nx=K0 (.tup [c,d]) h nx:=by kernel_rfl
theorem bf.zx:IR.run bf.t0 C N O K (bf.fr a b) h nx =
 yR [(I 0),.zb] h nx λv1 h2 n3=>K (bf.fr a v1) h2 n3:=by kernel_rfl
theorem bf.zu:IR.run bf.t1 C N O K (bf.fr a b) h nx =
 gF [(I 0),.zb] [(0,1,a)] λv1=>zT 2 b v1 h nx λv2 h3 n4=>K (bf.fr a b) h3 n4:=by kernel_rfl
theorem bf.go:zQ tbl N C (.of 187) [a0] h nx K0=IR.run bf.t3 C N (fnO bf.res K0) (zi bf.res K0) (bf.fr a0 .u) h nx:=yE (F:=bf) (by kernel_rfl) (λ_=>by kernel_rfl) (by kernel_rfl)
theorem bf.ret:zi bf.res K0 (bf.fr a b) h nx=zG 2 b h λv1=>K0 v1 h nx:=by kernel_rfl
theorem bT.zx:IR.run bT.t0 C N O K (bT.fr a b c) h nx =
 dh a h nx λv1 h2 n3=>K (bT.fr a v1 (I 0)) h2 n3:=by kernel_rfl
theorem bT.zu:IR.run bT.t1 C N O K (bT.fr a b c) h nx =
 zK 0 b λv1=>zI v1 h λv2=>sMin false (I 1) [v2] λv3=>sMin true (I (-1)) [v3] λv4=>K (bT.fr a b v4) h nx:=by kernel_rfl
theorem bT.go:zQ tbl N C (.of 194) [a0] h nx K0=IR.run bT.t3 C N (fnO bT.res K0) (zi bT.res K0) (bT.fr a0 .u .u) h nx:=yE (F:=bT) (by kernel_rfl) (λ_=>by kernel_rfl) (by kernel_rfl)
theorem bT.ret:zi bT.res K0 (bT.fr a b c) h nx=K0 c h nx:=by kernel_rfl
theorem dw.zx:IR.run dw.t0 C N O K (dw.fr a b c d e f) h nx =
 dh a h nx λv1 h2 n3=>yR [(I 0),.zb] h2 n3 λv4 h5 n6=>K (dw.fr a v1 v4 d e f) h5 n6:=by kernel_rfl
theorem dw.zu:IR.run dw.t1 C N O K (dw.fr a b c d e f) h nx =
 zK 1 b λv1=>zI v1 h λv2=>za .eql (.nil .sl) v2 .zb λv3=>sG v3 true (λk=>zK 0 b k) λv4=>sG v3 true (λk=>zI v4 h k) λv5=>sG v3 true (λk=>za .neq .int v5 (I (-9223372036854775808)) k) λv6=>yP v3 v6 (.bool false) λv7=>K (dw.fr a b c d e v7) h nx:=by kernel_rfl
theorem dw.je:IR.run dw.t2 C N O K (dw.fr a b c d e f) h nx =
 zK 0 b λv1=>zI v1 h λv2=>sNeg v2 λv3=>gF [(I 0),.zb] [(0,1,v3)] λv4=>zT 2 c v4 h nx λv5 h6 n7=>K (dw.fr a b c d e f) h6 n7:=by kernel_rfl
theorem dw.v5:Arg.ev (.t (.of 5)) ⟨(dw.fr a b c d e f),[]⟩=f:=by kernel_rfl
theorem dw.go:zQ tbl N C (.of 193) [a0] h nx K0=IR.run dw.t11 C N (fnO dw.res K0) (zi dw.res K0) (dw.fr a0 .u .u .u .u .u) h nx:=yE (F:=dw) (by kernel_rfl) (λ_=>by kernel_rfl) (by kernel_rfl)
theorem dw.ret:zi dw.res K0 (dw.fr a b c d e f) h nx=zG 2 c h λv1=>K0 v1 h nx:=by kernel_rfl
theorem jq.zx:IR.run jq.t0 C N O K (jq.fr a b c) h nx =
 K (jq.fr a .zb c) h nx:=by kernel_rfl
theorem jq.zu:IR.run jq.t1 C N O K tm h nx=zS jq.nR C ⟨tm,[]⟩ h nx (λtm h nx=>K tm.v h nx):=jC ..
theorem jq.nS:zS (jq.fV r) C ⟨(jq.fr a b c),[]⟩ h nx Kt =
 sLen a λv1=>za .gtr .int v1 (I 0) λv2=>sG v2 true (λk=>k a) λv3=>sG v2 true (λk=>k a) λv4=>sG v2 true (λk=>sLen v4 k) λv5=>sG v2 true (λk=>za .sub .int v5 (I 1) k) λv6=>zS r C ⟨(jq.fr a b c),v6::v5::v4::v3::v2::v2::v1::a::[]⟩ h nx Kt:=by kernel_rfl
theorem jq.fT:zS (jq.fZ []) C ⟨(jq.fr a b c),s0::s1::s2::s3::s4::sT⟩ h nx Kt =
 sG s4 true (λk=>zN 1 s3 s0 k) λv1=>sG s4 true (λk=>zI v1 h k) λv2=>sG s4 true (λk=>za .eql .int v2 (I 0) k) λv3=>yP s4 v3 (.bool false) λv4=>Kt ⟨(jq.fr a b v4),v3::v2::v1::s0::s1::s2::s3::s4::sT⟩ h nx:=by kernel_rfl
theorem jq.v2:Arg.ev (.t (.of 2)) ⟨(jq.fr a b c),[]⟩=c:=by kernel_rfl
theorem jq.fD:IR.run jq.t4 C N O K (jq.fr a b c) h nx =
 sLen a λv1=>za .sub .int v1 (I 1) λv2=>xS 1 a none (some v2) none λv3=>K (jq.fr v3 b c) h nx:=by kernel_rfl
theorem jq.t7_L (Inv:Nat->AV->T Blk->Pa->Prop) {m:Nat} (hm:m<N) (hi:Inv m a h nx)
  (step:∀ (m:Nat) (z0 z2:AV) (h:T Blk) (nx:Pa) (R:Ks Prop),Inv m z0 h nx->(∀ (m':Nat) (w0 w2:AV) (h':T Blk) (nx':Pa),m'<m->Inv m' w0 h' nx'->R (jq.fr w0 b w2) h' nx'=.ok True)->IR.run jq.t6 C N O R (jq.fr z0 b z2) h nx=.ok True) :
  IR.run jq.t7 C N O K (jq.fr a b c) h nx=.ok True:=by
 rw [jq.t7];refine yC (λm tm h nx=>∃ z0 z2,tm=(jq.fr z0 b z2)/\Inv m z0 h nx) ?_ hm ⟨_,_,rfl,hi⟩;rintro m tm h nx R ⟨z0,z2,rfl,hi⟩ hR;exact step m z0 z2 h nx R hi λm' w0 w2 h' nx' hlt hi'=>hR m' _ h' nx' hlt ⟨_,_,rfl,hi'⟩
theorem jq.nu:IR.run jq.t9 C N O K (jq.fr a b c) h nx =
 K (jq.fr a a c) h nx:=by kernel_rfl
theorem jq.go:zQ tbl N C (.of 269) [a0] h nx K0=IR.run jq.t12 C N (fnO jq.res K0) (zi jq.res K0) (jq.fr a0 .u .u) h nx:=yE (F:=jq) (by kernel_rfl) (λ_=>by kernel_rfl) (by kernel_rfl)
theorem jq.ret:zi jq.res K0 (jq.fr a b c) h nx=K0 b h nx:=by kernel_rfl
theorem dx.zx:IR.run dx.t0 C N O K (dx.fr a b c) h nx =
 yR [(.bool false),.zb] h nx λv1 h2 n3=>K (dx.fr a b v1) h2 n3:=by kernel_rfl
theorem dx.zu:IR.run dx.t1 C N O K (dx.fr a b c) h nx =
 C.fn 269 (.of 269) [b] h nx λv1 h2 n3=>K (dx.fr a v1 c) h2 n3:=by kernel_rfl
theorem dx.je:IR.run dx.t2 C N O K (dx.fr a b c) h nx =
 sG a true (λk=>k b) λv1=>sG a true (λk=>sLen v1 k) λv2=>sG a true (λk=>za .gtr .int v2 (I 0) k) λv3=>yP a v3 (.bool false) λv4=>gF [(.bool false),.zb] [(0,1,v4),(1,1,b)] λv5=>zT 2 c v5 h nx λv6 h7 n8=>K (dx.fr a b c) h7 n8:=by kernel_rfl
theorem dx.go:zQ tbl N C (.of 214) [a0,a1] h nx K0=IR.run dx.t5 C N (fnO dx.res K0) (zi dx.res K0) (dx.fr a0 a1 .u) h nx:=yE (F:=dx) (by kernel_rfl) (λ_=>by kernel_rfl) (by kernel_rfl)
theorem dx.ret:zi dx.res K0 (dx.fr a b c) h nx=zG 2 c h λv1=>K0 v1 h nx:=by kernel_rfl
theorem zy.zx:IR.run zy.t0 C N O K (zy.fr a b c d e f g j p) h nx =
 K (zy.fr a b (I 0) d e f g j p) h nx:=by kernel_rfl
theorem zy.zu:IR.run zy.t1 C N O K (zy.fr a b c d e f g j p) h nx =
 sLen a λv1=>sLen b λv2=>za .neq .int v1 v2 λv3=>K (zy.fr a b c d v3 f g j p) h nx:=by kernel_rfl
theorem zy.je:IR.run zy.t2 C N O K (zy.fr a b c d e f g j p) h nx =
 sLen a λv1=>sLen b λv2=>za .lss .int v1 v2 λv3=>K (zy.fr a b c d e v3 g j p) h nx:=by kernel_rfl
theorem zy.bq:IR.run zy.t3 C N O K (zy.fr a b c d e f g j p) h nx =
 K (zy.fr a b (I (-1)) d e f g j p) h nx:=by kernel_rfl
theorem zy.v5:Arg.ev (.t (.of 5)) ⟨(zy.fr a b c d e f g j p),[]⟩=f:=by kernel_rfl
theorem zy.nk:IR.run zy.t7 C N O K (zy.fr a b c d e f g j p) h nx =
 K (zy.fr a b (I 1) d e f g j p) h nx:=by kernel_rfl
theorem zy.v4:Arg.ev (.t (.of 4)) ⟨(zy.fr a b c d e f g j p),[]⟩=e:=by kernel_rfl
theorem zy.fB:IR.run zy.t12 C N O K (zy.fr a b c d e f g j p) h nx =
 sLen a λv1=>za .sub .int v1 (I 1) λv2=>K (zy.fr a b c v2 e f g j p) h nx:=by kernel_rfl
theorem zy.fK:IR.run zy.t13 C N O K (zy.fr a b c d e f g j p) h nx =
 za .geq .int d (I 0) λv1=>K (zy.fr a b c d e f v1 j p) h nx:=by kernel_rfl
theorem zy.v6:Arg.ev (.t (.of 6)) ⟨(zy.fr a b c d e f g j p),[]⟩=g:=by kernel_rfl
theorem zy.sJ:IR.run zy.t16 C N O K (zy.fr a b c d e f g j p) h nx =
 zN 1 a d λv1=>zI v1 h λv2=>zN 1 b d λv3=>zI v3 h λv4=>za .lss .int v2 v4 λv5=>K (zy.fr a b c d e f g v5 p) h nx:=by kernel_rfl
theorem zy.nV:IR.run zy.t17 C N O K (zy.fr a b c d e f g j p) h nx =
 K (zy.fr a b (I (-1)) d e f g j p) h nx:=by kernel_rfl
theorem zy.v7:Arg.ev (.t (.of 7)) ⟨(zy.fr a b c d e f g j p),[]⟩=j:=by kernel_rfl
theorem zy.zk1:IR.run zy.t21 C N O K (zy.fr a b c d e f g j p) h nx =
 zN 1 a d λv1=>zI v1 h λv2=>zN 1 b d λv3=>zI v3 h λv4=>za .gtr .int v2 v4 λv5=>K (zy.fr a b c d e f g j v5) h nx:=by kernel_rfl
theorem zy.sZ:IR.run zy.t22 C N O K (zy.fr a b c d e f g j p) h nx =
 K (zy.fr a b (I 1) d e f g j p) h nx:=by kernel_rfl
theorem zy.v8:Arg.ev (.t (.of 8)) ⟨(zy.fr a b c d e f g j p),[]⟩=p:=by kernel_rfl
theorem zy.zdq:IR.run zy.t28 C N O K (zy.fr a b c d e f g j p) h nx =
 za .sub .int d (I 1) λv1=>K (zy.fr a b c v1 e f g j p) h nx:=by kernel_rfl
theorem zy.zk2 (Inv:Nat->AV->T Blk->Pa->Prop) {m:Nat} (hm:m<N) (hi:Inv m d h nx)
  (step:∀ (m:Nat) (z2 z3 z6 z7 z8:AV) (h:T Blk) (nx:Pa) (R:Ks Prop),Inv m z3 h nx->(∀ (m':Nat) (w2 w3 w6 w7 w8:AV) (h':T Blk) (nx':Pa),m'<m->Inv m' w3 h' nx'->R (zy.fr a b w2 w3 e f w6 w7 w8) h' nx'=.ok True)->IR.run zy.t30 C N O R (zy.fr a b z2 z3 e f z6 z7 z8) h nx=.ok True) :
  IR.run zy.t31 C N O K (zy.fr a b c d e f g j p) h nx=.ok True:=by
 rw [zy.t31];refine yC (λm tm h nx=>∃ z2 z3 z6 z7 z8,tm=(zy.fr a b z2 z3 e f z6 z7 z8)/\Inv m z3 h nx) ?_ hm ⟨_,_,_,_,_,rfl,hi⟩;rintro m tm h nx R ⟨z2,z3,z6,z7,z8,rfl,hi⟩ hR;exact step m z2 z3 z6 z7 z8 h nx R hi λm' w2 w3 w6 w7 w8 h' nx' hlt hi'=>hR m' _ h' nx' hlt ⟨_,_,_,_,_,rfl,hi'⟩
theorem zy.af:IR.run zy.t34 C N O K (zy.fr a b c d e f g j p) h nx =
 K (zy.fr a b (I 0) d e f g j p) h nx:=by kernel_rfl
theorem zy.go:zQ tbl N C (.of 216) [a0,a1] h nx K0=IR.run zy.t38 C N (fnO zy.res K0) (zi zy.res K0) (zy.fr a0 a1 .u .u .u .u .u .u .u) h nx:=yE (F:=zy) (by kernel_rfl) (λ_=>by kernel_rfl) (by kernel_rfl)
theorem zy.ret:zi zy.res K0 (zy.fr a b c d e f g j p) h nx=K0 c h nx:=by kernel_rfl
theorem yw.zx:IR.run yw.t0 C N O K (yw.fr a b c d e f g j p) h nx =
 K (yw.fr a b .zb (I 0) e f g j p) h nx:=by kernel_rfl
theorem yw.zu:IR.run yw.t1 C N O K (yw.fr a b c d e f g j p) h nx =
 sLen a λv1=>qO 1 8 [(I 0)] v1 v1 h nx λv2 h3 n4=>K (yw.fr a b c d v2 f g j p) h3 n4:=by kernel_rfl
theorem yw.je:IR.run yw.t2 C N O K (yw.fr a b c d e f g j p) h nx =
 K (yw.fr a b c d e (I 0) g j p) h nx:=by kernel_rfl
theorem yw.bq:IR.run yw.t3 C N O K (yw.fr a b c d e f g j p) h nx =
 sLen a λv1=>za .sub .int v1 (I 1) λv2=>K (yw.fr a b c d e f v2 j p) h nx:=by kernel_rfl
theorem yw.fD:IR.run yw.t4 C N O K (yw.fr a b c d e f g j p) h nx =
 za .geq .int g (I 0) λv1=>K (yw.fr a b c d e f g j v1) h nx:=by kernel_rfl
theorem yw.v8:Arg.ev (.t (.of 8)) ⟨(yw.fr a b c d e f g j p),[]⟩=p:=by kernel_rfl
theorem yw.nk:IR.run yw.t7 C N O K (yw.fr a b c d e f g j p) h nx =
 za .mul .int f (I 1000000000) λv1=>zN 1 a g λv2=>zI v2 h λv3=>za .add .int v1 v3 λv4=>K (yw.fr a b c d e f g v4 p) h nx:=by kernel_rfl
theorem yw.fQ:IR.run yw.t8 C N O K (yw.fr a b c d e f g j p) h nx =
 za .quo .int j b λv1=>zN 1 e g λv2=>zT 1 v2 v1 h nx λv3 h4 n5=>K (yw.fr a b c d e f g j p) h4 n5:=by kernel_rfl
theorem yw.nu:IR.run yw.t9 C N O K (yw.fr a b c d e f g j p) h nx =
 za .rem .int j b λv1=>K (yw.fr a b c d e v1 g j p) h nx:=by kernel_rfl
theorem yw.fK:IR.run yw.t13 C N O K (yw.fr a b c d e f g j p) h nx =
 za .sub .int g (I 1) λv1=>K (yw.fr a b c d e f v1 j p) h nx:=by kernel_rfl
theorem yw.tq (Inv:Nat->AV->AV->T Blk->Pa->Prop) {m:Nat} (hm:m<N) (hi:Inv m f g h nx)
  (step:∀ (m:Nat) (z5 z6 z7 z8:AV) (h:T Blk) (nx:Pa) (R:Ks Prop),Inv m z5 z6 h nx->(∀ (m':Nat) (w5 w6 w7 w8:AV) (h':T Blk) (nx':Pa),m'<m->Inv m' w5 w6 h' nx'->R (yw.fr a b c d e w5 w6 w7 w8) h' nx'=.ok True)->IR.run yw.t15 C N O R (yw.fr a b c d e z5 z6 z7 z8) h nx=.ok True) :
  IR.run yw.t16 C N O K (yw.fr a b c d e f g j p) h nx=.ok True:=by
 rw [yw.t16];refine yC (λm tm h nx=>∃ z5 z6 z7 z8,tm=(yw.fr a b c d e z5 z6 z7 z8)/\Inv m z5 z6 h nx) ?_ hm ⟨_,_,_,_,rfl,hi⟩;rintro m tm h nx R ⟨z5,z6,z7,z8,rfl,hi⟩ hR;exact step m z5 z6 z7 z8 h nx R hi λm' w5 w6 w7 w8 h' nx' hlt hi'=>hR m' _ h' nx' hlt ⟨_,_,_,_,rfl,hi'⟩
theorem yw.nQ:IR.run yw.t19 C N O K (yw.fr a b c d e f g j p) h nx =
 C.fn 269 (.of 269) [e] h nx λv1 h2 n3=>K (yw.fr a b v1 f e f g j p) h2 n3:=by kernel_rfl
theorem yw.go:zQ tbl N C (.of 268) [a0,a1] h nx K0=IR.run yw.t24 C N (fnO yw.res K0) (zi yw.res K0) (yw.fr a0 a1 .u .u .u .u .u .u .u) h nx:=yE (F:=yw) (by kernel_rfl) (λ_=>by kernel_rfl) (by kernel_rfl)
theorem yw.ret:zi yw.res K0 (yw.fr a b c d e f g j p) h nx=K0 (.tup [c,d]) h nx:=by kernel_rfl
theorem qg.zx:IR.run qg.t0 C N O K (qg.fr a b c d e f g j p s i l o q) h nx =
 dh a h nx λv1 h2 n3=>dh b h2 n3 λv4 h5 n6=>yR [(I 0),.zb] h5 n6 λv7 h8 n9=>K (qg.fr a b v1 v4 v7 f g j p s i l o q) h8 n9:=by kernel_rfl
theorem qg.zu:IR.run qg.t1 C N O K (qg.fr a b c d e f g j p s i l o q) h nx =
 zK 1 c λv1=>zI v1 h λv2=>za .eql (.nil .sl) v2 .zb λv3=>sG v3 true (λk=>zK 1 d k) λv4=>sG v3 true (λk=>zI v4 h k) λv5=>sG v3 true (λk=>za .eql (.nil .sl) v5 .zb k) λv6=>yP v3 v6 (.bool false) λv7=>K (qg.fr a b c d e f g j p s v7 l o q) h nx:=by kernel_rfl
theorem qg.je:IR.run qg.t2 C N O K (qg.fr a b c d e f g j p s i l o q) h nx =
 zK 0 c λv1=>zI v1 h λv2=>zK 0 d λv3=>zI v3 h λv4=>za .add .int v2 v4 λv5=>K (qg.fr a b c d e v5 g j p s i l o q) h nx:=by kernel_rfl
theorem qg.bq:IR.run qg.t3 C N O K (qg.fr a b c d e f g j p s i l o q) h nx =
 zK 0 c λv1=>zI v1 h λv2=>za .gtr .int f v2 λv3=>zK 0 d λv4=>zI v4 h λv5=>za .gtr .int v5 (I 0) λv6=>za .eql .bool v3 v6 λv7=>K (qg.fr a b c d e f g j p s i v7 o q) h nx:=by kernel_rfl
theorem qg.fD:IR.run qg.t4 C N O K (qg.fr a b c d e f g j p s i l o q) h nx =
 gF [(I 0),.zb] [(0,1,f)] λv1=>zT 2 e v1 h nx λv2 h3 n4=>K (qg.fr a b c d e f g j p s i l o q) h3 n4:=by kernel_rfl
theorem qg.v11:Arg.ev (.t (.of 11)) ⟨(qg.fr a b c d e f g j p s i l o q),[]⟩=l:=by kernel_rfl
theorem qg.v10:Arg.ev (.t (.of 10)) ⟨(qg.fr a b c d e f g j p s i l o q),[]⟩=i:=by kernel_rfl
theorem qg.go:zQ tbl N C (.of 197) [a0,a1] h nx K0=IR.run qg.t30 C N (fnO qg.res K0) (zi qg.res K0) (qg.fr a0 a1 .u .u .u .u .u .u .u .u .u .u .u .u) h nx:=yE (F:=qg) (by kernel_rfl) (λ_=>by kernel_rfl) (by kernel_rfl)
theorem qg.ret:zi qg.res K0 (qg.fr a b c d e f g j p s i l o q) h nx=zG 2 e h λv1=>K0 v1 h nx:=by kernel_rfl
theorem gy.zx:IR.run gy.t0 C N O K (gy.fr a b c d e f g j p s i l o q) h nx =
 dh a h nx λv1 h2 n3=>dh b h2 n3 λv4 h5 n6=>yR [(I 0),.zb] h5 n6 λv7 h8 n9=>K (gy.fr a b v1 v4 v7 f g j p s i l o q) h8 n9:=by kernel_rfl
theorem gy.zu:IR.run gy.t1 C N O K (gy.fr a b c d e f g j p s i l o q) h nx =
 zK 1 c λv1=>zI v1 h λv2=>za .eql (.nil .sl) v2 .zb λv3=>sG v3 true (λk=>zK 1 d k) λv4=>sG v3 true (λk=>zI v4 h k) λv5=>sG v3 true (λk=>za .eql (.nil .sl) v5 .zb k) λv6=>yP v3 v6 (.bool false) λv7=>K (gy.fr a b c d e f g j p s i v7 o q) h nx:=by kernel_rfl
theorem gy.je:IR.run gy.t2 C N O K (gy.fr a b c d e f g j p s i l o q) h nx =
 zK 0 c λv1=>zI v1 h λv2=>zK 0 d λv3=>zI v3 h λv4=>C.fn 264 (.of 264) [v2] h nx λv5 h6 n7=>(zI v3 h6 λvA=>zR vA v4 ((zK 0 d λvB=>zR vB v3 (C.fn 264 (.of 264) [v4] h6 n7 λv8 h9 nB=>C.fn 263 (.of 263) [v5,v8] h9 nB λvG hB nC=>fJ 0 vG λvD=>fJ 1 vG λvC=>K (gy.fr a b c d e vD vC j p s i l o q) hB nC)))):=by kernel_rfl
theorem gy.bq:IR.run gy.t3 C N O K (gy.fr a b c d e f g j p s i l o q) h nx =
 za .eql .int f (.int .u64 0) λv1=>sG v1 true (λk=>k g) λv2=>sG v1 true (λk=>za .leq .int v2 (.int .u64 9223372036854775807) k) λv3=>yP v1 v3 (.bool false) λv4=>K (gy.fr a b c d e f g j p s i l v4 q) h nx:=by kernel_rfl
theorem gy.fD:IR.run gy.t4 C N O K (gy.fr a b c d e f g j p s i l o q) h nx =
 zK 0 c λv1=>zI v1 h λv2=>za .lss .int v2 (I 0) λv3=>zK 0 d λv4=>zI v4 h λv5=>za .lss .int v5 (I 0) λv6=>za .neq .bool v3 v6 λv7=>K (gy.fr a b c d e f g j p s i l o v7) h nx:=by kernel_rfl
theorem gy.mg:IR.run gy.t5 C N O K (gy.fr a b c d e f g j p s i l o q) h nx =
 kJ .i64 g λv1=>sNeg v1 λv2=>gF [(I 0),.zb] [(0,1,v2)] λv3=>zT 2 e v3 h nx λv4 h5 n6=>K (gy.fr a b c d e f g j p s i l o q) h5 n6:=by kernel_rfl
theorem gy.v13:Arg.ev (.t (.of 13)) ⟨(gy.fr a b c d e f g j p s i l o q),[]⟩=q:=by kernel_rfl
theorem gy.nu:IR.run gy.t9 C N O K (gy.fr a b c d e f g j p s i l o q) h nx =
 kJ .i64 g λv1=>gF [(I 0),.zb] [(0,1,v1)] λv2=>zT 2 e v2 h nx λv3 h4 n5=>K (gy.fr a b c d e f g j p s i l o q) h4 n5:=by kernel_rfl
theorem gy.v12:Arg.ev (.t (.of 12)) ⟨(gy.fr a b c d e f g j p s i l o q),[]⟩=o:=by kernel_rfl
theorem gy.v11:Arg.ev (.t (.of 11)) ⟨(gy.fr a b c d e f g j p s i l o q),[]⟩=l:=by kernel_rfl
theorem gy.go:zQ tbl N C (.of 198) [a0,a1] h nx K0=IR.run gy.t24 C N (fnO gy.res K0) (zi gy.res K0) (gy.fr a0 a1 .u .u .u .u .u .u .u .u .u .u .u .u) h nx:=yE (F:=gy) (by kernel_rfl) (λ_=>by kernel_rfl) (by kernel_rfl)
theorem gy.ret:zi gy.res K0 (gy.fr a b c d e f g j p s i l o q) h nx=zG 2 e h λv1=>K0 v1 h nx:=by kernel_rfl
theorem jr.zx:IR.run jr.t0 C N O K (jr.fr a b c d e f g j p s i l o q u y v w) h nx =
 dh a h nx λv1 h2 n3=>dh b h2 n3 λv4 h5 n6=>yR [(I 0),.zb] h5 n6 λv7 h8 n9=>yR [(I 0),.zb] h8 n9 λvH hC nD=>K (jr.fr a b v1 v4 v7 vH g j p s i l o q u y v w) hC nD:=by kernel_rfl
theorem jr.zu:IR.run jr.t1 C N O K tm h nx=zS jr.nR C ⟨tm,[]⟩ h nx (λtm h nx=>K tm.v h nx):=jC ..
theorem jr.nS:zS (jr.fV r) C ⟨(jr.fr a b c d e f g j p s i l o q u y v w),[]⟩ h nx Kt =
 zK 1 c λv1=>zI v1 h λv2=>za .eql (.nil .sl) v2 .zb λv3=>sG v3 true (λk=>zK 1 d k) λv4=>sG v3 true (λk=>zI v4 h k) λv5=>sG v3 true (λk=>za .eql (.nil .sl) v5 .zb k) λv6=>yP v3 v6 (.bool false) λv7=>zS r C ⟨(jr.fr a b c d e f g j p s i l o q u y v w),v7::v6::v5::v4::v3::v3::v2::v1::[]⟩ h nx Kt:=by kernel_rfl
theorem jr.fT:zS (jr.fZ []) C ⟨(jr.fr a b c d e f g j p s i l o q u y v w),s0::sT⟩ h nx Kt =
 sG s0 true (λk=>zK 0 c k) λv1=>sG s0 true (λk=>zI v1 h k) λv2=>sG s0 true (λk=>za .neq .int v2 (I (-9223372036854775808)) k) λv3=>yP s0 v3 (.bool false) λv4=>Kt ⟨(jr.fr a b c d e f g j p s i l o q u v4 v w),v3::v2::v1::s0::s0::sT⟩ h nx:=by kernel_rfl
theorem jr.je:IR.run jr.t2 C N O K (jr.fr a b c d e f g j p s i l o q u y v w) h nx =
 zK 0 c λv1=>zI v1 h λv2=>zK 0 d λv3=>zI v3 h λv4=>za .quo .int v2 v4 λv5=>zK 0 c λv6=>zI v6 h λv7=>zK 0 d λv8=>zI v8 h λv9=>za .rem .int v7 v9 λvH=>K (jr.fr a b c d e f v5 vH p s i l o q u y v w) h nx:=by kernel_rfl
theorem jr.bq:IR.run jr.t3 C N O K (jr.fr a b c d e f g j p s i l o q u y v w) h nx =
 za .lss .int j (I 0) λv1=>K (jr.fr a b c d e f g j p s i l o q u y v1 w) h nx:=by kernel_rfl
theorem jr.fD:IR.run jr.t4 C N O K (jr.fr a b c d e f g j p s i l o q u y v w) h nx =
 za .sub .int g (I 1) λv1=>zK 0 d λv2=>zI v2 h λv3=>za .add .int j v3 λv4=>K (jr.fr a b c d e f v1 v4 p s i l o q u y v w) h nx:=by kernel_rfl
theorem jr.v16:Arg.ev (.t (.of 16)) ⟨(jr.fr a b c d e f g j p s i l o q u y v w),[]⟩=v:=by kernel_rfl
theorem jr.nk:IR.run jr.t7 C N O K (jr.fr a b c d e f g j p s i l o q u y v w) h nx =
 gF [(I 0),.zb] [(0,1,g)] λv1=>gF [(I 0),.zb] [(0,1,j)] λv2=>zT 2 e v1 h nx λv3 h4 n5=>zT 2 f v2 h4 n5 λv6 h7 n8=>K (jr.fr a b c d e f g j p s i l o q u y v w) h7 n8:=by kernel_rfl
theorem jr.v15:Arg.ev (.t (.of 15)) ⟨(jr.fr a b c d e f g j p s i l o q u y v w),[]⟩=y:=by kernel_rfl
theorem jr.go:zQ tbl N C (.of 201) [a0,a1] h nx K0=IR.run jr.t29 C N (fnO jr.res K0) (zi jr.res K0) (jr.fr a0 a1 .u .u .u .u .u .u .u .u .u .u .u .u .u .u .u .u) h nx:=yE (F:=jr) (by kernel_rfl) (λ_=>by kernel_rfl) (by kernel_rfl)
theorem jr.ret:zi jr.res K0 (jr.fr a b c d e f g j p s i l o q u y v w) h nx=zG 2 e h λv1=>zG 2 f h λv2=>K0 (.tup [v1,v2]) h nx:=by kernel_rfl
theorem kz.zx:IR.run kz.t0 C N O K (kz.fr a b c d e f g) h nx =
 dh a h nx λv1 h2 n3=>dh b h2 n3 λv4 h5 n6=>yR [(I 0),.zb] h5 n6 λv7 h8 n9=>K (kz.fr a b v1 v4 v7 f g) h8 n9:=by kernel_rfl
theorem kz.zu:IR.run kz.t1 C N O K (kz.fr a b c d e f g) h nx =
 zG 2 d h λv1=>C.fn 194 (.of 194) [v1] h nx λv2 h3 n4=>za .lss .int v2 (I 0) λv5=>K (kz.fr a b c d e f v5) h3 n4:=by kernel_rfl
theorem kz.je:IR.run kz.t2 C N O K (kz.fr a b c d e f g) h nx =
 zG 2 c h λv1=>zG 2 d h λv2=>C.fn 193 (.of 193) [v1] h nx λv3 h4 n5=>(zG 2 d h4 λvC=>zR vC v2 (C.fn 193 (.of 193) [v2] h4 n5 λv6 h7 n8=>zT 2 c v3 h7 n8 λv9 hA nA=>zT 2 d v6 hA nA λvF hD nE=>K (kz.fr a b c d e f g) hD nE)):=by kernel_rfl
theorem kz.v6:Arg.ev (.t (.of 6)) ⟨(kz.fr a b c d e f g),[]⟩=g:=by kernel_rfl
theorem kz.mg:IR.run kz.t5 C N O K (kz.fr a b c d e f g) h nx =
 zG 2 c h λv1=>zG 2 d h λv2=>C.fn 201 (.of 201) [v1,v2] h nx λv3 h4 n5=>fJ 0 v3 λv6=>fJ 1 v3 λv7=>yR [(I 0),.zb] h4 n5 λv8 h9 nB=>yR [(I 0),.zb] h9 nB λvG hB nC=>zT 2 v8 v6 hB nC λvD hE nF=>zT 2 vG v7 hE nF λvA hF nG=>K (kz.fr a b c d e v8 g) hF nG:=by kernel_rfl
theorem kz.qj:IR.run kz.t6 C N O K (kz.fr a b c d e f g) h nx =
 zG 2 f h λv1=>zT 2 e v1 h nx λv2 h3 n4=>K (kz.fr a b c d e f g) h3 n4:=by kernel_rfl
theorem kz.go:zQ tbl N C (.of 259) [a0,a1] h nx K0=IR.run kz.t10 C N (fnO kz.res K0) (zi kz.res K0) (kz.fr a0 a1 .u .u .u .u .u) h nx:=yE (F:=kz) (by kernel_rfl) (λ_=>by kernel_rfl) (by kernel_rfl)
theorem kz.ret:zi kz.res K0 (kz.fr a b c d e f g) h nx=zG 2 e h λv1=>K0 v1 h nx:=by kernel_rfl
theorem uo.zx:IR.run uo.t0 C N O K (uo.fr a b c d e f g j p s i l o q u y v w z A B D E G H L M P Q) h nx =
 K (uo.fr a b .zb .zb e f g j p s i l o q u y v w z A B D E G H L M P Q) h nx:=by kernel_rfl
theorem uo.zu:IR.run uo.t1 C N O K (uo.fr a b c d e f g j p s i l o q u y v w z A B D E G H L M P Q) h nx =
 C.fn 216 (.of 216) [a,b] h nx λv1 h2 n3=>za .lss .int v1 (I 0) λv4=>K (uo.fr a b c d e f g j p s i l o q u y v w z A B v4 E G H L M P Q) h2 n3:=by kernel_rfl
theorem uo.je:IR.run uo.t2 C N O K (uo.fr a b c d e f g j p s i l o q u y v w z A B D E G H L M P Q) h nx =
 K (uo.fr a b .zb a e f g j p s i l o q u y v w z A B D E G H L M P Q) h nx:=by kernel_rfl
theorem uo.v21:Arg.ev (.t (.of 21)) ⟨(uo.fr a b c d e f g j p s i l o q u y v w z A B D E G H L M P Q),[]⟩=D:=by kernel_rfl
theorem uo.qj:IR.run uo.t6 C N O K (uo.fr a b c d e f g j p s i l o q u y v w z A B D E G H L M P Q) h nx =
 sLen b λv1=>za .eql .int v1 (I 1) λv2=>K (uo.fr a b c d e f g j p s i l o q u y v w z A B D v2 G H L M P Q) h nx:=by kernel_rfl
theorem uo.nk:IR.run uo.t7 C N O K (uo.fr a b c d e f g j p s i l o q u y v w z A B D E G H L M P Q) h nx =
 zN 1 b (I 0) λv1=>zI v1 h λv2=>C.fn 268 (.of 268) [a,v2] h nx λv3 h4 n5=>fJ 0 v3 λv6=>fJ 1 v3 λv7=>K (uo.fr a b c d v6 v7 g j p s i l o q u y v w z A B D E G H L M P Q) h4 n5:=by kernel_rfl
theorem uo.fQ:IR.run uo.t8 C N O K (uo.fr a b c d e f g j p s i l o q u y v w z A B D E G H L M P Q) h nx =
 jM 1 1 [(I 0)] [(0,1,f)] h nx λv1 h2 n3=>C.fn 269 (.of 269) [v1] h2 n3 λv4 h5 n6=>K (uo.fr a b e v4 e f g j p s i l o q u y v w z A B D E G H L M P Q) h5 n6:=by kernel_rfl
theorem uo.v22:Arg.ev (.t (.of 22)) ⟨(uo.fr a b c d e f g j p s i l o q u y v w z A B D E G H L M P Q),[]⟩=E:=by kernel_rfl
theorem uo.go:zQ tbl N C (.of 213) [a0,a1] h nx K0=IR.run uo.t109 C N (fnO uo.res K0) (zi uo.res K0) (uo.fr a0 a1 .u .u .u .u .u .u .u .u .u .u .u .u .u .u .u .u .u .u .u .u .u .u .u .u .u .u .u) h nx:=yE (F:=uo) (by kernel_rfl) (λ_=>by kernel_rfl) (by kernel_rfl)
theorem uo.ret:zi uo.res K0 (uo.fr a b c d e f g j p s i l o q u y v w z A B D E G H L M P Q) h nx=K0 (.tup [c,d]) h nx:=by kernel_rfl
theorem uj.zx:IR.run uj.t0 C N O K (uj.fr a b c d e) h nx =
 K (uj.fr a b .zb d e) h nx:=by kernel_rfl
theorem uj.zu:IR.run uj.t1 C N O K (uj.fr a b c d e) h nx =
 sLen b λv1=>za .gtr .int v1 (I 0) λv2=>K (uj.fr a b c d v2) h nx:=by kernel_rfl
theorem uj.v4:Arg.ev (.t (.of 4)) ⟨(uj.fr a b c d e),[]⟩=e:=by kernel_rfl
theorem uj.fD:IR.run uj.t4 C N O K (uj.fr a b c d e) h nx =
 C.fn 213 (.of 213) [a,b] h nx λv1 h2 n3=>fJ 0 v1 λv4=>fJ 1 v1 λv5=>K (uj.fr a b c v5 e) h2 n3:=by kernel_rfl
theorem uj.mg:IR.run uj.t5 C N O K (uj.fr a b c d e) h nx =
 K (uj.fr b d c d e) h nx:=by kernel_rfl
theorem uj.t9_L (Inv:Nat->AV->AV->T Blk->Pa->Prop) {m:Nat} (hm:m<N) (hi:Inv m a b h nx)
  (step:∀ (m:Nat) (z0 z1 z3 z4:AV) (h:T Blk) (nx:Pa) (R:Ks Prop),Inv m z0 z1 h nx->(∀ (m':Nat) (w0 w1 w3 w4:AV) (h':T Blk) (nx':Pa),m'<m->Inv m' w0 w1 h' nx'->R (uj.fr w0 w1 c w3 w4) h' nx'=.ok True)->IR.run uj.t8 C N O R (uj.fr z0 z1 c z3 z4) h nx=.ok True) :
  IR.run uj.t9 C N O K (uj.fr a b c d e) h nx=.ok True:=by
 rw [uj.t9];refine yC (λm tm h nx=>∃ z0 z1 z3 z4,tm=(uj.fr z0 z1 c z3 z4)/\Inv m z0 z1 h nx) ?_ hm ⟨_,_,_,_,rfl,hi⟩;rintro m tm h nx R ⟨z0,z1,z3,z4,rfl,hi⟩ hR;exact step m z0 z1 z3 z4 h nx R hi λm' w0 w1 w3 w4 h' nx' hlt hi'=>hR m' _ h' nx' hlt ⟨_,_,_,_,rfl,hi'⟩
theorem uj.mh:IR.run uj.t11 C N O K (uj.fr a b c d e) h nx =
 K (uj.fr a b a d e) h nx:=by kernel_rfl
theorem uj.go:zQ tbl N C (.of 208) [a0,a1] h nx K0=IR.run uj.t14 C N (fnO uj.res K0) (zi uj.res K0) (uj.fr a0 a1 .u .u .u) h nx:=yE (F:=uj) (by kernel_rfl) (λ_=>by kernel_rfl) (by kernel_rfl)
theorem uj.ret:zi uj.res K0 (uj.fr a b c d e) h nx=K0 c h nx:=by kernel_rfl
theorem ku.zx:IR.run ku.t0 C N O K (ku.fr a b c d) h nx =
 K (ku.fr a b (I 0) d) h nx:=by kernel_rfl
theorem ku.zu:IR.run ku.t1 C N O K (ku.fr a b c d) h nx =
 za .gtr .int b (I 0) λv1=>K (ku.fr a b c v1) h nx:=by kernel_rfl
theorem ku.v3:Arg.ev (.t (.of 3)) ⟨(ku.fr a b c d),[]⟩=d:=by kernel_rfl
theorem ku.fD:IR.run ku.t4 C N O K (ku.fr a b c d) h nx =
 za .rem .int a b λv1=>K (ku.fr b v1 c d) h nx:=by kernel_rfl
theorem ku.t7_L (Inv:Nat->AV->AV->T Blk->Pa->Prop) {m:Nat} (hm:m<N) (hi:Inv m a b h nx)
  (step:∀ (m:Nat) (z0 z1 z3:AV) (h:T Blk) (nx:Pa) (R:Ks Prop),Inv m z0 z1 h nx->(∀ (m':Nat) (w0 w1 w3:AV) (h':T Blk) (nx':Pa),m'<m->Inv m' w0 w1 h' nx'->R (ku.fr w0 w1 c w3) h' nx'=.ok True)->IR.run ku.t6 C N O R (ku.fr z0 z1 c z3) h nx=.ok True) :
  IR.run ku.t7 C N O K (ku.fr a b c d) h nx=.ok True:=by
 rw [ku.t7];refine yC (λm tm h nx=>∃ z0 z1 z3,tm=(ku.fr z0 z1 c z3)/\Inv m z0 z1 h nx) ?_ hm ⟨_,_,_,rfl,hi⟩;rintro m tm h nx R ⟨z0,z1,z3,rfl,hi⟩ hR;exact step m z0 z1 z3 h nx R hi λm' w0 w1 w3 h' nx' hlt hi'=>hR m' _ h' nx' hlt ⟨_,_,_,rfl,hi'⟩
theorem ku.nu:IR.run ku.t9 C N O K (ku.fr a b c d) h nx =
 K (ku.fr a b a d) h nx:=by kernel_rfl
theorem ku.go:zQ tbl N C (.of 210) [a0,a1] h nx K0=IR.run ku.t12 C N (fnO ku.res K0) (zi ku.res K0) (ku.fr a0 a1 .u .u) h nx:=yE (F:=ku) (by kernel_rfl) (λ_=>by kernel_rfl) (by kernel_rfl)
theorem ku.ret:zi ku.res K0 (ku.fr a b c d) h nx=K0 c h nx:=by kernel_rfl
theorem yj.zx:IR.run yj.t0 C N O K (yj.fr a b c d e f g) h nx =
 yR [(.bool false),.zb] h nx λv1 h2 n3=>K (yj.fr a v1 c d e f g) h2 n3:=by kernel_rfl
theorem yj.zu:IR.run yj.t1 C N O K (yj.fr a b c d e f g) h nx =
 K (yj.fr a b .zb d e f g) h nx:=by kernel_rfl
theorem yj.je:IR.run yj.t2 C N O K (yj.fr a b c d e f g) h nx =
 za .lss .int a (I 0) λv1=>K (yj.fr a b c v1 e f g) h nx:=by kernel_rfl
theorem yj.bq:IR.run yj.t3 C N O K (yj.fr a b c d e f g) h nx =
 za .neq .int a (I 0) λv1=>K (yj.fr a b c d e v1 g) h nx:=by kernel_rfl
theorem yj.v5:Arg.ev (.t (.of 5)) ⟨(yj.fr a b c d e f g),[]⟩=f:=by kernel_rfl
theorem yj.qj:IR.run yj.t6 C N O K (yj.fr a b c d e f g) h nx =
 za .rem .int a (I 1000000000) λv1=>K (yj.fr a b c d v1 f g) h nx:=by kernel_rfl
theorem yj.nk:IR.run yj.t7 C N O K (yj.fr a b c d e f g) h nx =
 za .lss .int e (I 0) λv1=>K (yj.fr a b c d e f v1) h nx:=by kernel_rfl
theorem yj.fQ:IR.run yj.t8 C N O K (yj.fr a b c d e f g) h nx =
 za .sub .int (I 0) e λv1=>K (yj.fr a b c d v1 f g) h nx:=by kernel_rfl
theorem yj.v6:Arg.ev (.t (.of 6)) ⟨(yj.fr a b c d e f g),[]⟩=g:=by kernel_rfl
theorem yj.mh:IR.run yj.t11 C N O K (yj.fr a b c d e f g) h nx =
 jM 1 1 [(I 0)] [(0,1,e)] h nx λv1 h2 n3=>sK 1 8 c v1 h2 n3 λv4 h5 n6=>K (yj.fr a b v4 d e f g) h5 n6:=by kernel_rfl
theorem yj.fB:IR.run yj.t12 C N O K (yj.fr a b c d e f g) h nx =
 za .quo .int a (I 1000000000) λv1=>K (yj.fr v1 b c d e f g) h nx:=by kernel_rfl
theorem yj.zwq (Inv:Nat->AV->AV->T Blk->Pa->Prop) {m:Nat} (hm:m<N) (hi:Inv m a c h nx)
  (step:∀ (m:Nat) (z0 z2 z4 z5 z6:AV) (h:T Blk) (nx:Pa) (R:Ks Prop),Inv m z0 z2 h nx->(∀ (m':Nat) (w0 w2 w4 w5 w6:AV) (h':T Blk) (nx':Pa),m'<m->Inv m' w0 w2 h' nx'->R (yj.fr w0 b w2 d w4 w5 w6) h' nx'=.ok True)->IR.run yj.t17 C N O R (yj.fr z0 b z2 d z4 z5 z6) h nx=.ok True) :
  IR.run yj.t18 C N O K (yj.fr a b c d e f g) h nx=.ok True:=by
 rw [yj.t18];refine yC (λm tm h nx=>∃ z0 z2 z4 z5 z6,tm=(yj.fr z0 b z2 d z4 z5 z6)/\Inv m z0 z2 h nx) ?_ hm ⟨_,_,_,_,_,rfl,hi⟩;rintro m tm h nx R ⟨z0,z2,z4,z5,z6,rfl,hi⟩ hR;exact step m z0 z2 z4 z5 z6 h nx R hi λm' w0 w2 w4 w5 w6 h' nx' hlt hi'=>hR m' _ h' nx' hlt ⟨_,_,_,_,_,rfl,hi'⟩
theorem yj.zdr:IR.run yj.t20 C N O K (yj.fr a b c d e f g) h nx =
 C.fn 214 (.of 214) [d,c] h nx λv1 h2 n3=>zT 2 b v1 h2 n3 λv4 h5 n6=>K (yj.fr a b c d e f g) h5 n6:=by kernel_rfl
theorem yj.go:zQ tbl N C (.of 134) [a0] h nx K0=IR.run yj.t25 C N (fnO yj.res K0) (zi yj.res K0) (yj.fr a0 .u .u .u .u .u .u) h nx:=yE (F:=yj) (by kernel_rfl) (λ_=>by kernel_rfl) (by kernel_rfl)
theorem yj.ret:zi yj.res K0 (yj.fr a b c d e f g) h nx=zG 2 b h λv1=>K0 v1 h nx:=by kernel_rfl
theorem yu.zx:IR.run yu.t0 C N O K (yu.fr a b c d e) h nx =
 K (yu.fr a b (.str []) d e) h nx:=by kernel_rfl
theorem yu.zu:IR.run yu.t1 C N O K (yu.fr a b c d e) h nx =
 K (yu.fr a b c (.str []) e) h nx:=by kernel_rfl
theorem yu.je:IR.run yu.t2 C N O K tm h nx=zS yu.r2_0 C ⟨tm,[]⟩ h nx (λtm h nx=>K tm.v h nx):=jC ..
theorem yu.zuh:zS (yu.zsh []) C ⟨(yu.fr a b c d e),[]⟩ h nx Kt =
 za .gtr .int a (I 0) λv1=>sG v1 false (λk=>k d) λv2=>sG v1 false (λk=>uJ v2 k) λv3=>sG v1 false (λk=>k b) λv4=>sG v1 false (λk=>za .lss .int v3 v4 k) λv5=>yP v1 (.bool true) v5 λv6=>Kt ⟨(yu.fr a b c d v6),v5::v4::v3::v2::v1::v1::a::[]⟩ h nx:=by kernel_rfl
theorem yu.v4:Arg.ev (.t (.of 4)) ⟨(yu.fr a b c d e),[]⟩=e:=by kernel_rfl
theorem yu.mg:IR.run yu.t5 C N O K (yu.fr a b c d e) h nx =
 za .rem .int a (I 10) λv1=>za .rem .int a (I 10) λv2=>za .add .int v2 (I 1) λv3=>jS (.str [48,49,50,51,52,53,54,55,56,57]) (some v1) (some v3) λv4=>za .add .str v4 d λv5=>K (yu.fr a b c v5 e) h nx:=by kernel_rfl
theorem yu.qj:IR.run yu.t6 C N O K (yu.fr a b c d e) h nx =
 za .quo .int a (I 10) λv1=>K (yu.fr v1 b c d e) h nx:=by kernel_rfl
theorem yu.zk3 (Inv:Nat->AV->AV->T Blk->Pa->Prop) {m:Nat} (hm:m<N) (hi:Inv m a d h nx)
  (step:∀ (m:Nat) (z0 z3 z4:AV) (h:T Blk) (nx:Pa) (R:Ks Prop),Inv m z0 z3 h nx->(∀ (m':Nat) (w0 w3 w4:AV) (h':T Blk) (nx':Pa),m'<m->Inv m' w0 w3 h' nx'->R (yu.fr w0 b c w3 w4) h' nx'=.ok True)->IR.run yu.t9 C N O R (yu.fr z0 b c z3 z4) h nx=.ok True) :
  IR.run yu.t10 C N O K (yu.fr a b c d e) h nx=.ok True:=by
 rw [yu.t10];refine yC (λm tm h nx=>∃ z0 z3 z4,tm=(yu.fr z0 b c z3 z4)/\Inv m z0 z3 h nx) ?_ hm ⟨_,_,_,rfl,hi⟩;rintro m tm h nx R ⟨z0,z3,z4,rfl,hi⟩ hR;exact step m z0 z3 z4 h nx R hi λm' w0 w3 w4 h' nx' hlt hi'=>hR m' _ h' nx' hlt ⟨_,_,_,rfl,hi'⟩
theorem yu.fB:IR.run yu.t12 C N O K (yu.fr a b c d e) h nx =
 K (yu.fr a b d d e) h nx:=by kernel_rfl
theorem yu.go:zQ tbl N C (.of 211) [a0,a1] h nx K0=IR.run yu.t16 C N (fnO yu.res K0) (zi yu.res K0) (yu.fr a0 a1 .u .u .u) h nx:=yE (F:=yu) (by kernel_rfl) (λ_=>by kernel_rfl) (by kernel_rfl)
theorem yu.ret:zi yu.res K0 (yu.fr a b c d e) h nx=K0 c h nx:=by kernel_rfl
theorem gm.zx:IR.run gm.t0 C N O K (gm.fr a b c d e) h nx =
 K (gm.fr a (I 0) c d e) h nx:=by kernel_rfl
theorem gm.zu:IR.run gm.t1 C N O K (gm.fr a b c d e) h nx =
 K (gm.fr a b (I 0) d e) h nx:=by kernel_rfl
theorem gm.je:IR.run gm.t2 C N O K (gm.fr a b c d e) h nx =
 K (gm.fr a b c (I 0) e) h nx:=by kernel_rfl
theorem gm.bq:IR.run gm.t3 C N O K (gm.fr a b c d e) h nx =
 uJ a λv1=>za .lss .int d v1 λv2=>K (gm.fr a b c d v2) h nx:=by kernel_rfl
theorem gm.v4:Arg.ev (.t (.of 4)) ⟨(gm.fr a b c d e),[]⟩=e:=by kernel_rfl
theorem gm.qj:IR.run gm.t6 C N O K (gm.fr a b c d e) h nx =
 za .mul .int (I 10) c λv1=>jO a d λv2=>kJ .i64 v2 λv3=>za .add .int v1 v3 λv4=>za .sub .int v4 (I 48) λv5=>K (gm.fr a b v5 d e) h nx:=by kernel_rfl
theorem gm.fQ:IR.run gm.t8 C N O K (gm.fr a b c d e) h nx =
 za .add .int d (I 1) λv1=>K (gm.fr a b c v1 e) h nx:=by kernel_rfl
theorem gm.zk4 (Inv:Nat->AV->AV->T Blk->Pa->Prop) {m:Nat} (hm:m<N) (hi:Inv m c d h nx)
  (step:∀ (m:Nat) (z2 z3 z4:AV) (h:T Blk) (nx:Pa) (R:Ks Prop),Inv m z2 z3 h nx->(∀ (m':Nat) (w2 w3 w4:AV) (h':T Blk) (nx':Pa),m'<m->Inv m' w2 w3 h' nx'->R (gm.fr a b w2 w3 w4) h' nx'=.ok True)->IR.run gm.t10 C N O R (gm.fr a b z2 z3 z4) h nx=.ok True) :
  IR.run gm.t11 C N O K (gm.fr a b c d e) h nx=.ok True:=by
 rw [gm.t11];refine yC (λm tm h nx=>∃ z2 z3 z4,tm=(gm.fr a b z2 z3 z4)/\Inv m z2 z3 h nx) ?_ hm ⟨_,_,_,rfl,hi⟩;rintro m tm h nx R ⟨z2,z3,z4,rfl,hi⟩ hR;exact step m z2 z3 z4 h nx R hi λm' w2 w3 w4 h' nx' hlt hi'=>hR m' _ h' nx' hlt ⟨_,_,_,rfl,hi'⟩
theorem gm.rJ:IR.run gm.t14 C N O K (gm.fr a b c d e) h nx =
 K (gm.fr a c c d e) h nx:=by kernel_rfl
theorem gm.go:zQ tbl N C (.of 209) [a0] h nx K0=IR.run gm.t18 C N (fnO gm.res K0) (zi gm.res K0) (gm.fr a0 .u .u .u .u) h nx:=yE (F:=gm) (by kernel_rfl) (λ_=>by kernel_rfl) (by kernel_rfl)
theorem gm.ret:zi gm.res K0 (gm.fr a b c d e) h nx=K0 b h nx:=by kernel_rfl
theorem yo.zx:IR.run yo.t0 C N O K (yo.fr a b c d e f) h nx =
 yR [(.bool false),.zb] h nx λv1 h2 n3=>K (yo.fr a v1 c d e f) h2 n3:=by kernel_rfl
theorem yo.zu:IR.run yo.t1 C N O K (yo.fr a b c d e f) h nx =
 uJ a λv1=>za .gtr .int v1 (I 0) λv2=>sG v2 true (λk=>k a) λv3=>sG v2 true (λk=>jO v3 (I 0) k) λv4=>sG v2 true (λk=>za .eql .int v4 (.int .u8 45) k) λv5=>yP v2 v5 (.bool false) λv6=>K (yo.fr a b v6 d e f) h nx:=by kernel_rfl
theorem yo.je:IR.run yo.t2 C N O K (yo.fr a b c d e f) h nx =
 K (yo.fr a b c d c f) h nx:=by kernel_rfl
theorem yo.bq:IR.run yo.t3 C N O K (yo.fr a b c d e f) h nx =
 jS a (some (I 1)) none λv1=>K (yo.fr v1 b c d e f) h nx:=by kernel_rfl
theorem yo.v4:Arg.ev (.t (.of 4)) ⟨(yo.fr a b c d e f),[]⟩=e:=by kernel_rfl
theorem yo.qj:IR.run yo.t6 C N O K (yo.fr a b c d e f) h nx =
 K (yo.fr a b c .zb e f) h nx:=by kernel_rfl
theorem yo.nk:IR.run yo.t7 C N O K (yo.fr a b c d e f) h nx =
 uJ a λv1=>za .gtr .int v1 (I 9) λv2=>K (yo.fr a b c d e v2) h nx:=by kernel_rfl
theorem yo.v5:Arg.ev (.t (.of 5)) ⟨(yo.fr a b c d e f),[]⟩=f:=by kernel_rfl
theorem yo.rH:IR.run yo.t10 C N O K (yo.fr a b c d e f) h nx =
 uJ a λv1=>za .sub .int v1 (I 9) λv2=>jS a (some v2) none λv3=>C.fn 209 (.of 209) [v3] h nx λv4 h5 n6=>jM 1 1 [(I 0)] [(0,1,v4)] h5 n6 λv7 h8 n9=>sK 1 8 d v7 h8 n9 λvH hC nD=>K (yo.fr a b c vH e f) hC nD:=by kernel_rfl
theorem yo.mh:IR.run yo.t11 C N O K (yo.fr a b c d e f) h nx =
 uJ a λv1=>za .sub .int v1 (I 9) λv2=>jS a none (some v2) λv3=>K (yo.fr v3 b c d e f) h nx:=by kernel_rfl
theorem yo.zds (Inv:Nat->AV->AV->T Blk->Pa->Prop) {m:Nat} (hm:m<N) (hi:Inv m a d h nx)
  (step:∀ (m:Nat) (z0 z3 z5:AV) (h:T Blk) (nx:Pa) (R:Ks Prop),Inv m z0 z3 h nx->(∀ (m':Nat) (w0 w3 w5:AV) (h':T Blk) (nx':Pa),m'<m->Inv m' w0 w3 h' nx'->R (yo.fr w0 b c w3 e w5) h' nx'=.ok True)->IR.run yo.t14 C N O R (yo.fr z0 b c z3 e z5) h nx=.ok True) :
  IR.run yo.t15 C N O K (yo.fr a b c d e f) h nx=.ok True:=by
 rw [yo.t15];refine yC (λm tm h nx=>∃ z0 z3 z5,tm=(yo.fr z0 b c z3 e z5)/\Inv m z0 z3 h nx) ?_ hm ⟨_,_,_,rfl,hi⟩;rintro m tm h nx R ⟨z0,z3,z5,rfl,hi⟩ hR;exact step m z0 z3 z5 h nx R hi λm' w0 w3 w5 h' nx' hlt hi'=>hR m' _ h' nx' hlt ⟨_,_,_,rfl,hi'⟩
theorem yo.nV:IR.run yo.t17 C N O K (yo.fr a b c d e f) h nx =
 C.fn 209 (.of 209) [a] h nx λv1 h2 n3=>jM 1 1 [(I 0)] [(0,1,v1)] h2 n3 λv4 h5 n6=>sK 1 8 d v4 h5 n6 λv7 h8 n9=>C.fn 214 (.of 214) [c,v7] h8 n9 λvH hC nD=>zT 2 b vH hC nD λvE hG nH=>K (yo.fr a b c d e f) hG nH:=by kernel_rfl
theorem yo.go:zQ tbl N C (.of 205) [a0] h nx K0=IR.run yo.t23 C N (fnO yo.res K0) (zi yo.res K0) (yo.fr a0 .u .u .u .u .u) h nx:=yE (F:=yo) (by kernel_rfl) (λ_=>by kernel_rfl) (by kernel_rfl)
theorem yo.ret:zi yo.res K0 (yo.fr a b c d e f) h nx=zG 2 b h λv1=>K0 v1 h nx:=by kernel_rfl
theorem jk.zx:IR.run jk.t0 C N O K (jk.fr a b c d e) h nx =
 K (jk.fr a (I 0) c d e) h nx:=by kernel_rfl
theorem jk.zu:IR.run jk.t1 C N O K (jk.fr a b c d e) h nx =
 K (jk.fr a b (I 0) d e) h nx:=by kernel_rfl
theorem jk.je:IR.run jk.t2 C N O K (jk.fr a b c d e) h nx =
 uJ a λv1=>za .lss .int c v1 λv2=>K (jk.fr a b c v2 e) h nx:=by kernel_rfl
theorem jk.v3:Arg.ev (.t (.of 3)) ⟨(jk.fr a b c d e),[]⟩=d:=by kernel_rfl
theorem jk.mg:IR.run jk.t5 C N O K (jk.fr a b c d e) h nx =
 jO a c λv1=>za .eql .int v1 (.int .u8 47) λv2=>K (jk.fr a b c d v2) h nx:=by kernel_rfl
theorem jk.qj:IR.run jk.t6 C N O K (jk.fr a b c d e) h nx =
 K (jk.fr a c c d e) h nx:=by kernel_rfl
theorem jk.v4:Arg.ev (.t (.of 4)) ⟨(jk.fr a b c d e),[]⟩=e:=by kernel_rfl
theorem jk.mh:IR.run jk.t11 C N O K (jk.fr a b c d e) h nx =
 za .add .int c (I 1) λv1=>K (jk.fr a b v1 d e) h nx:=by kernel_rfl
theorem jk.zk5 (Inv:Nat->AV->T Blk->Pa->Prop) {m:Nat} (hm:m<N) (hi:Inv m c h nx)
  (step:∀ (m:Nat) (z1 z2 z3 z4:AV) (h:T Blk) (nx:Pa) (R:Ks Prop),Inv m z2 h nx->(∀ (m':Nat) (w1 w2 w3 w4:AV) (h':T Blk) (nx':Pa),m'<m->Inv m' w2 h' nx'->R (jk.fr a w1 w2 w3 w4) h' nx'=.ok True)->IR.run jk.t13 C N O R (jk.fr a z1 z2 z3 z4) h nx=.ok True) :
  IR.run jk.t14 C N O K (jk.fr a b c d e) h nx=.ok True:=by
 rw [jk.t14];refine yC (λm tm h nx=>∃ z1 z2 z3 z4,tm=(jk.fr a z1 z2 z3 z4)/\Inv m z2 h nx) ?_ hm ⟨_,_,_,_,rfl,hi⟩;rintro m tm h nx R ⟨z1,z2,z3,z4,rfl,hi⟩ hR;exact step m z1 z2 z3 z4 h nx R hi λm' w1 w2 w3 w4 h' nx' hlt hi'=>hR m' _ h' nx' hlt ⟨_,_,_,_,rfl,hi'⟩
theorem jk.nV:IR.run jk.t17 C N O K (jk.fr a b c d e) h nx =
 uJ a λv1=>K (jk.fr a v1 c d e) h nx:=by kernel_rfl
theorem jk.go:zQ tbl N C (.of 206) [a0] h nx K0=IR.run jk.t20 C N (fnO jk.res K0) (zi jk.res K0) (jk.fr a0 .u .u .u .u) h nx:=yE (F:=jk) (by kernel_rfl) (λ_=>by kernel_rfl) (by kernel_rfl)
theorem jk.ret:zi jk.res K0 (jk.fr a b c d e) h nx=K0 b h nx:=by kernel_rfl
theorem uw.zx:IR.run uw.t0 C N O K (uw.fr a b c d e f) h nx =
 yR [(.bool false),.zb] h nx λv1 h2 n3=>yR [(.bool false),.zb] h2 n3 λv4 h5 n6=>K (uw.fr a v1 v4 d e f) h5 n6:=by kernel_rfl
theorem uw.zu:IR.run uw.t1 C N O K (uw.fr a b c d e f) h nx =
 K (uw.fr a b c a e f) h nx:=by kernel_rfl
theorem uw.je:IR.run uw.t2 C N O K (uw.fr a b c d e f) h nx =
 C.fn 206 (.of 206) [d] h nx λv1 h2 n3=>K (uw.fr a b c d v1 f) h2 n3:=by kernel_rfl
theorem uw.bq:IR.run uw.t3 C N O K (uw.fr a b c d e f) h nx =
 uJ d λv1=>za .eql .int e v1 λv2=>K (uw.fr a b c d e v2) h nx:=by kernel_rfl
theorem uw.fD:IR.run uw.t4 C N O K (uw.fr a b c d e f) h nx =
 C.fn 205 (.of 205) [d] h nx λv1 h2 n3=>C.fn 134 (.of 134) [(I 1)] h2 n3 λv4 h5 n6=>zT 2 b v1 h5 n6 λv7 h8 n9=>zT 2 c v4 h8 n9 λvH hC nD=>K (uw.fr a b c d e f) hC nD:=by kernel_rfl
theorem uw.v5:Arg.ev (.t (.of 5)) ⟨(uw.fr a b c d e f),[]⟩=f:=by kernel_rfl
theorem uw.fQ:IR.run uw.t8 C N O K (uw.fr a b c d e f) h nx =
 jS d none (some e) λv1=>za .add .int e (I 1) λv2=>jS d (some v2) none λv3=>C.fn 205 (.of 205) [v1] h nx λv4 h5 n6=>(jS d (some v2) none λvA=>zR vA v3 ((za .add .int e (I 1) λvB=>zR vB v2 (zR e e (zR d d (C.fn 205 (.of 205) [v3] h5 n6 λv7 h8 n9=>zT 2 b v4 h8 n9 λvH hC nD=>zT 2 c v7 hC nD λvE hG nH=>K (uw.fr a b c d e f) hG nH)))))):=by kernel_rfl
theorem uw.go:zQ tbl N C (.of 129) [a0] h nx K0=IR.run uw.t13 C N (fnO uw.res K0) (zi uw.res K0) (uw.fr a0 .u .u .u .u .u) h nx:=yE (F:=uw) (by kernel_rfl) (λ_=>by kernel_rfl) (by kernel_rfl)
theorem uw.ret:zi uw.res K0 (uw.fr a b c d e f) h nx=zG 2 b h λv1=>zG 2 c h λv2=>K0 (.tup [v1,v2]) h nx:=by kernel_rfl
theorem zm.zx:IR.run zm.t0 C N O K (zm.fr a b c d e f g j p s i l o q) h nx =
 K (zm.fr a (I 0) (I 0) (.bool false) e f g j p s i l o q) h nx:=by kernel_rfl
theorem zm.zu:IR.run zm.t1 C N O K (zm.fr a b c d e f g j p s i l o q) h nx =
 K (zm.fr a b c d a f g j p s i l o q) h nx:=by kernel_rfl
theorem zm.je:IR.run zm.t2 C N O K (zm.fr a b c d e f g j p s i l o q) h nx =
 uJ e λv1=>za .gtr .int v1 (I 20) λv2=>K (zm.fr a b c d e f g j p v2 i l o q) h nx:=by kernel_rfl
theorem zm.v9:Arg.ev (.t (.of 9)) ⟨(zm.fr a b c d e f g j p s i l o q),[]⟩=s:=by kernel_rfl
theorem zm.nk:IR.run zm.t7 C N O K (zm.fr a b c d e f g j p s i l o q) h nx =
 uJ e λv1=>za .gtr .int v1 (I 0) λv2=>sG v2 true (λk=>k e) λv3=>sG v2 true (λk=>jO v3 (I 0) k) λv4=>sG v2 true (λk=>za .eql .int v4 (.int .u8 45) k) λv5=>yP v2 v5 (.bool false) λv6=>K (zm.fr a b c d e v6 g j p s i l o q) h nx:=by kernel_rfl
theorem zm.fQ:IR.run zm.t8 C N O K (zm.fr a b c d e f g j p s i l o q) h nx =
 K (zm.fr a b c d e f g j p s f l o q) h nx:=by kernel_rfl
theorem zm.nu:IR.run zm.t9 C N O K (zm.fr a b c d e f g j p s i l o q) h nx =
 jS e (some (I 1)) none λv1=>K (zm.fr a b c d v1 f g j p s i l o q) h nx:=by kernel_rfl
theorem zm.v10:Arg.ev (.t (.of 10)) ⟨(zm.fr a b c d e f g j p s i l o q),[]⟩=i:=by kernel_rfl
theorem zm.fB:IR.run zm.t12 C N O K (zm.fr a b c d e f g j p s i l o q) h nx =
 C.fn 206 (.of 206) [e] h nx λv1 h2 n3=>K (zm.fr a b c d e f v1 j p s i l o q) h2 n3:=by kernel_rfl
theorem zm.fK:IR.run zm.t13 C N O K tm h nx=zS zm.r8_0 C ⟨tm,[]⟩ h nx (λtm h nx=>K tm.v h nx):=jC ..
theorem zm.zui:zS (zm.zsi r) C ⟨(zm.fr a b c d e f g j p s i l o q),[]⟩ h nx Kt =
 za .gtr .int g (I 9) λv1=>sG v1 false (λk=>k e) λv2=>sG v1 false (λk=>uJ v2 k) λv3=>sG v1 false (λk=>k g) λv4=>sG v1 false (λk=>za .sub .int v3 v4 k) λv5=>sG v1 false (λk=>za .gtr .int v5 (I 10) k) λv6=>zS r C ⟨(zm.fr a b c d e f g j p s i l o q),v6::v5::v4::v3::v2::v1::v1::g::[]⟩ h nx Kt:=by kernel_rfl
theorem zm.zuj:zS (zm.zsj []) C ⟨(zm.fr a b c d e f g j p s i l o q),s0::s1::s2::s3::s4::s5::sT⟩ h nx Kt =
 yP s5 (.bool true) s0 λv1=>Kt ⟨(zm.fr a b c d e f g j p s i v1 o q),s0::s1::s2::s3::s4::s5::sT⟩ h nx:=by kernel_rfl
theorem zm.v11:Arg.ev (.t (.of 11)) ⟨(zm.fr a b c d e f g j p s i l o q),[]⟩=l:=by kernel_rfl
theorem zm.aP:IR.run zm.t18 C N O K (zm.fr a b c d e f g j p s i l o q) h nx =
 jS e none (some g) λv1=>C.fn 209 (.of 209) [v1] h nx λv2 h3 n4=>K (zm.fr a b c d e f g v2 (I 1) s i l o q) h3 n4:=by kernel_rfl
theorem zm.nQ:IR.run zm.t19 C N O K (zm.fr a b c d e f g j p s i l o q) h nx =
 uJ e λv1=>za .lss .int g v1 λv2=>K (zm.fr a b c d e f g j p s i l v2 q) h nx:=by kernel_rfl
theorem zm.zdr:IR.run zm.t20 C N O K (zm.fr a b c d e f g j p s i l o q) h nx =
 za .add .int g (I 1) λv1=>jS e (some v1) none λv2=>C.fn 209 (.of 209) [v2] h nx λv3 h4 n5=>K (zm.fr a b c d e f g j v3 s i l o q) h4 n5:=by kernel_rfl
theorem zm.v12:Arg.ev (.t (.of 12)) ⟨(zm.fr a b c d e f g j p s i l o q),[]⟩=o:=by kernel_rfl
theorem zm.zdu:IR.run zm.t23 C N O K (zm.fr a b c d e f g j p s i l o q) h nx =
 K (zm.fr a b c d e f g j p s i l o f) h nx:=by kernel_rfl
theorem zm.aQ:IR.run zm.t24 C N O K (zm.fr a b c d e f g j p s i l o q) h nx =
 za .sub .int (I 0) j λv1=>K (zm.fr a b c d e f g v1 p s i l o q) h nx:=by kernel_rfl
theorem zm.v13:Arg.ev (.t (.of 13)) ⟨(zm.fr a b c d e f g j p s i l o q),[]⟩=q:=by kernel_rfl
theorem zm.zhy:IR.run zm.t27 C N O K (zm.fr a b c d e f g j p s i l o q) h nx =
 K (zm.fr a j p (.bool true) e f g j p s i l o q) h nx:=by kernel_rfl
theorem zm.go:zQ tbl N C (.of 127) [a0] h nx K0=IR.run zm.t38 C N (fnO zm.res K0) (zi zm.res K0) (zm.fr a0 .u .u .u .u .u .u .u .u .u .u .u .u .u) h nx:=yE (F:=zm) (by kernel_rfl) (λ_=>by kernel_rfl) (by kernel_rfl)
theorem zm.ret:zi zm.res K0 (zm.fr a b c d e f g j p s i l o q) h nx=K0 (.tup [b,c,d]) h nx:=by kernel_rfl
theorem zo.zx:IR.run zo.t0 C N O K (zo.fr a b c d e f g j p) h nx =
 K (zo.fr a b (.str []) d e f g j p) h nx:=by kernel_rfl
theorem zo.zu:IR.run zo.t1 C N O K tm h nx=zS zo.nR C ⟨tm,[]⟩ h nx (λtm h nx=>K tm.v h nx):=jC ..
theorem zo.nS:zS (zo.fV r) C ⟨(zo.fr a b c d e f g j p),[]⟩ h nx Kt =
 za .lss .int a (I (-4000000000000000000)) λv1=>sG v1 false (λk=>k a) λv2=>sG v1 false (λk=>za .gtr .int v2 (I 4000000000000000000) k) λv3=>yP v1 (.bool true) v3 λv4=>sG v4 false (λk=>k b) λv5=>zS r C ⟨(zo.fr a b c d e f g j p),v5::v4::v4::v3::v2::v1::v1::a::[]⟩ h nx Kt:=by kernel_rfl
theorem zo.fT:zS (zo.fZ []) C ⟨(zo.fr a b c d e f g j p),s0::s1::sT⟩ h nx Kt =
 sG s1 false (λk=>za .lss .int s0 (I (-4000000000000000000)) k) λv1=>yP s1 (.bool true) v1 λv2=>sG v2 false (λk=>k b) λv3=>sG v2 false (λk=>za .gtr .int v3 (I 4000000000000000000) k) λv4=>yP v2 (.bool true) v4 λv5=>Kt ⟨(zo.fr a b c d e v5 g j p),v4::v3::v2::v2::v1::s0::s1::sT⟩ h nx:=by kernel_rfl
theorem zo.v5:Arg.ev (.t (.of 5)) ⟨(zo.fr a b c d e f g j p),[]⟩=f:=by kernel_rfl
theorem zo.qj:IR.run zo.t6 C N O K (zo.fr a b c d e f g j p) h nx =
 za .lss .int b (I 0) λv1=>K (zo.fr a b c d e f v1 j p) h nx:=by kernel_rfl
theorem zo.v6:Arg.ev (.t (.of 6)) ⟨(zo.fr a b c d e f g j p),[]⟩=g:=by kernel_rfl
theorem zo.rH:IR.run zo.t10 C N O K (zo.fr a b c d e f g j p) h nx =
 za .sub .int (I 0) a λv1=>sMin true a [v1] λv2=>C.fn 210 (.of 210) [v2,b] h nx λv3 h4 n5=>K (zo.fr a b c v3 e f g j p) h4 n5:=by kernel_rfl
theorem zo.mh:IR.run zo.t11 C N O K (zo.fr a b c d e f g j p) h nx =
 za .quo .int a d λv1=>za .quo .int b d λv2=>K (zo.fr v1 v2 c d e f g j p) h nx:=by kernel_rfl
theorem zo.fB:IR.run zo.t12 C N O K (zo.fr a b c d e f g j p) h nx =
 K (zo.fr a b c d (.str []) f g j p) h nx:=by kernel_rfl
theorem zo.fK:IR.run zo.t13 C N O K (zo.fr a b c d e f g j p) h nx =
 za .lss .int a (I 0) λv1=>K (zo.fr a b c d e f g v1 p) h nx:=by kernel_rfl
theorem zo.rJ:IR.run zo.t14 C N O K (zo.fr a b c d e f g j p) h nx =
 K (zo.fr a b c d (.str [45]) f g j p) h nx:=by kernel_rfl
theorem zo.v7:Arg.ev (.t (.of 7)) ⟨(zo.fr a b c d e f g j p),[]⟩=j:=by kernel_rfl
theorem zo.nV:IR.run zo.t17 C N O K (zo.fr a b c d e f g j p) h nx =
 za .sub .int (I 0) a λv1=>sMin true a [v1] λv2=>C.fn 211 (.of 211) [v2,(I 1)] h nx λv3 h4 n5=>za .add .str e v3 λv6=>K (zo.fr a b c d v6 f g j p) h4 n5:=by kernel_rfl
theorem zo.aP:IR.run zo.t18 C N O K (zo.fr a b c d e f g j p) h nx =
 za .gtr .int b (I 1) λv1=>K (zo.fr a b c d e f g j v1) h nx:=by kernel_rfl
theorem zo.nQ:IR.run zo.t19 C N O K (zo.fr a b c d e f g j p) h nx =
 za .add .str e (.str [47]) λv1=>C.fn 211 (.of 211) [b,(I 1)] h nx λv2 h3 n4=>za .add .str v1 v2 λv5=>K (zo.fr a b c d v5 f g j p) h3 n4:=by kernel_rfl
theorem zo.v8:Arg.ev (.t (.of 8)) ⟨(zo.fr a b c d e f g j p),[]⟩=p:=by kernel_rfl
theorem zo.sZ:IR.run zo.t22 C N O K (zo.fr a b c d e f g j p) h nx =
 K (zo.fr a b e d e f g j p) h nx:=by kernel_rfl
theorem zo.go:zQ tbl N C (.of 128) [a0,a1] h nx K0=IR.run zo.t32 C N (fnO zo.res K0) (zi zo.res K0) (zo.fr a0 a1 .u .u .u .u .u .u .u) h nx:=yE (F:=zo) (by kernel_rfl) (λ_=>by kernel_rfl) (by kernel_rfl)
theorem zo.ret:zi zo.res K0 (zo.fr a b c d e f g j p) h nx=K0 c h nx:=by kernel_rfl
theorem xw.zx:IR.run xw.t0 C N O K (xw.fr a b c d) h nx =
 dh a h nx λv1 h2 n3=>yR [(I 0),.zb] h2 n3 λv4 h5 n6=>K (xw.fr a v1 v4 d) h5 n6:=by kernel_rfl
theorem xw.zu:IR.run xw.t1 C N O K (xw.fr a b c d) h nx =
 zK 0 b λv1=>zI v1 h λv2=>za .lss .int v2 (I 0) λv3=>K (xw.fr a b c v3) h nx:=by kernel_rfl
theorem xw.je:IR.run xw.t2 C N O K (xw.fr a b c d) h nx =
 zG 2 b h λv1=>C.fn 193 (.of 193) [v1] h nx λv2 h3 n4=>zT 2 c v2 h3 n4 λv5 h6 n7=>K (xw.fr a b c d) h6 n7:=by kernel_rfl
theorem xw.v3:Arg.ev (.t (.of 3)) ⟨(xw.fr a b c d),[]⟩=d:=by kernel_rfl
theorem xw.qj:IR.run xw.t6 C N O K (xw.fr a b c d) h nx =
 zG 2 b h λv1=>zT 2 c v1 h nx λv2 h3 n4=>K (xw.fr a b c d) h3 n4:=by kernel_rfl
theorem xw.go:zQ tbl N C (.of 299) [a0] h nx K0=IR.run xw.t9 C N (fnO xw.res K0) (zi xw.res K0) (xw.fr a0 .u .u .u) h nx:=yE (F:=xw) (by kernel_rfl) (λ_=>by kernel_rfl) (by kernel_rfl)
theorem xw.ret:zi xw.res K0 (xw.fr a b c d) h nx=zG 2 c h λv1=>K0 v1 h nx:=by kernel_rfl
theorem uf.zx:IR.run uf.t0 C N O K (uf.fr a b c d e f g) h nx =
 dh a h nx λv1 h2 n3=>dh b h2 n3 λv4 h5 n6=>yR [(I 0),.zb] h5 n6 λv7 h8 n9=>K (uf.fr a b v1 v4 v7 f g) h8 n9:=by kernel_rfl
theorem uf.zu:IR.run uf.t1 C N O K (uf.fr a b c d e f g) h nx =
 zG 2 c h λv1=>zG 2 d h λv2=>C.fn 299 (.of 299) [v1] h nx λv3 h4 n5=>(zG 2 d h4 λvC=>zR vC v2 (C.fn 299 (.of 299) [v2] h4 n5 λv6 h7 n8=>zT 2 c v3 h7 n8 λv9 hA nA=>zT 2 d v6 hA nA λvF hD nE=>K (uf.fr a b c d e f g) hD nE)):=by kernel_rfl
theorem uf.je:IR.run uf.t2 C N O K (uf.fr a b c d e f g) h nx =
 zG 2 d h λv1=>C.fn 194 (.of 194) [v1] h nx λv2 h3 n4=>za .neq .int v2 (I 0) λv5=>K (uf.fr a b c d e f v5) h3 n4:=by kernel_rfl
theorem uf.v6:Arg.ev (.t (.of 6)) ⟨(uf.fr a b c d e f g),[]⟩=g:=by kernel_rfl
theorem uf.mg:IR.run uf.t5 C N O K (uf.fr a b c d e f g) h nx =
 zG 2 c h λv1=>zG 2 d h λv2=>C.fn 201 (.of 201) [v1,v2] h nx λv3 h4 n5=>fJ 0 v3 λv6=>fJ 1 v3 λv7=>yR [(I 0),.zb] h4 n5 λv8 h9 nB=>yR [(I 0),.zb] h9 nB λvG hB nC=>zT 2 v8 v6 hB nC λvD hE nF=>zT 2 vG v7 hE nF λvA hF nG=>K (uf.fr a b c d e vG g) hF nG:=by kernel_rfl
theorem uf.qj:IR.run uf.t6 C N O K (uf.fr a b c d e f g) h nx =
 zG 2 d h λv1=>zG 2 f h λv2=>zT 2 c v1 h nx λv3 h4 n5=>(zG 2 f h4 λv9=>zR v9 v2 (zT 2 d v2 h4 n5 λv6 h7 n8=>K (uf.fr a b c d e f g) h7 n8)):=by kernel_rfl
theorem uf.zk3 (Inv:Nat->T Blk->Pa->Prop) {m:Nat} (hm:m<N) (hi:Inv m h nx)
  (step:∀ (m:Nat) (z5 z6:AV) (h:T Blk) (nx:Pa) (R:Ks Prop),Inv m h nx->(∀ (m':Nat) (w5 w6:AV) (h':T Blk) (nx':Pa),m'<m->Inv m' h' nx'->R (uf.fr a b c d e w5 w6) h' nx'=.ok True)->IR.run uf.t9 C N O R (uf.fr a b c d e z5 z6) h nx=.ok True) :
  IR.run uf.t10 C N O K (uf.fr a b c d e f g) h nx=.ok True:=by
 rw [uf.t10];refine yC (λm tm h nx=>∃ z5 z6,tm=(uf.fr a b c d e z5 z6)/\Inv m h nx) ?_ hm ⟨_,_,rfl,hi⟩;rintro m tm h nx R ⟨z5,z6,rfl,hi⟩ hR;exact step m z5 z6 h nx R hi λm' w5 w6 h' nx' hlt hi'=>hR m' _ h' nx' hlt ⟨_,_,rfl,hi'⟩
theorem uf.fB:IR.run uf.t12 C N O K (uf.fr a b c d e f g) h nx =
 zG 2 c h λv1=>zT 2 e v1 h nx λv2 h3 n4=>K (uf.fr a b c d e f g) h3 n4:=by kernel_rfl
theorem uf.go:zQ tbl N C (.of 258) [a0,a1] h nx K0=IR.run uf.t16 C N (fnO uf.res K0) (zi uf.res K0) (uf.fr a0 a1 .u .u .u .u .u) h nx:=yE (F:=uf) (by kernel_rfl) (λ_=>by kernel_rfl) (by kernel_rfl)
theorem uf.ret:zi uf.res K0 (uf.fr a b c d e f g) h nx=zG 2 e h λv1=>K0 v1 h nx:=by kernel_rfl
theorem xk.zx:IR.run xk.t0 C N O K (xk.fr a b c) h nx =
 dh a h nx λv1 h2 n3=>K (xk.fr a v1 (.bool false)) h2 n3:=by kernel_rfl
theorem xk.zu:IR.run xk.t1 C N O K tm h nx=zS xk.nR C ⟨tm,[]⟩ h nx (λtm h nx=>K tm.v h nx):=jC ..
theorem xk.nS:zS (xk.fV r) C ⟨(xk.fr a b c),[]⟩ h nx Kt =
 zK 2 b λv1=>zK 1 v1 λv2=>zI v2 h λv3=>za .eql (.nil .sl) v3 .zb λv4=>sG v4 true (λk=>zK 2 b k) λv5=>sG v4 true (λk=>zK 0 v5 k) λv6=>sG v4 true (λk=>zI v6 h k) λv7=>zS r C ⟨(xk.fr a b c),v7::v6::v5::v4::v4::v3::v2::v1::[]⟩ h nx Kt:=by kernel_rfl
theorem xk.fT:zS (xk.fZ []) C ⟨(xk.fr a b c),s0::s1::s2::s3::sT⟩ h nx Kt =
 sG s3 true (λk=>za .eql .int s0 (I 1) k) λv1=>yP s3 v1 (.bool false) λv2=>Kt ⟨(xk.fr a b v2),v2::v1::s0::s1::s2::s3::sT⟩ h nx:=by kernel_rfl
theorem xk.go:zQ tbl N C (.of 122) [a0] h nx K0=IR.run xk.t3 C N (fnO xk.res K0) (zi xk.res K0) (xk.fr a0 .u .u) h nx:=yE (F:=xk) (by kernel_rfl) (λ_=>by kernel_rfl) (by kernel_rfl)
theorem xk.ret:zi xk.res K0 (xk.fr a b c) h nx=K0 c h nx:=by kernel_rfl
theorem bg.zx:IR.run bg.t0 C N O K (bg.fr a b c) h nx =
 dh a h nx λv1 h2 n3=>yR [(I 0),.zb,(I 0),.zb] h2 n3 λv4 h5 n6=>K (bg.fr a v1 v4) h5 n6:=by kernel_rfl
theorem bg.zu:IR.run bg.t1 C N O K (bg.fr a b c) h nx =
 zG 2 b h λv1=>C.fn 187 (.of 187) [(I 1)] h nx λv2 h3 n4=>(zG 2 b h3 λv9=>zR v9 v1 (gF [(I 0),.zb,(I 0),.zb] [(0,2,v1),(2,2,v2)] λv5=>zT 4 c v5 h3 n4 λv6 h7 n8=>K (bg.fr a b c) h7 n8)):=by kernel_rfl
theorem bg.go:zQ tbl N C (.of 186) [a0] h nx K0=IR.run bg.t3 C N (fnO bg.res K0) (zi bg.res K0) (bg.fr a0 .u .u) h nx:=yE (F:=bg) (by kernel_rfl) (λ_=>by kernel_rfl) (by kernel_rfl)
theorem bg.ret:zi bg.res K0 (bg.fr a b c) h nx=zG 4 c h λv1=>K0 v1 h nx:=by kernel_rfl
theorem F96.zx:IR.run F96.t0 C N O K (F96.fr a b) h nx =
 yR [(I 0),.zb,(I 0),.zb] h nx λv1 h2 n3=>K (F96.fr a v1) h2 n3:=by kernel_rfl
theorem F96.zu:IR.run F96.t1 C N O K (F96.fr a b) h nx =
 C.fn 187 (.of 187) [a] h nx λv1 h2 n3=>C.fn 186 (.of 186) [v1] h2 n3 λv4 h5 n6=>zT 4 b v4 h5 n6 λv7 h8 n9=>K (F96.fr a b) h8 n9:=by kernel_rfl
theorem F96.go:zQ tbl N C (.of 96) [a0] h nx K0=IR.run F96.t3 C N (fnO F96.res K0) (zi F96.res K0) (F96.fr a0 .u) h nx:=yE (F:=F96) (by kernel_rfl) (λ_=>by kernel_rfl) (by kernel_rfl)
theorem F96.ret:zi F96.res K0 (F96.fr a b) h nx=zG 4 b h λv1=>K0 v1 h nx:=by kernel_rfl
theorem jl.zx:IR.run jl.t0 C N O K (jl.fr a b c d e f g j) h nx =
 dh a h nx λv1 h2 n3=>dh b h2 n3 λv4 h5 n6=>yR [(I 0),.zb,(I 0),.zb] h5 n6 λv7 h8 n9=>K (jl.fr a b v1 v4 v7 f g j) h8 n9:=by kernel_rfl
theorem jl.zu:IR.run jl.t1 C N O K (jl.fr a b c d e f g j) h nx =
 zG 2 d h λv1=>C.fn 194 (.of 194) [v1] h nx λv2 h3 n4=>za .lss .int v2 (I 0) λv5=>K (jl.fr a b c d e f v5 j) h3 n4:=by kernel_rfl
theorem jl.je:IR.run jl.t2 C N O K (jl.fr a b c d e f g j) h nx =
 zG 2 c h λv1=>zG 2 d h λv2=>C.fn 193 (.of 193) [v1] h nx λv3 h4 n5=>(zG 2 d h4 λvC=>zR vC v2 (C.fn 193 (.of 193) [v2] h4 n5 λv6 h7 n8=>zT 2 c v3 h7 n8 λv9 hA nA=>zT 2 d v6 hA nA λvF hD nE=>K (jl.fr a b c d e f g j) hD nE)):=by kernel_rfl
theorem jl.v6:Arg.ev (.t (.of 6)) ⟨(jl.fr a b c d e f g j),[]⟩=g:=by kernel_rfl
theorem jl.mg:IR.run jl.t5 C N O K (jl.fr a b c d e f g j) h nx =
 zK 1 d λv1=>zI v1 h λv2=>za .eql (.nil .sl) v2 .zb λv3=>sG v3 true (λk=>zK 0 d k) λv4=>sG v3 true (λk=>zI v4 h k) λv5=>sG v3 true (λk=>za .eql .int v5 (I 1) k) λv6=>yP v3 v6 (.bool false) λv7=>K (jl.fr a b c d e f g v7) h nx:=by kernel_rfl
theorem jl.qj:IR.run jl.t6 C N O K (jl.fr a b c d e f g j) h nx =
 zG 2 c h λv1=>zG 2 d h λv2=>gF [(I 0),.zb,(I 0),.zb] [(0,2,v1),(2,2,v2)] λv3=>zT 4 e v3 h nx λv4 h5 n6=>K (jl.fr a b c d e f g j) h5 n6:=by kernel_rfl
theorem jl.v7:Arg.ev (.t (.of 7)) ⟨(jl.fr a b c d e f g j),[]⟩=j:=by kernel_rfl
theorem jl.rH:IR.run jl.t10 C N O K (jl.fr a b c d e f g j) h nx =
 zG 2 c h λv1=>zG 2 d h λv2=>C.fn 258 (.of 258) [v1,v2] h nx λv3 h4 n5=>yR [(I 0),.zb] h4 n5 λv6 h7 n8=>zT 2 v6 v3 h7 n8 λv9 hA nA=>K (jl.fr a b c d e v6 g j) hA nA:=by kernel_rfl
theorem jl.mh:IR.run jl.t11 C N O K (jl.fr a b c d e f g j) h nx =
 zG 2 c h λv1=>zG 2 f h λv2=>zG 2 d h λv3=>zG 2 f h λv4=>C.fn 259 (.of 259) [v1,v2] h nx λv5 h6 n7=>(zG 2 f h6 λvB=>zR vB v4 ((zG 2 d h6 λvC=>zR vC v3 (C.fn 259 (.of 259) [v3,v4] h6 n7 λv8 h9 nB=>gF [(I 0),.zb,(I 0),.zb] [(0,2,v5),(2,2,v8)] λvG=>zT 4 e vG h9 nB λvF hD nE=>K (jl.fr a b c d e f g j) hD nE)))):=by kernel_rfl
theorem jl.go:zQ tbl N C (.of 195) [a0,a1] h nx K0=IR.run jl.t16 C N (fnO jl.res K0) (zi jl.res K0) (jl.fr a0 a1 .u .u .u .u .u .u) h nx:=yE (F:=jl) (by kernel_rfl) (λ_=>by kernel_rfl) (by kernel_rfl)
theorem jl.ret:zi jl.res K0 (jl.fr a b c d e f g j) h nx=zG 4 e h λv1=>K0 v1 h nx:=by kernel_rfl
theorem bU.zx:IR.run bU.t0 C N O K (bU.fr a b c) h nx =
 dh a h nx λv1 h2 n3=>K (bU.fr a v1 (I 0)) h2 n3:=by kernel_rfl
theorem bU.zu:IR.run bU.t1 C N O K (bU.fr a b c) h nx =
 zK 0 b λv1=>zG 2 v1 h λv2=>C.fn 194 (.of 194) [v2] h nx λv3 h4 n5=>K (bU.fr a b v3) h4 n5:=by kernel_rfl
theorem bU.go:zQ tbl N C (.of 110) [a0] h nx K0=IR.run bU.t3 C N (fnO bU.res K0) (zi bU.res K0) (bU.fr a0 .u .u) h nx:=yE (F:=bU) (by kernel_rfl) (λ_=>by kernel_rfl) (by kernel_rfl)
theorem bU.ret:zi bU.res K0 (bU.fr a b c) h nx=K0 c h nx:=by kernel_rfl
theorem bV.zx:IR.run bV.t0 C N O K (bV.fr a b c) h nx =
 dh a h nx λv1 h2 n3=>yR [(I 0),.zb,(I 0),.zb] h2 n3 λv4 h5 n6=>K (bV.fr a v1 v4) h5 n6:=by kernel_rfl
theorem bV.zu:IR.run bV.t1 C N O K (bV.fr a b c) h nx =
 zK 0 b λv1=>zG 2 v1 h λv2=>zK 2 b λv3=>zG 2 v3 h λv4=>C.fn 193 (.of 193) [v2] h nx λv5 h6 n7=>(zG 2 v3 h6 λvE=>zR vE v4 ((zK 2 b λvF=>zR vF v3 (gF [(I 0),.zb,(I 0),.zb] [(0,2,v5),(2,2,v4)] λv8=>zT 4 c v8 h6 n7 λv9 hA nA=>K (bV.fr a b c) hA nA)))):=by kernel_rfl
theorem bV.go:zQ tbl N C (.of 107) [a0] h nx K0=IR.run bV.t3 C N (fnO bV.res K0) (zi bV.res K0) (bV.fr a0 .u .u) h nx:=yE (F:=bV) (by kernel_rfl) (λ_=>by kernel_rfl) (by kernel_rfl)
theorem bV.ret:zi bV.res K0 (bV.fr a b c) h nx=zG 4 c h λv1=>K0 v1 h nx:=by kernel_rfl
theorem bW.zx:IR.run bW.t0 C N O K (bW.fr a b c) h nx =
 dh a h nx λv1 h2 n3=>yR [(I 0),.zb,(I 0),.zb] h2 n3 λv4 h5 n6=>K (bW.fr a v1 v4) h5 n6:=by kernel_rfl
theorem bW.zu:IR.run bW.t1 C N O K (bW.fr a b c) h nx =
 zK 2 b λv1=>zG 2 v1 h λv2=>zK 0 b λv3=>zG 2 v3 h λv4=>C.fn 195 (.of 195) [v2,v4] h nx λv5 h6 n7=>zT 4 c v5 h6 n7 λv8 h9 nB=>K (bW.fr a b c) h9 nB:=by kernel_rfl
theorem bW.go:zQ tbl N C (.of 112) [a0] h nx K0=IR.run bW.t3 C N (fnO bW.res K0) (zi bW.res K0) (bW.fr a0 .u .u) h nx:=yE (F:=bW) (by kernel_rfl) (λ_=>by kernel_rfl) (by kernel_rfl)
theorem bW.ret:zi bW.res K0 (bW.fr a b c) h nx=zG 4 c h λv1=>K0 v1 h nx:=by kernel_rfl
theorem bX.zx:IR.run bX.t0 C N O K (bX.fr a b c d e) h nx =
 dh a h nx λv1 h2 n3=>dh b h2 n3 λv4 h5 n6=>yR [(I 0),.zb,(I 0),.zb] h5 n6 λv7 h8 n9=>K (bX.fr a b v1 v4 v7) h8 n9:=by kernel_rfl
theorem bX.zu:IR.run bX.t1 C N O K (bX.fr a b c d e) h nx =
 zK 0 c λv1=>zG 2 v1 h λv2=>zK 0 d λv3=>zG 2 v3 h λv4=>zK 2 c λv5=>zG 2 v5 h λv6=>zK 2 d λv7=>zG 2 v7 h λv8=>C.fn 198 (.of 198) [v2,v4] h nx λv9 hA nA=>(zG 2 v7 hA λvI=>zR vI v8 ((zK 2 d λvJ=>zR vJ v7 ((zG 2 v5 hA λvK=>zR vK v6 ((zK 2 c λvL=>zR vL v5 (C.fn 198 (.of 198) [v6,v8] hA nA λvF hD nE=>C.fn 195 (.of 195) [v9,vF] hD nE λvC hH nI=>zT 4 e vC hH nI λvM hI nJ=>K (bX.fr a b c d e) hI nJ)))))))):=by kernel_rfl
theorem bX.go:zQ tbl N C (.of 119) [a0,a1] h nx K0=IR.run bX.t3 C N (fnO bX.res K0) (zi bX.res K0) (bX.fr a0 a1 .u .u .u) h nx:=yE (F:=bX) (by kernel_rfl) (λ_=>by kernel_rfl) (by kernel_rfl)
theorem bX.ret:zi bX.res K0 (bX.fr a b c d e) h nx=zG 4 e h λv1=>K0 v1 h nx:=by kernel_rfl
theorem qi.zx:IR.run qi.t0 C N O K (qi.fr a b c d e f) h nx =
 dh a h nx λv1 h2 n3=>dh b h2 n3 λv4 h5 n6=>yR [(I 0),.zb,(I 0),.zb] h5 n6 λv7 h8 n9=>K (qi.fr a b v1 v4 v7 f) h8 n9:=by kernel_rfl
theorem qi.zu:IR.run qi.t1 C N O K (qi.fr a b c d e f) h nx =
 zG 4 c h λv1=>C.fn 122 (.of 122) [v1] h nx λv2 h3 n4=>sG v2 true (λk=>zG 4 d h3 k) λv5=>sGW v2 true (λk=>C.fn 122 (.of 122) [v5] h3 n4 k) h3 n4 λv6 h7 n8=>yP v2 v6 (.bool false) λv9=>K (qi.fr a b c d e v9) h7 n8:=by kernel_rfl
theorem qi.je:IR.run qi.t2 C N O K (qi.fr a b c d e f) h nx =
 zK 0 c λv1=>zG 2 v1 h λv2=>zK 0 d λv3=>zG 2 v3 h λv4=>C.fn 197 (.of 197) [v2,v4] h nx λv5 h6 n7=>C.fn 186 (.of 186) [v5] h6 n7 λv8 h9 nB=>zT 4 e v8 h9 nB λvG hB nC=>K (qi.fr a b c d e f) hB nC:=by kernel_rfl
theorem qi.v5:Arg.ev (.t (.of 5)) ⟨(qi.fr a b c d e f),[]⟩=f:=by kernel_rfl
theorem qi.qj:IR.run qi.t6 C N O K (qi.fr a b c d e f) h nx =
 zK 0 c λv1=>zG 2 v1 h λv2=>zK 2 d λv3=>zG 2 v3 h λv4=>zK 0 d λv5=>zG 2 v5 h λv6=>zK 2 c λv7=>zG 2 v7 h λv8=>zK 2 c λv9=>zG 2 v9 h λvH=>zK 2 d λvG=>zG 2 vG h λvF=>C.fn 198 (.of 198) [v2,v4] h nx λvE hG nH=>(zG 2 vG hG λvN=>zR vN vF ((zK 2 d λvO=>zR vO vG ((zG 2 v9 hG λvP=>zR vP vH ((zK 2 c λvR=>zR vR v9 ((zG 2 v7 hG λvS=>zR vS v8 ((zK 2 c λvT=>zR vT v7 ((zG 2 v5 hG λvU=>zR vU v6 ((zK 0 d λvV=>zR vV v5 (C.fn 198 (.of 198) [v6,v8] hG nH λvB hJ nK=>(zG 2 vG hJ λvW=>zR vW vF ((zK 2 d λvX=>zR vX vG ((zG 2 v9 hJ λvY=>zR vY vH ((zK 2 c λvZ=>zR vZ v9 (C.fn 197 (.of 197) [vE,vB] hJ nK λv19 hK nL=>(zG 2 vG hK λv34=>zR v34 vF ((zK 2 d λv33=>zR v33 vG ((zG 2 v9 hK λv32=>zR v32 vH ((zK 2 c λv31=>zR v31 v9 (C.fn 198 (.of 198) [vH,vF] hK nL λvK hL nM=>C.fn 195 (.of 195) [v19,vK] hL nM λv25 hM nN=>zT 4 e v25 hM nN λv28 hN nO=>K (qi.fr a b c d e f) hN nO)))))))))))))))))))))))))))))))):=by kernel_rfl
theorem qi.go:zQ tbl N C (.of 114) [a0,a1] h nx K0=IR.run qi.t9 C N (fnO qi.res K0) (zi qi.res K0) (qi.fr a0 a1 .u .u .u .u) h nx:=yE (F:=qi) (by kernel_rfl) (λ_=>by kernel_rfl) (by kernel_rfl)
theorem qi.ret:zi qi.res K0 (qi.fr a b c d e f) h nx=zG 4 e h λv1=>K0 v1 h nx:=by kernel_rfl
theorem bY.zx:IR.run bY.t0 C N O K (bY.fr a b c d e) h nx =
 dh a h nx λv1 h2 n3=>dh b h2 n3 λv4 h5 n6=>yR [(I 0),.zb,(I 0),.zb] h5 n6 λv7 h8 n9=>K (bY.fr a b v1 v4 v7) h8 n9:=by kernel_rfl
theorem bY.zu:IR.run bY.t1 C N O K (bY.fr a b c d e) h nx =
 zG 4 c h λv1=>zG 4 d h λv2=>C.fn 107 (.of 107) [v2] h nx λv3 h4 n5=>(zG 4 c h4 λvF=>zR vF v1 (C.fn 114 (.of 114) [v1,v3] h4 n5 λv6 h7 n8=>zT 4 e v6 h7 n8 λv9 hA nA=>K (bY.fr a b c d e) hA nA)):=by kernel_rfl
theorem bY.go:zQ tbl N C (.of 192) [a0,a1] h nx K0=IR.run bY.t3 C N (fnO bY.res K0) (zi bY.res K0) (bY.fr a0 a1 .u .u .u) h nx:=yE (F:=bY) (by kernel_rfl) (λ_=>by kernel_rfl) (by kernel_rfl)
theorem bY.ret:zi bY.res K0 (bY.fr a b c d e) h nx=zG 4 e h λv1=>K0 v1 h nx:=by kernel_rfl
theorem F40.zx:IR.run F40.t0 C N O K (F40.fr a b c d e f g j p s i l o q) h nx =
 K (F40.fr a b (.str []) d e f g j p s i l o q) h nx:=by kernel_rfl
theorem F40.zu:IR.run F40.t1 C N O K (F40.fr a b c d e f g j p s i l o q) h nx =
 C.fn 127 (.of 127) [a] h nx λv1 h2 n3=>fJ 0 v1 λv4=>fJ 1 v1 λv5=>fJ 2 v1 λv6=>K (F40.fr a b c v4 v5 v6 g j p s i l o q) h2 n3:=by kernel_rfl
theorem F40.je:IR.run F40.t2 C N O K (F40.fr a b c d e f g j p s i l o q) h nx =
 C.fn 127 (.of 127) [b] h nx λv1 h2 n3=>fJ 0 v1 λv4=>fJ 1 v1 λv5=>fJ 2 v1 λv6=>K (F40.fr a b c d e f v4 v5 v6 s i l o q) h2 n3:=by kernel_rfl
theorem F40.bq:IR.run F40.t3 C N O K (F40.fr a b c d e f g j p s i l o q) h nx =
 sG f true (λk=>k p) λv1=>yP f v1 (.bool false) λv2=>K (F40.fr a b c d e f g j p s i l o v2) h nx:=by kernel_rfl
theorem F40.fD:IR.run F40.t4 C N O K (F40.fr a b c d e f g j p s i l o q) h nx =
 za .mul .int d j λv1=>za .mul .int g e λv2=>za .add .int v1 v2 λv3=>za .mul .int e j λv4=>C.fn 128 (.of 128) [v3,v4] h nx λv5 h6 n7=>K (F40.fr a b v5 d e f g j p s i l o q) h6 n7:=by kernel_rfl
theorem F40.v13:Arg.ev (.t (.of 13)) ⟨(F40.fr a b c d e f g j p s i l o q),[]⟩=q:=by kernel_rfl
theorem F40.go:zQ tbl N C (.of 40) [a0,a1] h nx K0=IR.run F40.t17 C N (fnO F40.res K0) (zi F40.res K0) (F40.fr a0 a1 .u .u .u .u .u .u .u .u .u .u .u .u) h nx:=yE (F:=F40) (by kernel_rfl) (λ_=>by kernel_rfl) (by kernel_rfl)
theorem F40.ret:zi F40.res K0 (F40.fr a b c d e f g j p s i l o q) h nx=K0 c h nx:=by kernel_rfl
theorem F39.zx:IR.run F39.t0 C N O K (F39.fr a b) h nx =
 K (F39.fr a (.bool false)) h nx:=by kernel_rfl
theorem F39.zu:IR.run F39.t1 C N O K (F39.fr a b) h nx =
 za .eql .str a (.str [48]) λv1=>K (F39.fr a v1) h nx:=by kernel_rfl
theorem F39.go:zQ tbl N C (.of 39) [a0] h nx K0=IR.run F39.t3 C N (fnO F39.res K0) (zi F39.res K0) (F39.fr a0 .u) h nx:=yE (F:=F39) (by kernel_rfl) (λ_=>by kernel_rfl) (by kernel_rfl)
theorem F39.ret:zi F39.res K0 (F39.fr a b) h nx=K0 b h nx:=by kernel_rfl
theorem pu.zx:IR.run pu.t0 C N O K (pu.fr a b c) h nx =
 K (pu.fr a (I 0) c) h nx:=by kernel_rfl
theorem pu.zu:IR.run pu.t1 C N O K (pu.fr a b c) h nx =
 C.fn 312 (.of 312) [a] h nx λv1 h2 n3=>C.fn 329 (.of 329) [v1] h2 n3 λv4 h5 n6=>K (pu.fr a b v4) h5 n6:=by kernel_rfl
theorem pu.je:IR.run pu.t2 C N O K (pu.fr a b c) h nx =
 aR 1 20 (.fp (aJ 2)) c λv1=>zI v1 h λv2=>za .geq .int a v2 λv3=>C.fn 330 (.of 330) [v3] h nx λv4 h5 n6=>za .add .int c v4 λv7=>K (pu.fr a v7 c) h5 n6:=by kernel_rfl
theorem pu.go:zQ tbl N C (.of 316) [a0] h nx K0=IR.run pu.t5 C N (fnO pu.res K0) (zi pu.res K0) (pu.fr a0 .u .u) h nx:=yE (F:=pu) (by kernel_rfl) (λ_=>by kernel_rfl) (by kernel_rfl)
theorem pu.ret:zi pu.res K0 (pu.fr a b c) h nx=K0 b h nx:=by kernel_rfl
theorem bZ.zx:IR.run bZ.t0 C N O K (bZ.fr a b) h nx =
 K (bZ.fr a (I 0)) h nx:=by kernel_rfl
theorem bZ.zu:IR.run bZ.t1 C N O K (bZ.fr a b) h nx =
 za .mul .int a (I 78913) λv1=>za .shr .int v1 (.int .u64 18) λv2=>K (bZ.fr a v2) h nx:=by kernel_rfl
theorem bZ.go:zQ tbl N C (.of 329) [a0] h nx K0=IR.run bZ.t3 C N (fnO bZ.res K0) (zi bZ.res K0) (bZ.fr a0 .u) h nx:=yE (F:=bZ) (by kernel_rfl) (λ_=>by kernel_rfl) (by kernel_rfl)
theorem bZ.ret:zi bZ.res K0 (bZ.fr a b) h nx=K0 b h nx:=by kernel_rfl
theorem ve.zx:IR.run ve.t0 C N O K (ve.fr a b c) h nx =
 K (ve.fr a (I 0) c) h nx:=by kernel_rfl
theorem ve.zu:IR.run ve.t1 C N O K (ve.fr a b c) h nx =
 K (ve.fr a b a) h nx:=by kernel_rfl
theorem ve.je:IR.run ve.t2 C N O K (ve.fr a b c) h nx =
 K (ve.fr a (I 1) c) h nx:=by kernel_rfl
theorem ve.v2:Arg.ev (.t (.of 2)) ⟨(ve.fr a b c),[]⟩=c:=by kernel_rfl
theorem ve.qj:IR.run ve.t6 C N O K (ve.fr a b c) h nx =
 K (ve.fr a (I 0) c) h nx:=by kernel_rfl
theorem ve.go:zQ tbl N C (.of 330) [a0] h nx K0=IR.run ve.t9 C N (fnO ve.res K0) (zi ve.res K0) (ve.fr a0 .u .u) h nx:=yE (F:=ve) (by kernel_rfl) (λ_=>by kernel_rfl) (by kernel_rfl)
theorem ve.ret:zi ve.res K0 (ve.fr a b c) h nx=K0 b h nx:=by kernel_rfl
theorem zf.zx:IR.run zf.t0 C N O K (zf.fr a b c d e f g j p s i l o q u y v w z) h nx =
 sLen a λv1=>K (zf.fr a b v1 d e f g j p s i l o q u y v w z) h nx:=by kernel_rfl
theorem zf.zu:IR.run zf.t1 C N O K (zf.fr a b c d e f g j p s i l o q u y v w z) h nx =
 za .geq .int c (I 8) λv1=>K (zf.fr a b c d e f g j p s i l o q u v1 v w z) h nx:=by kernel_rfl
theorem zf.v15:Arg.ev (.t (.of 15)) ⟨(zf.fr a b c d e f g j p s i l o q u y v w z),[]⟩=y:=by kernel_rfl
theorem zf.fD:IR.run zf.t4 C N O K (zf.fr a b c d e f g j p s i l o q u y v w z) h nx =
 za .rem .int b (.int .u64 100000000) λv1=>kJ .u32 v1 λv2=>K (zf.fr a b c v2 e f g j p s i l o q u y v w z) h nx:=by kernel_rfl
theorem zf.mg:IR.run zf.t5 C N O K (zf.fr a b c d e f g j p s i l o q u y v w z) h nx =
 za .quo .int b (.int .u64 100000000) λv1=>K (zf.fr a v1 c d e f g j p s i l o q u y v w z) h nx:=by kernel_rfl
theorem zf.qj:IR.run zf.t6 C N O K (zf.fr a b c d e f g j p s i l o q u y v w z) h nx =
 za .quo .int d (.int .u32 10000) λv1=>za .rem .int d (.int .u32 10000) λv2=>K (zf.fr a b c d v1 v2 g j p s i l o q u y v w z) h nx:=by kernel_rfl
theorem zf.nk:IR.run zf.t7 C N O K (zf.fr a b c d e f g j p s i l o q u y v w z) h nx =
 za .quo .int f (.int .u32 100) λv1=>za .mul .int v1 (.int .u32 2) λv2=>za .rem .int f (.int .u32 100) λv3=>za .mul .int v3 (.int .u32 2) λv4=>K (zf.fr a b c d e f v2 v4 p s i l o q u y v w z) h nx:=by kernel_rfl
theorem zf.fQ:IR.run zf.t8 C N O K (zf.fr a b c d e f g j p s i l o q u y v w z) h nx =
 za .quo .int e (.int .u32 100) λv1=>za .mul .int v1 (.int .u32 2) λv2=>za .rem .int e (.int .u32 100) λv3=>za .mul .int v3 (.int .u32 2) λv4=>K (zf.fr a b c d e f g j v2 v4 i l o q u y v w z) h nx:=by kernel_rfl
theorem zf.nu:IR.run zf.t9 C N O K (zf.fr a b c d e f g j p s i l o q u y v w z) h nx =
 za .sub .int c (I 1) λv1=>za .sub .int c (I 2) λv2=>za .add .int j (.int .u32 1) λv3=>jO (.str [48,48,48,49,48,50,48,51,48,52,48,53,48,54,48,55,48,56,48,57,49,48,49,49,49,50,49,51,49,52,49,53,49,54,49,55,49,56,49,57,50,48,50,49,50,50,50,51,50,52,50,53,50,54,50,55,50,56,50,57,51,48,51,49,51,50,51,51,51,52,51,53,51,54,51,55,51,56,51,57,52,48,52,49,52,50,52,51,52,52,52,53,52,54,52,55,52,56,52,57,53,48,53,49,53,50,53,51,53,52,53,53,53,54,53,55,53,56,53,57,54,48,54,49,54,50,54,51,54,52,54,53,54,54,54,55,54,56,54,57,55,48,55,49,55,50,55,51,55,52,55,53,55,54,55,55,55,56,55,57,56,48,56,49,56,50,56,51,56,52,56,53,56,54,56,55,56,56,56,57,57,48,57,49,57,50,57,51,57,52,57,53,57,54,57,55,57,56,57,57]) v3 λv4=>jO (.str [48,48,48,49,48,50,48,51,48,52,48,53,48,54,48,55,48,56,48,57,49,48,49,49,49,50,49,51,49,52,49,53,49,54,49,55,49,56,49,57,50,48,50,49,50,50,50,51,50,52,50,53,50,54,50,55,50,56,50,57,51,48,51,49,51,50,51,51,51,52,51,53,51,54,51,55,51,56,51,57,52,48,52,49,52,50,52,51,52,52,52,53,52,54,52,55,52,56,52,57,53,48,53,49,53,50,53,51,53,52,53,53,53,54,53,55,53,56,53,57,54,48,54,49,54,50,54,51,54,52,54,53,54,54,54,55,54,56,54,57,55,48,55,49,55,50,55,51,55,52,55,53,55,54,55,55,55,56,55,57,56,48,56,49,56,50,56,51,56,52,56,53,56,54,56,55,56,56,56,57,57,48,57,49,57,50,57,51,57,52,57,53,57,54,57,55,57,56,57,57]) j λv5=>zN 1 a v1 λv6=>zT 1 v6 v4 h nx λv7 h8 n9=>(jO (.str [48,48,48,49,48,50,48,51,48,52,48,53,48,54,48,55,48,56,48,57,49,48,49,49,49,50,49,51,49,52,49,53,49,54,49,55,49,56,49,57,50,48,50,49,50,50,50,51,50,52,50,53,50,54,50,55,50,56,50,57,51,48,51,49,51,50,51,51,51,52,51,53,51,54,51,55,51,56,51,57,52,48,52,49,52,50,52,51,52,52,52,53,52,54,52,55,52,56,52,57,53,48,53,49,53,50,53,51,53,52,53,53,53,54,53,55,53,56,53,57,54,48,54,49,54,50,54,51,54,52,54,53,54,54,54,55,54,56,54,57,55,48,55,49,55,50,55,51,55,52,55,53,55,54,55,55,55,56,55,57,56,48,56,49,56,50,56,51,56,52,56,53,56,54,56,55,56,56,56,57,57,48,57,49,57,50,57,51,57,52,57,53,57,54,57,55,57,56,57,57]) j λvC=>zR vC v5 (zR j j ((za .sub .int c (I 2) λvD=>zR vD v2 (zR c c (zR a a (zN 1 a v2 λvH=>zT 1 vH v5 h8 n9 λvG hB nC=>K (zf.fr a b c d e f g j p s i l o q u y v w z) hB nC))))))):=by kernel_rfl
theorem zf.rH:IR.run zf.t10 C N O K (zf.fr a b c d e f g j p s i l o q u y v w z) h nx =
 za .sub .int c (I 3) λv1=>za .sub .int c (I 4) λv2=>za .add .int g (.int .u32 1) λv3=>jO (.str [48,48,48,49,48,50,48,51,48,52,48,53,48,54,48,55,48,56,48,57,49,48,49,49,49,50,49,51,49,52,49,53,49,54,49,55,49,56,49,57,50,48,50,49,50,50,50,51,50,52,50,53,50,54,50,55,50,56,50,57,51,48,51,49,51,50,51,51,51,52,51,53,51,54,51,55,51,56,51,57,52,48,52,49,52,50,52,51,52,52,52,53,52,54,52,55,52,56,52,57,53,48,53,49,53,50,53,51,53,52,53,53,53,54,53,55,53,56,53,57,54,48,54,49,54,50,54,51,54,52,54,53,54,54,54,55,54,56,54,57,55,48,55,49,55,50,55,51,55,52,55,53,55,54,55,55,55,56,55,57,56,48,56,49,56,50,56,51,56,52,56,53,56,54,56,55,56,56,56,57,57,48,57,49,57,50,57,51,57,52,57,53,57,54,57,55,57,56,57,57]) v3 λv4=>jO (.str [48,48,48,49,48,50,48,51,48,52,48,53,48,54,48,55,48,56,48,57,49,48,49,49,49,50,49,51,49,52,49,53,49,54,49,55,49,56,49,57,50,48,50,49,50,50,50,51,50,52,50,53,50,54,50,55,50,56,50,57,51,48,51,49,51,50,51,51,51,52,51,53,51,54,51,55,51,56,51,57,52,48,52,49,52,50,52,51,52,52,52,53,52,54,52,55,52,56,52,57,53,48,53,49,53,50,53,51,53,52,53,53,53,54,53,55,53,56,53,57,54,48,54,49,54,50,54,51,54,52,54,53,54,54,54,55,54,56,54,57,55,48,55,49,55,50,55,51,55,52,55,53,55,54,55,55,55,56,55,57,56,48,56,49,56,50,56,51,56,52,56,53,56,54,56,55,56,56,56,57,57,48,57,49,57,50,57,51,57,52,57,53,57,54,57,55,57,56,57,57]) g λv5=>zN 1 a v1 λv6=>zT 1 v6 v4 h nx λv7 h8 n9=>(jO (.str [48,48,48,49,48,50,48,51,48,52,48,53,48,54,48,55,48,56,48,57,49,48,49,49,49,50,49,51,49,52,49,53,49,54,49,55,49,56,49,57,50,48,50,49,50,50,50,51,50,52,50,53,50,54,50,55,50,56,50,57,51,48,51,49,51,50,51,51,51,52,51,53,51,54,51,55,51,56,51,57,52,48,52,49,52,50,52,51,52,52,52,53,52,54,52,55,52,56,52,57,53,48,53,49,53,50,53,51,53,52,53,53,53,54,53,55,53,56,53,57,54,48,54,49,54,50,54,51,54,52,54,53,54,54,54,55,54,56,54,57,55,48,55,49,55,50,55,51,55,52,55,53,55,54,55,55,55,56,55,57,56,48,56,49,56,50,56,51,56,52,56,53,56,54,56,55,56,56,56,57,57,48,57,49,57,50,57,51,57,52,57,53,57,54,57,55,57,56,57,57]) g λvC=>zR vC v5 (zR g g ((za .sub .int c (I 4) λvD=>zR vD v2 (zR c c (zR a a (zN 1 a v2 λvH=>zT 1 vH v5 h8 n9 λvG hB nC=>K (zf.fr a b c d e f g j p s i l o q u y v w z) hB nC))))))):=by kernel_rfl
theorem zf.mh:IR.run zf.t11 C N O K (zf.fr a b c d e f g j p s i l o q u y v w z) h nx =
 za .sub .int c (I 5) λv1=>za .sub .int c (I 6) λv2=>za .add .int s (.int .u32 1) λv3=>jO (.str [48,48,48,49,48,50,48,51,48,52,48,53,48,54,48,55,48,56,48,57,49,48,49,49,49,50,49,51,49,52,49,53,49,54,49,55,49,56,49,57,50,48,50,49,50,50,50,51,50,52,50,53,50,54,50,55,50,56,50,57,51,48,51,49,51,50,51,51,51,52,51,53,51,54,51,55,51,56,51,57,52,48,52,49,52,50,52,51,52,52,52,53,52,54,52,55,52,56,52,57,53,48,53,49,53,50,53,51,53,52,53,53,53,54,53,55,53,56,53,57,54,48,54,49,54,50,54,51,54,52,54,53,54,54,54,55,54,56,54,57,55,48,55,49,55,50,55,51,55,52,55,53,55,54,55,55,55,56,55,57,56,48,56,49,56,50,56,51,56,52,56,53,56,54,56,55,56,56,56,57,57,48,57,49,57,50,57,51,57,52,57,53,57,54,57,55,57,56,57,57]) v3 λv4=>jO (.str [48,48,48,49,48,50,48,51,48,52,48,53,48,54,48,55,48,56,48,57,49,48,49,49,49,50,49,51,49,52,49,53,49,54,49,55,49,56,49,57,50,48,50,49,50,50,50,51,50,52,50,53,50,54,50,55,50,56,50,57,51,48,51,49,51,50,51,51,51,52,51,53,51,54,51,55,51,56,51,57,52,48,52,49,52,50,52,51,52,52,52,53,52,54,52,55,52,56,52,57,53,48,53,49,53,50,53,51,53,52,53,53,53,54,53,55,53,56,53,57,54,48,54,49,54,50,54,51,54,52,54,53,54,54,54,55,54,56,54,57,55,48,55,49,55,50,55,51,55,52,55,53,55,54,55,55,55,56,55,57,56,48,56,49,56,50,56,51,56,52,56,53,56,54,56,55,56,56,56,57,57,48,57,49,57,50,57,51,57,52,57,53,57,54,57,55,57,56,57,57]) s λv5=>zN 1 a v1 λv6=>zT 1 v6 v4 h nx λv7 h8 n9=>(jO (.str [48,48,48,49,48,50,48,51,48,52,48,53,48,54,48,55,48,56,48,57,49,48,49,49,49,50,49,51,49,52,49,53,49,54,49,55,49,56,49,57,50,48,50,49,50,50,50,51,50,52,50,53,50,54,50,55,50,56,50,57,51,48,51,49,51,50,51,51,51,52,51,53,51,54,51,55,51,56,51,57,52,48,52,49,52,50,52,51,52,52,52,53,52,54,52,55,52,56,52,57,53,48,53,49,53,50,53,51,53,52,53,53,53,54,53,55,53,56,53,57,54,48,54,49,54,50,54,51,54,52,54,53,54,54,54,55,54,56,54,57,55,48,55,49,55,50,55,51,55,52,55,53,55,54,55,55,55,56,55,57,56,48,56,49,56,50,56,51,56,52,56,53,56,54,56,55,56,56,56,57,57,48,57,49,57,50,57,51,57,52,57,53,57,54,57,55,57,56,57,57]) s λvC=>zR vC v5 (zR s s ((za .sub .int c (I 6) λvD=>zR vD v2 (zR c c (zR a a (zN 1 a v2 λvH=>zT 1 vH v5 h8 n9 λvG hB nC=>K (zf.fr a b c d e f g j p s i l o q u y v w z) hB nC))))))):=by kernel_rfl
theorem zf.fB:IR.run zf.t12 C N O K (zf.fr a b c d e f g j p s i l o q u y v w z) h nx =
 za .sub .int c (I 7) λv1=>za .sub .int c (I 8) λv2=>za .add .int p (.int .u32 1) λv3=>jO (.str [48,48,48,49,48,50,48,51,48,52,48,53,48,54,48,55,48,56,48,57,49,48,49,49,49,50,49,51,49,52,49,53,49,54,49,55,49,56,49,57,50,48,50,49,50,50,50,51,50,52,50,53,50,54,50,55,50,56,50,57,51,48,51,49,51,50,51,51,51,52,51,53,51,54,51,55,51,56,51,57,52,48,52,49,52,50,52,51,52,52,52,53,52,54,52,55,52,56,52,57,53,48,53,49,53,50,53,51,53,52,53,53,53,54,53,55,53,56,53,57,54,48,54,49,54,50,54,51,54,52,54,53,54,54,54,55,54,56,54,57,55,48,55,49,55,50,55,51,55,52,55,53,55,54,55,55,55,56,55,57,56,48,56,49,56,50,56,51,56,52,56,53,56,54,56,55,56,56,56,57,57,48,57,49,57,50,57,51,57,52,57,53,57,54,57,55,57,56,57,57]) v3 λv4=>jO (.str [48,48,48,49,48,50,48,51,48,52,48,53,48,54,48,55,48,56,48,57,49,48,49,49,49,50,49,51,49,52,49,53,49,54,49,55,49,56,49,57,50,48,50,49,50,50,50,51,50,52,50,53,50,54,50,55,50,56,50,57,51,48,51,49,51,50,51,51,51,52,51,53,51,54,51,55,51,56,51,57,52,48,52,49,52,50,52,51,52,52,52,53,52,54,52,55,52,56,52,57,53,48,53,49,53,50,53,51,53,52,53,53,53,54,53,55,53,56,53,57,54,48,54,49,54,50,54,51,54,52,54,53,54,54,54,55,54,56,54,57,55,48,55,49,55,50,55,51,55,52,55,53,55,54,55,55,55,56,55,57,56,48,56,49,56,50,56,51,56,52,56,53,56,54,56,55,56,56,56,57,57,48,57,49,57,50,57,51,57,52,57,53,57,54,57,55,57,56,57,57]) p λv5=>zN 1 a v1 λv6=>zT 1 v6 v4 h nx λv7 h8 n9=>(jO (.str [48,48,48,49,48,50,48,51,48,52,48,53,48,54,48,55,48,56,48,57,49,48,49,49,49,50,49,51,49,52,49,53,49,54,49,55,49,56,49,57,50,48,50,49,50,50,50,51,50,52,50,53,50,54,50,55,50,56,50,57,51,48,51,49,51,50,51,51,51,52,51,53,51,54,51,55,51,56,51,57,52,48,52,49,52,50,52,51,52,52,52,53,52,54,52,55,52,56,52,57,53,48,53,49,53,50,53,51,53,52,53,53,53,54,53,55,53,56,53,57,54,48,54,49,54,50,54,51,54,52,54,53,54,54,54,55,54,56,54,57,55,48,55,49,55,50,55,51,55,52,55,53,55,54,55,55,55,56,55,57,56,48,56,49,56,50,56,51,56,52,56,53,56,54,56,55,56,56,56,57,57,48,57,49,57,50,57,51,57,52,57,53,57,54,57,55,57,56,57,57]) p λvC=>zR vC v5 (zR p p ((za .sub .int c (I 8) λvD=>zR vD v2 (zR c c (zR a a (zN 1 a v2 λvH=>zT 1 vH v5 h8 n9 λvG hB nC=>K (zf.fr a b c d e f g j p s i l o q u y v w z) hB nC))))))):=by kernel_rfl
theorem zf.fK:IR.run zf.t13 C N O K (zf.fr a b c d e f g j p s i l o q u y v w z) h nx =
 za .sub .int c (I 8) λv1=>K (zf.fr a b v1 d e f g j p s i l o q u y v w z) h nx:=by kernel_rfl
theorem zf.zwr (Inv:Nat->AV->AV->T Blk->Pa->Prop) {m:Nat} (hm:m<N) (hi:Inv m b c h nx)
  (step:∀ (m:Nat) (z1 z2 z3 z4 z5 z6 z7 z8 z9 zA:AV) (h:T Blk) (nx:Pa) (R:Ks Prop),Inv m z1 z2 h nx->(∀ (m':Nat) (w1 w2 w3 w4 w5 w6 w7 w8 w9 wA:AV) (h':T Blk) (nx':Pa),m'<m->Inv m' w1 w2 h' nx'->R (zf.fr a w1 w2 w3 w4 w5 w6 w7 w8 w9 i l o q u wA v w z) h' nx'=.ok True)->IR.run zf.t24 C N O R (zf.fr a z1 z2 z3 z4 z5 z6 z7 z8 z9 i l o q u zA v w z) h nx=.ok True) :
  IR.run zf.t25 C N O K (zf.fr a b c d e f g j p s i l o q u y v w z) h nx=.ok True:=by
 rw [zf.t25];refine yC (λm tm h nx=>∃ z1 z2 z3 z4 z5 z6 z7 z8 z9 zA,tm=(zf.fr a z1 z2 z3 z4 z5 z6 z7 z8 z9 i l o q u zA v w z)/\Inv m z1 z2 h nx) ?_ hm ⟨_,_,_,_,_,_,_,_,_,_,rfl,hi⟩;rintro m tm h nx R ⟨z1,z2,z3,z4,z5,z6,z7,z8,z9,zA,rfl,hi⟩ hR;exact step m z1 z2 z3 z4 z5 z6 z7 z8 z9 zA h nx R hi λm' w1 w2 w3 w4 w5 w6 w7 w8 w9 wA h' nx' hlt hi'=>hR m' _ h' nx' hlt ⟨_,_,_,_,_,_,_,_,_,_,rfl,hi'⟩
theorem zf.zhy:IR.run zf.t27 C N O K (zf.fr a b c d e f g j p s i l o q u y v w z) h nx =
 kJ .u32 b λv1=>K (zf.fr a b c d e f g j p s v1 l o q u y v w z) h nx:=by kernel_rfl
theorem zf.zdq:IR.run zf.t28 C N O K (zf.fr a b c d e f g j p s i l o q u y v w z) h nx =
 za .geq .int c (I 4) λv1=>K (zf.fr a b c d e f g j p s i l o q u y v1 w z) h nx:=by kernel_rfl
theorem zf.zws:IR.run zf.t29 C N O K (zf.fr a b c d e f g j p s i l o q u y v w z) h nx =
 za .rem .int i (.int .u32 10000) λv1=>K (zf.fr a b c d e f g j p s i v1 o q u y v w z) h nx:=by kernel_rfl
theorem zf.zdv:IR.run zf.t30 C N O K (zf.fr a b c d e f g j p s i l o q u y v w z) h nx =
 za .quo .int i (.int .u32 10000) λv1=>K (zf.fr a b c d e f g j p s v1 l o q u y v w z) h nx:=by kernel_rfl
theorem zf.zwt:IR.run zf.t31 C N O K (zf.fr a b c d e f g j p s i l o q u y v w z) h nx =
 za .quo .int l (.int .u32 100) λv1=>za .mul .int v1 (.int .u32 2) λv2=>za .rem .int l (.int .u32 100) λv3=>za .mul .int v3 (.int .u32 2) λv4=>K (zf.fr a b c d e f g j p s i l v2 v4 u y v w z) h nx:=by kernel_rfl
theorem zf.zwu:IR.run zf.t32 C N O K (zf.fr a b c d e f g j p s i l o q u y v w z) h nx =
 za .sub .int c (I 1) λv1=>za .sub .int c (I 2) λv2=>za .add .int q (.int .u32 1) λv3=>jO (.str [48,48,48,49,48,50,48,51,48,52,48,53,48,54,48,55,48,56,48,57,49,48,49,49,49,50,49,51,49,52,49,53,49,54,49,55,49,56,49,57,50,48,50,49,50,50,50,51,50,52,50,53,50,54,50,55,50,56,50,57,51,48,51,49,51,50,51,51,51,52,51,53,51,54,51,55,51,56,51,57,52,48,52,49,52,50,52,51,52,52,52,53,52,54,52,55,52,56,52,57,53,48,53,49,53,50,53,51,53,52,53,53,53,54,53,55,53,56,53,57,54,48,54,49,54,50,54,51,54,52,54,53,54,54,54,55,54,56,54,57,55,48,55,49,55,50,55,51,55,52,55,53,55,54,55,55,55,56,55,57,56,48,56,49,56,50,56,51,56,52,56,53,56,54,56,55,56,56,56,57,57,48,57,49,57,50,57,51,57,52,57,53,57,54,57,55,57,56,57,57]) v3 λv4=>jO (.str [48,48,48,49,48,50,48,51,48,52,48,53,48,54,48,55,48,56,48,57,49,48,49,49,49,50,49,51,49,52,49,53,49,54,49,55,49,56,49,57,50,48,50,49,50,50,50,51,50,52,50,53,50,54,50,55,50,56,50,57,51,48,51,49,51,50,51,51,51,52,51,53,51,54,51,55,51,56,51,57,52,48,52,49,52,50,52,51,52,52,52,53,52,54,52,55,52,56,52,57,53,48,53,49,53,50,53,51,53,52,53,53,53,54,53,55,53,56,53,57,54,48,54,49,54,50,54,51,54,52,54,53,54,54,54,55,54,56,54,57,55,48,55,49,55,50,55,51,55,52,55,53,55,54,55,55,55,56,55,57,56,48,56,49,56,50,56,51,56,52,56,53,56,54,56,55,56,56,56,57,57,48,57,49,57,50,57,51,57,52,57,53,57,54,57,55,57,56,57,57]) q λv5=>zN 1 a v1 λv6=>zT 1 v6 v4 h nx λv7 h8 n9=>(jO (.str [48,48,48,49,48,50,48,51,48,52,48,53,48,54,48,55,48,56,48,57,49,48,49,49,49,50,49,51,49,52,49,53,49,54,49,55,49,56,49,57,50,48,50,49,50,50,50,51,50,52,50,53,50,54,50,55,50,56,50,57,51,48,51,49,51,50,51,51,51,52,51,53,51,54,51,55,51,56,51,57,52,48,52,49,52,50,52,51,52,52,52,53,52,54,52,55,52,56,52,57,53,48,53,49,53,50,53,51,53,52,53,53,53,54,53,55,53,56,53,57,54,48,54,49,54,50,54,51,54,52,54,53,54,54,54,55,54,56,54,57,55,48,55,49,55,50,55,51,55,52,55,53,55,54,55,55,55,56,55,57,56,48,56,49,56,50,56,51,56,52,56,53,56,54,56,55,56,56,56,57,57,48,57,49,57,50,57,51,57,52,57,53,57,54,57,55,57,56,57,57]) q λvC=>zR vC v5 (zR q q ((za .sub .int c (I 2) λvD=>zR vD v2 (zR c c (zR a a (zN 1 a v2 λvH=>zT 1 vH v5 h8 n9 λvG hB nC=>K (zf.fr a b c d e f g j p s i l o q u y v w z) hB nC))))))):=by kernel_rfl
theorem zf.zba:IR.run zf.t33 C N O K (zf.fr a b c d e f g j p s i l o q u y v w z) h nx =
 za .sub .int c (I 3) λv1=>za .sub .int c (I 4) λv2=>za .add .int o (.int .u32 1) λv3=>jO (.str [48,48,48,49,48,50,48,51,48,52,48,53,48,54,48,55,48,56,48,57,49,48,49,49,49,50,49,51,49,52,49,53,49,54,49,55,49,56,49,57,50,48,50,49,50,50,50,51,50,52,50,53,50,54,50,55,50,56,50,57,51,48,51,49,51,50,51,51,51,52,51,53,51,54,51,55,51,56,51,57,52,48,52,49,52,50,52,51,52,52,52,53,52,54,52,55,52,56,52,57,53,48,53,49,53,50,53,51,53,52,53,53,53,54,53,55,53,56,53,57,54,48,54,49,54,50,54,51,54,52,54,53,54,54,54,55,54,56,54,57,55,48,55,49,55,50,55,51,55,52,55,53,55,54,55,55,55,56,55,57,56,48,56,49,56,50,56,51,56,52,56,53,56,54,56,55,56,56,56,57,57,48,57,49,57,50,57,51,57,52,57,53,57,54,57,55,57,56,57,57]) v3 λv4=>jO (.str [48,48,48,49,48,50,48,51,48,52,48,53,48,54,48,55,48,56,48,57,49,48,49,49,49,50,49,51,49,52,49,53,49,54,49,55,49,56,49,57,50,48,50,49,50,50,50,51,50,52,50,53,50,54,50,55,50,56,50,57,51,48,51,49,51,50,51,51,51,52,51,53,51,54,51,55,51,56,51,57,52,48,52,49,52,50,52,51,52,52,52,53,52,54,52,55,52,56,52,57,53,48,53,49,53,50,53,51,53,52,53,53,53,54,53,55,53,56,53,57,54,48,54,49,54,50,54,51,54,52,54,53,54,54,54,55,54,56,54,57,55,48,55,49,55,50,55,51,55,52,55,53,55,54,55,55,55,56,55,57,56,48,56,49,56,50,56,51,56,52,56,53,56,54,56,55,56,56,56,57,57,48,57,49,57,50,57,51,57,52,57,53,57,54,57,55,57,56,57,57]) o λv5=>zN 1 a v1 λv6=>zT 1 v6 v4 h nx λv7 h8 n9=>(jO (.str [48,48,48,49,48,50,48,51,48,52,48,53,48,54,48,55,48,56,48,57,49,48,49,49,49,50,49,51,49,52,49,53,49,54,49,55,49,56,49,57,50,48,50,49,50,50,50,51,50,52,50,53,50,54,50,55,50,56,50,57,51,48,51,49,51,50,51,51,51,52,51,53,51,54,51,55,51,56,51,57,52,48,52,49,52,50,52,51,52,52,52,53,52,54,52,55,52,56,52,57,53,48,53,49,53,50,53,51,53,52,53,53,53,54,53,55,53,56,53,57,54,48,54,49,54,50,54,51,54,52,54,53,54,54,54,55,54,56,54,57,55,48,55,49,55,50,55,51,55,52,55,53,55,54,55,55,55,56,55,57,56,48,56,49,56,50,56,51,56,52,56,53,56,54,56,55,56,56,56,57,57,48,57,49,57,50,57,51,57,52,57,53,57,54,57,55,57,56,57,57]) o λvC=>zR vC v5 (zR o o ((za .sub .int c (I 4) λvD=>zR vD v2 (zR c c (zR a a (zN 1 a v2 λvH=>zT 1 vH v5 h8 n9 λvG hB nC=>K (zf.fr a b c d e f g j p s i l o q u y v w z) hB nC))))))):=by kernel_rfl
theorem zf.af:IR.run zf.t34 C N O K (zf.fr a b c d e f g j p s i l o q u y v w z) h nx =
 za .sub .int c (I 4) λv1=>K (zf.fr a b v1 d e f g j p s i l o q u y v w z) h nx:=by kernel_rfl
theorem zf.v16:Arg.ev (.t (.of 16)) ⟨(zf.fr a b c d e f g j p s i l o q u y v w z),[]⟩=v:=by kernel_rfl
theorem zf.zk6:IR.run zf.t42 C N O K (zf.fr a b c d e f g j p s i l o q u y v w z) h nx =
 za .geq .int c (I 2) λv1=>K (zf.fr a b c d e f g j p s i l o q u y v v1 z) h nx:=by kernel_rfl
theorem zf.zk7:IR.run zf.t43 C N O K (zf.fr a b c d e f g j p s i l o q u y v w z) h nx =
 za .rem .int i (.int .u32 100) λv1=>za .mul .int v1 (.int .u32 2) λv2=>K (zf.fr a b c d e f g j p s i l o q v2 y v w z) h nx:=by kernel_rfl
theorem zf.zk8:IR.run zf.t44 C N O K (zf.fr a b c d e f g j p s i l o q u y v w z) h nx =
 za .quo .int i (.int .u32 100) λv1=>K (zf.fr a b c d e f g j p s v1 l o q u y v w z) h nx:=by kernel_rfl
theorem zf.zk9:IR.run zf.t45 C N O K (zf.fr a b c d e f g j p s i l o q u y v w z) h nx =
 za .sub .int c (I 1) λv1=>za .sub .int c (I 2) λv2=>za .add .int u (.int .u32 1) λv3=>jO (.str [48,48,48,49,48,50,48,51,48,52,48,53,48,54,48,55,48,56,48,57,49,48,49,49,49,50,49,51,49,52,49,53,49,54,49,55,49,56,49,57,50,48,50,49,50,50,50,51,50,52,50,53,50,54,50,55,50,56,50,57,51,48,51,49,51,50,51,51,51,52,51,53,51,54,51,55,51,56,51,57,52,48,52,49,52,50,52,51,52,52,52,53,52,54,52,55,52,56,52,57,53,48,53,49,53,50,53,51,53,52,53,53,53,54,53,55,53,56,53,57,54,48,54,49,54,50,54,51,54,52,54,53,54,54,54,55,54,56,54,57,55,48,55,49,55,50,55,51,55,52,55,53,55,54,55,55,55,56,55,57,56,48,56,49,56,50,56,51,56,52,56,53,56,54,56,55,56,56,56,57,57,48,57,49,57,50,57,51,57,52,57,53,57,54,57,55,57,56,57,57]) v3 λv4=>jO (.str [48,48,48,49,48,50,48,51,48,52,48,53,48,54,48,55,48,56,48,57,49,48,49,49,49,50,49,51,49,52,49,53,49,54,49,55,49,56,49,57,50,48,50,49,50,50,50,51,50,52,50,53,50,54,50,55,50,56,50,57,51,48,51,49,51,50,51,51,51,52,51,53,51,54,51,55,51,56,51,57,52,48,52,49,52,50,52,51,52,52,52,53,52,54,52,55,52,56,52,57,53,48,53,49,53,50,53,51,53,52,53,53,53,54,53,55,53,56,53,57,54,48,54,49,54,50,54,51,54,52,54,53,54,54,54,55,54,56,54,57,55,48,55,49,55,50,55,51,55,52,55,53,55,54,55,55,55,56,55,57,56,48,56,49,56,50,56,51,56,52,56,53,56,54,56,55,56,56,56,57,57,48,57,49,57,50,57,51,57,52,57,53,57,54,57,55,57,56,57,57]) u λv5=>zN 1 a v1 λv6=>zT 1 v6 v4 h nx λv7 h8 n9=>(jO (.str [48,48,48,49,48,50,48,51,48,52,48,53,48,54,48,55,48,56,48,57,49,48,49,49,49,50,49,51,49,52,49,53,49,54,49,55,49,56,49,57,50,48,50,49,50,50,50,51,50,52,50,53,50,54,50,55,50,56,50,57,51,48,51,49,51,50,51,51,51,52,51,53,51,54,51,55,51,56,51,57,52,48,52,49,52,50,52,51,52,52,52,53,52,54,52,55,52,56,52,57,53,48,53,49,53,50,53,51,53,52,53,53,53,54,53,55,53,56,53,57,54,48,54,49,54,50,54,51,54,52,54,53,54,54,54,55,54,56,54,57,55,48,55,49,55,50,55,51,55,52,55,53,55,54,55,55,55,56,55,57,56,48,56,49,56,50,56,51,56,52,56,53,56,54,56,55,56,56,56,57,57,48,57,49,57,50,57,51,57,52,57,53,57,54,57,55,57,56,57,57]) u λvC=>zR vC v5 (zR u u ((za .sub .int c (I 2) λvD=>zR vD v2 (zR c c (zR a a (zN 1 a v2 λvH=>zT 1 vH v5 h8 n9 λvG hB nC=>K (zf.fr a b c d e f g j p s i l o q u y v w z) hB nC))))))):=by kernel_rfl
theorem zf.zla:IR.run zf.t46 C N O K (zf.fr a b c d e f g j p s i l o q u y v w z) h nx =
 za .sub .int c (I 2) λv1=>K (zf.fr a b v1 d e f g j p s i l o q u y v w z) h nx:=by kernel_rfl
theorem zf.v17:Arg.ev (.t (.of 17)) ⟨(zf.fr a b c d e f g j p s i l o q u y v w z),[]⟩=w:=by kernel_rfl
theorem zf.zdw:IR.run zf.t52 C N O K (zf.fr a b c d e f g j p s i l o q u y v w z) h nx =
 za .gtr .int c (I 0) λv1=>K (zf.fr a b c d e f g j p s i l o q u y v w v1) h nx:=by kernel_rfl
theorem zf.zwv:IR.run zf.t53 C N O K (zf.fr a b c d e f g j p s i l o q u y v w z) h nx =
 za .add .int (.int .u32 48) i λv1=>kJ .u8 v1 λv2=>zN 1 a (I 0) λv3=>zT 1 v3 v2 h nx λv4 h5 n6=>K (zf.fr a b c d e f g j p s i l o q u y v w z) h5 n6:=by kernel_rfl
theorem zf.v18:Arg.ev (.t (.of 18)) ⟨(zf.fr a b c d e f g j p s i l o q u y v w z),[]⟩=z:=by kernel_rfl
theorem zf.go:zQ tbl N C (.of 317) [a0,a1] h nx K0=IR.run zf.t60 C N (fnO zf.res K0) (zi zf.res K0) (zf.fr a0 a1 .u .u .u .u .u .u .u .u .u .u .u .u .u .u .u .u .u) h nx:=yE (F:=zf) (by kernel_rfl) (λ_=>by kernel_rfl) (by kernel_rfl)
theorem zf.ret:zi zf.res K0 (zf.fr a b c d e f g j p s i l o q u y v w z) h nx=K0 (.tup []) h nx:=by kernel_rfl
theorem zw.zx:IR.run zw.t0 C N O K (zw.fr a b c d e f g j p s i) h nx =
 K (zw.fr a b (.str []) d e f g j p s i) h nx:=by kernel_rfl
theorem zw.zu:IR.run zw.t1 C N O K (zw.fr a b c d e f g j p s i) h nx =
 za .eql .int b (I 10) λv1=>K (zw.fr a b c d e f g v1 p s i) h nx:=by kernel_rfl
theorem zw.je:IR.run zw.t2 C N O K (zw.fr a b c d e f g j p s i) h nx =
 za .leq .int (I 0) a λv1=>sG v1 true (λk=>k a) λv2=>sG v1 true (λk=>za .lss .int v2 (I 100) k) λv3=>yP v1 v3 (.bool false) λv4=>K (zw.fr a b c d e f g j v4 s i) h nx:=by kernel_rfl
theorem zw.bq:IR.run zw.t3 C N O K (zw.fr a b c d e f g j p s i) h nx =
 C.fn 315 (.of 315) [a] h nx λv1 h2 n3=>K (zw.fr a b v1 d e f g j p s i) h2 n3:=by kernel_rfl
theorem zw.v8:Arg.ev (.t (.of 8)) ⟨(zw.fr a b c d e f g j p s i),[]⟩=p:=by kernel_rfl
theorem zw.nk:IR.run zw.t7 C N O K (zw.fr a b c d e f g j p s i) h nx =
 yR [(.int .u8 0),(.int .u8 0),(.int .u8 0),(.int .u8 0),(.int .u8 0),(.int .u8 0),(.int .u8 0),(.int .u8 0),(.int .u8 0),(.int .u8 0),(.int .u8 0),(.int .u8 0),(.int .u8 0),(.int .u8 0),(.int .u8 0),(.int .u8 0),(.int .u8 0),(.int .u8 0),(.int .u8 0),(.int .u8 0),(.int .u8 0),(.int .u8 0),(.int .u8 0),(.int .u8 0)] h nx λv1 h2 n3=>K (zw.fr a b c v1 e f g j p s i) h2 n3:=by kernel_rfl
theorem zw.fQ:IR.run zw.t8 C N O K (zw.fr a b c d e f g j p s i) h nx =
 kJ .u64 a λv1=>K (zw.fr a b c d v1 f g j p s i) h nx:=by kernel_rfl
theorem zw.nu:IR.run zw.t9 C N O K (zw.fr a b c d e f g j p s i) h nx =
 za .lss .int a (I 0) λv1=>K (zw.fr a b c d e f g j p v1 i) h nx:=by kernel_rfl
theorem zw.rH:IR.run zw.t10 C N O K (zw.fr a b c d e f g j p s i) h nx =
 sNeg e λv1=>K (zw.fr a b c d v1 f g j p s i) h nx:=by kernel_rfl
theorem zw.v9:Arg.ev (.t (.of 9)) ⟨(zw.fr a b c d e f g j p s i),[]⟩=s:=by kernel_rfl
theorem zw.fK:IR.run zw.t13 C N O K (zw.fr a b c d e f g j p s i) h nx =
 C.fn 316 (.of 316) [e] h nx λv1 h2 n3=>K (zw.fr a b c d e v1 g j p s i) h2 n3:=by kernel_rfl
theorem zw.rJ:IR.run zw.t14 C N O K (zw.fr a b c d e f g j p s i) h nx =
 za .add .int (I 1) f λv1=>vQ 1 24 d (some (I 1)) (some v1) none λv2=>C.fn 317 (.of 317) [v2,e] h nx λv3 h4 n5=>K (zw.fr a b c d e f g j p s i) h4 n5:=by kernel_rfl
theorem zw.tZ:IR.run zw.t15 C N O K (zw.fr a b c d e f g j p s i) h nx =
 za .lss .int a (I 0) λv1=>K (zw.fr a b c d e f g j p s v1) h nx:=by kernel_rfl
theorem zw.sJ:IR.run zw.t16 C N O K (zw.fr a b c d e f g j p s i) h nx =
 aR 1 24 d (I 0) λv1=>zT 1 v1 (.int .u8 45) h nx λv2 h3 n4=>K (zw.fr a b c d e f g j p s i) h3 n4:=by kernel_rfl
theorem zw.nV:IR.run zw.t17 C N O K (zw.fr a b c d e f g j p s i) h nx =
 za .add .int (I 1) f λv1=>vQ 1 24 d none (some v1) none λv2=>sB2s v2 h λv3=>K (zw.fr a b v3 d e f g j p s i) h nx:=by kernel_rfl
theorem zw.v10:Arg.ev (.t (.of 10)) ⟨(zw.fr a b c d e f g j p s i),[]⟩=i:=by kernel_rfl
theorem zw.sZ:IR.run zw.t22 C N O K (zw.fr a b c d e f g j p s i) h nx =
 za .add .int (I 1) f λv1=>vQ 1 24 d (some (I 1)) (some v1) none λv2=>sB2s v2 h λv3=>K (zw.fr a b v3 d e f g j p s i) h nx:=by kernel_rfl
theorem zw.v7:Arg.ev (.t (.of 7)) ⟨(zw.fr a b c d e f g j p s i),[]⟩=j:=by kernel_rfl
theorem zw.go:zQ tbl N C (.of 314) [a0,a1] h nx K0=IR.run zw.t38 C N (fnO zw.res K0) (zi zw.res K0) (zw.fr a0 a1 .u .u .u .u .u .u .u .u .u) h nx:=yE (F:=zw) (by kernel_rfl) (λ_=>by kernel_rfl) (by kernel_rfl)
theorem zw.ret:zi zw.res K0 (zw.fr a b c d e f g j p s i) h nx=K0 c h nx:=by kernel_rfl
theorem vg.zx:IR.run vg.t0 C N O K (vg.fr a b c) h nx =
 K (vg.fr a (.str []) c) h nx:=by kernel_rfl
theorem vg.zu:IR.run vg.t1 C N O K (vg.fr a b c) h nx =
 za .lss .int a (I 10) λv1=>K (vg.fr a b v1) h nx:=by kernel_rfl
theorem vg.je:IR.run vg.t2 C N O K (vg.fr a b c) h nx =
 za .add .int a (I 1) λv1=>jS (.str [48,49,50,51,52,53,54,55,56,57,97,98,99,100,101,102,103,104,105,106,107,108,109,110,111,112,113,114,115,116,117,118,119,120,121,122]) (some a) (some v1) λv2=>K (vg.fr a v2 c) h nx:=by kernel_rfl
theorem vg.v2:Arg.ev (.t (.of 2)) ⟨(vg.fr a b c),[]⟩=c:=by kernel_rfl
theorem vg.qj:IR.run vg.t6 C N O K (vg.fr a b c) h nx =
 za .mul .int a (I 2) λv1=>za .mul .int a (I 2) λv2=>za .add .int v2 (I 2) λv3=>jS (.str [48,48,48,49,48,50,48,51,48,52,48,53,48,54,48,55,48,56,48,57,49,48,49,49,49,50,49,51,49,52,49,53,49,54,49,55,49,56,49,57,50,48,50,49,50,50,50,51,50,52,50,53,50,54,50,55,50,56,50,57,51,48,51,49,51,50,51,51,51,52,51,53,51,54,51,55,51,56,51,57,52,48,52,49,52,50,52,51,52,52,52,53,52,54,52,55,52,56,52,57,53,48,53,49,53,50,53,51,53,52,53,53,53,54,53,55,53,56,53,57,54,48,54,49,54,50,54,51,54,52,54,53,54,54,54,55,54,56,54,57,55,48,55,49,55,50,55,51,55,52,55,53,55,54,55,55,55,56,55,57,56,48,56,49,56,50,56,51,56,52,56,53,56,54,56,55,56,56,56,57,57,48,57,49,57,50,57,51,57,52,57,53,57,54,57,55,57,56,57,57]) (some v1) (some v3) λv4=>K (vg.fr a v4 c) h nx:=by kernel_rfl
theorem vg.go:zQ tbl N C (.of 315) [a0] h nx K0=IR.run vg.t9 C N (fnO vg.res K0) (zi vg.res K0) (vg.fr a0 .u .u) h nx:=yE (F:=vg) (by kernel_rfl) (λ_=>by kernel_rfl) (by kernel_rfl)
theorem vg.ret:zi vg.res K0 (vg.fr a b c) h nx=K0 b h nx:=by kernel_rfl
theorem cu.zx:IR.run cu.t0 C N O K (cu.fr a b) h nx =
 K (cu.fr a (.str [])) h nx:=by kernel_rfl
theorem cu.zu:IR.run cu.t1 C N O K (cu.fr a b) h nx =
 C.fn 314 (.of 314) [a,(I 10)] h nx λv1 h2 n3=>K (cu.fr a v1) h2 n3:=by kernel_rfl
theorem cu.go:zQ tbl N C (.of 287) [a0] h nx K0=IR.run cu.t3 C N (fnO cu.res K0) (zi cu.res K0) (cu.fr a0 .u) h nx:=yE (F:=cu) (by kernel_rfl) (λ_=>by kernel_rfl) (by kernel_rfl)
theorem cu.ret:zi cu.res K0 (cu.fr a b) h nx=K0 b h nx:=by kernel_rfl
theorem cB.zx:IR.run cB.t0 C N O K (cB.fr a b) h nx =
 K (cB.fr a (.str [])) h nx:=by kernel_rfl
theorem cB.zu:IR.run cB.t1 C N O K (cB.fr a b) h nx =
 C.fn 287 (.of 287) [a] h nx λv1 h2 n3=>K (cB.fr a v1) h2 n3:=by kernel_rfl
theorem cB.go:zQ tbl N C (.of 248) [a0] h nx K0=IR.run cB.t3 C N (fnO cB.res K0) (zi cB.res K0) (cB.fr a0 .u) h nx:=yE (F:=cB) (by kernel_rfl) (λ_=>by kernel_rfl) (by kernel_rfl)
theorem cB.ret:zi cB.res K0 (cB.fr a b) h nx=K0 b h nx:=by kernel_rfl
theorem dz.zx:IR.run dz.t0 C N O K (dz.fr a b c d e f g j p s i l o q u y v w) h nx =
 dh a h nx λv1 h2 n3=>K (dz.fr a v1 (.str []) d e f g j p s i l o q u y v w) h2 n3:=by kernel_rfl
theorem dz.zu:IR.run dz.t1 C N O K (dz.fr a b c d e f g j p s i l o q u y v w) h nx =
 zK 1 b λv1=>zI v1 h λv2=>za .eql (.nil .sl) v2 .zb λv3=>K (dz.fr a b c d e f g j p s i l v3 q u y v w) h nx:=by kernel_rfl
theorem dz.je:IR.run dz.t2 C N O K (dz.fr a b c d e f g j p s i l o q u y v w) h nx =
 zK 0 b λv1=>zI v1 h λv2=>C.fn 248 (.of 248) [v2] h nx λv3 h4 n5=>K (dz.fr a b v3 d e f g j p s i l o q u y v w) h4 n5:=by kernel_rfl
theorem dz.v12:Arg.ev (.t (.of 12)) ⟨(dz.fr a b c d e f g j p s i l o q u y v w),[]⟩=o:=by kernel_rfl
theorem dz.go:zQ tbl N C (.of 188) [a0] h nx K0=IR.run dz.t60 C N (fnO dz.res K0) (zi dz.res K0) (dz.fr a0 .u .u .u .u .u .u .u .u .u .u .u .u .u .u .u .u .u) h nx:=yE (F:=dz) (by kernel_rfl) (λ_=>by kernel_rfl) (by kernel_rfl)
theorem dz.ret:zi dz.res K0 (dz.fr a b c d e f g j p s i l o q u y v w) h nx=K0 c h nx:=by kernel_rfl
theorem F97.zx:IR.run F97.t0 C N O K (F97.fr a b c d) h nx =
 dh a h nx λv1 h2 n3=>K (F97.fr a v1 (.str []) d) h2 n3:=by kernel_rfl
theorem F97.zu:IR.run F97.t1 C N O K (F97.fr a b c d) h nx =
 zG 4 b h λv1=>C.fn 122 (.of 122) [v1] h nx λv2 h3 n4=>K (F97.fr a b c v2) h3 n4:=by kernel_rfl
theorem F97.je:IR.run F97.t2 C N O K (F97.fr a b c d) h nx =
 zK 0 b λv1=>zG 2 v1 h λv2=>C.fn 188 (.of 188) [v2] h nx λv3 h4 n5=>K (F97.fr a b v3 d) h4 n5:=by kernel_rfl
theorem F97.v3:Arg.ev (.t (.of 3)) ⟨(F97.fr a b c d),[]⟩=d:=by kernel_rfl
theorem F97.qj:IR.run F97.t6 C N O K (F97.fr a b c d) h nx =
 zK 0 b λv1=>zG 2 v1 h λv2=>zK 2 b λv3=>zG 2 v3 h λv4=>C.fn 188 (.of 188) [v2] h nx λv5 h6 n7=>(zG 2 v3 h6 λvC=>zR vC v4 ((zK 2 b λvD=>zR vD v3 (za .add .str v5 (.str [47]) λv8=>C.fn 188 (.of 188) [v4] h6 n7 λv9 hA nA=>(za .add .str v5 (.str [47]) λvE=>zR vE v8 (za .add .str v8 v9 λvF=>K (F97.fr a b vF d) hA nA)))))):=by kernel_rfl
theorem F97.go:zQ tbl N C (.of 97) [a0] h nx K0=IR.run F97.t9 C N (fnO F97.res K0) (zi F97.res K0) (F97.fr a0 .u .u .u) h nx:=yE (F:=F97) (by kernel_rfl) (λ_=>by kernel_rfl) (by kernel_rfl)
theorem F97.ret:zi F97.res K0 (F97.fr a b c d) h nx=K0 c h nx:=by kernel_rfl
theorem jf.zx:IR.run jf.t0 C N O K (jf.fr a b c d e f g j p) h nx =
 K (jf.fr a b .zb d e f g j p) h nx:=by kernel_rfl
theorem jf.zu:IR.run jf.t1 C N O K (jf.fr a b c d e f g j p) h nx =
 C.fn 105 (.of 105) [a] h nx λv1 h2 n3=>K (jf.fr a b c v1 e f g j p) h2 n3:=by kernel_rfl
theorem jf.je:IR.run jf.t2 C N O K (jf.fr a b c d e f g j p) h nx =
 sLen b λv1=>K (jf.fr a b c d e b v1 (I 0) p) h nx:=by kernel_rfl
theorem jf.bq:IR.run jf.t3 C N O K (jf.fr a b c d e f g j p) h nx =
 za .lss .int j g λv1=>K (jf.fr a b c d e f g j v1) h nx:=by kernel_rfl
theorem jf.v8:Arg.ev (.t (.of 8)) ⟨(jf.fr a b c d e f g j p),[]⟩=p:=by kernel_rfl
theorem jf.mg:IR.run jf.t5 C N O K (jf.fr a b c d e f g j p) h nx =
 zN 1 f j λv1=>zI v1 h λv2=>K (jf.fr a b c d v2 f g j p) h nx:=by kernel_rfl
theorem jf.qj:IR.run jf.t6 C N O K (jf.fr a b c d e f g j p) h nx =
 C.fn 96 (.of 96) [(I 1)] h nx λv1 h2 n3=>zN 4 d e λv4=>zT 4 v4 v1 h2 n3 λv5 h6 n7=>K (jf.fr a b c d e f g j p) h6 n7:=by kernel_rfl
theorem jf.nu:IR.run jf.t9 C N O K (jf.fr a b c d e f g j p) h nx =
 za .add .int j (I 1) λv1=>K (jf.fr a b c d e f g v1 p) h nx:=by kernel_rfl
theorem jf.zdx (Inv:Nat->AV->T Blk->Pa->Prop) {m:Nat} (hm:m<N) (hi:Inv m j h nx)
  (step:∀ (m:Nat) (z4 z7 z8:AV) (h:T Blk) (nx:Pa) (R:Ks Prop),Inv m z7 h nx->(∀ (m':Nat) (w4 w7 w8:AV) (h':T Blk) (nx':Pa),m'<m->Inv m' w7 h' nx'->R (jf.fr a b c d w4 f g w7 w8) h' nx'=.ok True)->IR.run jf.t12 C N O R (jf.fr a b c d z4 f g z7 z8) h nx=.ok True) :
  IR.run jf.t13 C N O K (jf.fr a b c d e f g j p) h nx=.ok True:=by
 rw [jf.t13];refine yC (λm tm h nx=>∃ z4 z7 z8,tm=(jf.fr a b c d z4 f g z7 z8)/\Inv m z7 h nx) ?_ hm ⟨_,_,_,rfl,hi⟩;rintro m tm h nx R ⟨z4,z7,z8,rfl,hi⟩ hR;exact step m z4 z7 z8 h nx R hi λm' w4 w7 w8 h' nx' hlt hi'=>hR m' _ h' nx' hlt ⟨_,_,_,rfl,hi'⟩
theorem jf.sJ:IR.run jf.t16 C N O K (jf.fr a b c d e f g j p) h nx =
 K (jf.fr a b d d e f g j p) h nx:=by kernel_rfl
theorem jf.go:zQ tbl N C (.of 104) [a0,a1] h nx K0=IR.run jf.t20 C N (fnO jf.res K0) (zi jf.res K0) (jf.fr a0 a1 .u .u .u .u .u .u .u) h nx:=yE (F:=jf) (by kernel_rfl) (λ_=>by kernel_rfl) (by kernel_rfl)
theorem jf.ret:zi jf.res K0 (jf.fr a b c d e f g j p) h nx=K0 c h nx:=by kernel_rfl
theorem jg.zx:IR.run jg.t0 C N O K (jg.fr a b c d e f g) h nx =
 K (jg.fr a .zb c d e f g) h nx:=by kernel_rfl
theorem jg.zu:IR.run jg.t1 C N O K (jg.fr a b c d e f g) h nx =
 qO 4 64 [(I 0),.zb,(I 0),.zb] a a h nx λv1 h2 n3=>K (jg.fr a b v1 d e f g) h2 n3:=by kernel_rfl
theorem jg.je:IR.run jg.t2 C N O K (jg.fr a b c d e f g) h nx =
 sLen c λv1=>K (jg.fr a b c d v1 (I 0) g) h nx:=by kernel_rfl
theorem jg.bq:IR.run jg.t3 C N O K (jg.fr a b c d e f g) h nx =
 za .lss .int f e λv1=>K (jg.fr a b c d e f v1) h nx:=by kernel_rfl
theorem jg.v6:Arg.ev (.t (.of 6)) ⟨(jg.fr a b c d e f g),[]⟩=g:=by kernel_rfl
theorem jg.mg:IR.run jg.t5 C N O K (jg.fr a b c d e f g) h nx =
 K (jg.fr a b c f e f g) h nx:=by kernel_rfl
theorem jg.qj:IR.run jg.t6 C N O K (jg.fr a b c d e f g) h nx =
 C.fn 96 (.of 96) [(I 0)] h nx λv1 h2 n3=>zN 4 c d λv4=>zT 4 v4 v1 h2 n3 λv5 h6 n7=>K (jg.fr a b c d e f g) h6 n7:=by kernel_rfl
theorem jg.nu:IR.run jg.t9 C N O K (jg.fr a b c d e f g) h nx =
 za .add .int f (I 1) λv1=>K (jg.fr a b c d e v1 g) h nx:=by kernel_rfl
theorem jg.zdx (Inv:Nat->AV->T Blk->Pa->Prop) {m:Nat} (hm:m<N) (hi:Inv m f h nx)
  (step:∀ (m:Nat) (z3 z5 z6:AV) (h:T Blk) (nx:Pa) (R:Ks Prop),Inv m z5 h nx->(∀ (m':Nat) (w3 w5 w6:AV) (h':T Blk) (nx':Pa),m'<m->Inv m' w5 h' nx'->R (jg.fr a b c w3 e w5 w6) h' nx'=.ok True)->IR.run jg.t12 C N O R (jg.fr a b c z3 e z5 z6) h nx=.ok True) :
  IR.run jg.t13 C N O K (jg.fr a b c d e f g) h nx=.ok True:=by
 rw [jg.t13];refine yC (λm tm h nx=>∃ z3 z5 z6,tm=(jg.fr a b c z3 e z5 z6)/\Inv m z5 h nx) ?_ hm ⟨_,_,_,rfl,hi⟩;rintro m tm h nx R ⟨z3,z5,z6,rfl,hi⟩ hR;exact step m z3 z5 z6 h nx R hi λm' w3 w5 w6 h' nx' hlt hi'=>hR m' _ h' nx' hlt ⟨_,_,_,rfl,hi'⟩
theorem jg.sJ:IR.run jg.t16 C N O K (jg.fr a b c d e f g) h nx =
 K (jg.fr a c c d e f g) h nx:=by kernel_rfl
theorem jg.go:zQ tbl N C (.of 105) [a0] h nx K0=IR.run jg.t20 C N (fnO jg.res K0) (zi jg.res K0) (jg.fr a0 .u .u .u .u .u .u) h nx:=yE (F:=jg) (by kernel_rfl) (λ_=>by kernel_rfl) (by kernel_rfl)
theorem jg.ret:zi jg.res K0 (jg.fr a b c d e f g) h nx=K0 b h nx:=by kernel_rfl
theorem jm.zx:IR.run jm.t0 C N O K (jm.fr a b c d e f g j p s i) h nx =
 dh b h nx λv1 h2 n3=>K (jm.fr a b c v1 e f g j p s i) h2 n3:=by kernel_rfl
theorem jm.zu:IR.run jm.t1 C N O K (jm.fr a b c d e f g j p s i) h nx =
 sLen c λv1=>K (jm.fr a b c d e f c v1 (I 0) s i) h nx:=by kernel_rfl
theorem jm.je:IR.run jm.t2 C N O K (jm.fr a b c d e f g j p s i) h nx =
 za .lss .int p j λv1=>K (jm.fr a b c d e f g j p v1 i) h nx:=by kernel_rfl
theorem jm.v9:Arg.ev (.t (.of 9)) ⟨(jm.fr a b c d e f g j p s i),[]⟩=s:=by kernel_rfl
theorem jm.fD:IR.run jm.t4 C N O K (jm.fr a b c d e f g j p s i) h nx =
 zN 4 g p λv1=>zG 4 v1 h λv2=>yR [(I 0),.zb,(I 0),.zb] h nx λv3 h4 n5=>zT 4 v3 v2 h4 n5 λv6 h7 n8=>K (jm.fr a b c d p v3 g j p s i) h7 n8:=by kernel_rfl
theorem jm.mg:IR.run jm.t5 C N O K (jm.fr a b c d e f g j p s i) h nx =
 zG 4 f h λv1=>C.fn 110 (.of 110) [v1] h nx λv2 h3 n4=>za .neq .int v2 (I 0) λv5=>K (jm.fr a b c d e f g j p s v5) h3 n4:=by kernel_rfl
theorem jm.qj:IR.run jm.t6 C N O K (jm.fr a b c d e f g j p s i) h nx =
 zN 4 a e λv1=>zG 4 v1 h λv2=>zG 4 d h λv3=>zG 4 f h λv4=>C.fn 119 (.of 119) [v3,v4] h nx λv5 h6 n7=>(zG 4 v1 h6 λvB=>zR vB v2 ((zN 4 a e λvC=>zR vC v1 (zR e e (zR a a (zR e e (zR a a (C.fn 192 (.of 192) [v2,v5] h6 n7 λv8 h9 nB=>zR e e (zR a a (zN 4 a e λvG=>zT 4 vG v8 h9 nB λvF hD nE=>K (jm.fr a b c d e f g j p s i) hD nE)))))))))):=by kernel_rfl
theorem jm.v10:Arg.ev (.t (.of 10)) ⟨(jm.fr a b c d e f g j p s i),[]⟩=i:=by kernel_rfl
theorem jm.mh:IR.run jm.t11 C N O K (jm.fr a b c d e f g j p s i) h nx =
 za .add .int p (I 1) λv1=>K (jm.fr a b c d e f g j v1 s i) h nx:=by kernel_rfl
theorem jm.zds (Inv:Nat->AV->T Blk->Pa->Prop) {m:Nat} (hm:m<N) (hi:Inv m p h nx)
  (step:∀ (m:Nat) (z4 z5 z8 z9 zB:AV) (h:T Blk) (nx:Pa) (R:Ks Prop),Inv m z8 h nx->(∀ (m':Nat) (w4 w5 w8 w9 wB:AV) (h':T Blk) (nx':Pa),m'<m->Inv m' w8 h' nx'->R (jm.fr a b c d w4 w5 g j w8 w9 wB) h' nx'=.ok True)->IR.run jm.t14 C N O R (jm.fr a b c d z4 z5 g j z8 z9 zB) h nx=.ok True) :
  IR.run jm.t15 C N O K (jm.fr a b c d e f g j p s i) h nx=.ok True:=by
 rw [jm.t15];refine yC (λm tm h nx=>∃ z4 z5 z8 z9 zB,tm=(jm.fr a b c d z4 z5 g j z8 z9 zB)/\Inv m z8 h nx) ?_ hm ⟨_,_,_,_,_,rfl,hi⟩;rintro m tm h nx R ⟨z4,z5,z8,z9,zB,rfl,hi⟩ hR;exact step m z4 z5 z8 z9 zB h nx R hi λm' w4 w5 w8 w9 wB h' nx' hlt hi'=>hR m' _ h' nx' hlt ⟨_,_,_,_,_,rfl,hi'⟩
theorem jm.go:zQ tbl N C (.of 106) [a0,a1,a2] h nx K0=IR.run jm.t18 C N (fnO jm.res K0) (zi jm.res K0) (jm.fr a0 a1 a2 .u .u .u .u .u .u .u .u) h nx:=yE (F:=jm) (by kernel_rfl) (λ_=>by kernel_rfl) (by kernel_rfl)
theorem jm.ret:zi jm.res K0 (jm.fr a b c d e f g j p s i) h nx=K0 (.tup []) h nx:=by kernel_rfl
theorem jo.zx:IR.run jo.t0 C N O K (jo.fr a b c d e f g j p s) h nx =
 dh b h nx λv1 h2 n3=>K (jo.fr a b v1 d e f g j p s) h2 n3:=by kernel_rfl
theorem jo.zu:IR.run jo.t1 C N O K (jo.fr a b c d e f g j p s) h nx =
 sLen a λv1=>K (jo.fr a b c d e a v1 (I 0) p s) h nx:=by kernel_rfl
theorem jo.je:IR.run jo.t2 C N O K (jo.fr a b c d e f g j p s) h nx =
 za .lss .int j g λv1=>K (jo.fr a b c d e f g j v1 s) h nx:=by kernel_rfl
theorem jo.v8:Arg.ev (.t (.of 8)) ⟨(jo.fr a b c d e f g j p s),[]⟩=p:=by kernel_rfl
theorem jo.fD:IR.run jo.t4 C N O K (jo.fr a b c d e f g j p s) h nx =
 zN 4 f j λv1=>zG 4 v1 h λv2=>yR [(I 0),.zb,(I 0),.zb] h nx λv3 h4 n5=>zT 4 v3 v2 h4 n5 λv6 h7 n8=>K (jo.fr a b c j v3 f g j p s) h7 n8:=by kernel_rfl
theorem jo.mg:IR.run jo.t5 C N O K (jo.fr a b c d e f g j p s) h nx =
 zG 4 e h λv1=>C.fn 110 (.of 110) [v1] h nx λv2 h3 n4=>za .neq .int v2 (I 0) λv5=>K (jo.fr a b c d e f g j p v5) h3 n4:=by kernel_rfl
theorem jo.qj:IR.run jo.t6 C N O K (jo.fr a b c d e f g j p s) h nx =
 zG 4 e h λv1=>zG 4 c h λv2=>C.fn 119 (.of 119) [v1,v2] h nx λv3 h4 n5=>zN 4 a d λv6=>zT 4 v6 v3 h4 n5 λv7 h8 n9=>K (jo.fr a b c d e f g j p s) h8 n9:=by kernel_rfl
theorem jo.v9:Arg.ev (.t (.of 9)) ⟨(jo.fr a b c d e f g j p s),[]⟩=s:=by kernel_rfl
theorem jo.mh:IR.run jo.t11 C N O K (jo.fr a b c d e f g j p s) h nx =
 za .add .int j (I 1) λv1=>K (jo.fr a b c d e f g v1 p s) h nx:=by kernel_rfl
theorem jo.zds (Inv:Nat->AV->T Blk->Pa->Prop) {m:Nat} (hm:m<N) (hi:Inv m j h nx)
  (step:∀ (m:Nat) (z3 z4 z7 z8 z9:AV) (h:T Blk) (nx:Pa) (R:Ks Prop),Inv m z7 h nx->(∀ (m':Nat) (w3 w4 w7 w8 w9:AV) (h':T Blk) (nx':Pa),m'<m->Inv m' w7 h' nx'->R (jo.fr a b c w3 w4 f g w7 w8 w9) h' nx'=.ok True)->IR.run jo.t14 C N O R (jo.fr a b c z3 z4 f g z7 z8 z9) h nx=.ok True) :
  IR.run jo.t15 C N O K (jo.fr a b c d e f g j p s) h nx=.ok True:=by
 rw [jo.t15];refine yC (λm tm h nx=>∃ z3 z4 z7 z8 z9,tm=(jo.fr a b c z3 z4 f g z7 z8 z9)/\Inv m z7 h nx) ?_ hm ⟨_,_,_,_,_,rfl,hi⟩;rintro m tm h nx R ⟨z3,z4,z7,z8,z9,rfl,hi⟩ hR;exact step m z3 z4 z7 z8 z9 h nx R hi λm' w3 w4 w7 w8 w9 h' nx' hlt hi'=>hR m' _ h' nx' hlt ⟨_,_,_,_,_,rfl,hi'⟩
theorem jo.go:zQ tbl N C (.of 111) [a0,a1] h nx K0=IR.run jo.t18 C N (fnO jo.res K0) (zi jo.res K0) (jo.fr a0 a1 .u .u .u .u .u .u .u .u) h nx:=yE (F:=jo) (by kernel_rfl) (λ_=>by kernel_rfl) (by kernel_rfl)
theorem jo.ret:zi jo.res K0 (jo.fr a b c d e f g j p s) h nx=K0 (.tup []) h nx:=by kernel_rfl
theorem cK.zx:IR.run cK.t0 C N O K (cK.fr a b c) h nx =
 K (cK.fr a b (.bool false)) h nx:=by kernel_rfl
theorem cK.zu:IR.run cK.t1 C N O K (cK.fr a b c) h nx =
 C.fn 247 (.of 247) [a,b] h nx λv1 h2 n3=>za .geq .int v1 (I 0) λv4=>K (cK.fr a b v4) h2 n3:=by kernel_rfl
theorem cK.go:zQ tbl N C (.of 182) [a0,a1] h nx K0=IR.run cK.t3 C N (fnO cK.res K0) (zi cK.res K0) (cK.fr a0 a1 .u) h nx:=yE (F:=cK) (by kernel_rfl) (λ_=>by kernel_rfl) (by kernel_rfl)
theorem cK.ret:zi cK.res K0 (cK.fr a b c) h nx=K0 c h nx:=by kernel_rfl
theorem jd.zx:IR.run jd.t0 C N O K (jd.fr a b c d e f g j) h nx =
 K (jd.fr a b (I 0) d e f g j) h nx:=by kernel_rfl
theorem jd.zu:IR.run jd.t1 C N O K (jd.fr a b c d e f g j) h nx =
 sLen a λv1=>K (jd.fr a b c d v1 (I 0) g j) h nx:=by kernel_rfl
theorem jd.je:IR.run jd.t2 C N O K (jd.fr a b c d e f g j) h nx =
 za .lss .int f e λv1=>K (jd.fr a b c d e f v1 j) h nx:=by kernel_rfl
theorem jd.v6:Arg.ev (.t (.of 6)) ⟨(jd.fr a b c d e f g j),[]⟩=g:=by kernel_rfl
theorem jd.fD:IR.run jd.t4 C N O K (jd.fr a b c d e f g j) h nx =
 K (jd.fr a b c f e f g j) h nx:=by kernel_rfl
theorem jd.mg:IR.run jd.t5 C N O K (jd.fr a b c d e f g j) h nx =
 zN 1 a d λv1=>zI v1 h λv2=>za .eql .int b v2 λv3=>K (jd.fr a b c d e f g v3) h nx:=by kernel_rfl
theorem jd.qj:IR.run jd.t6 C N O K (jd.fr a b c d e f g j) h nx =
 K (jd.fr a b d d e f g j) h nx:=by kernel_rfl
theorem jd.v7:Arg.ev (.t (.of 7)) ⟨(jd.fr a b c d e f g j),[]⟩=j:=by kernel_rfl
theorem jd.fB:IR.run jd.t12 C N O K (jd.fr a b c d e f g j) h nx =
 za .add .int f (I 1) λv1=>K (jd.fr a b c d e v1 g j) h nx:=by kernel_rfl
theorem jd.tq (Inv:Nat->AV->T Blk->Pa->Prop) {m:Nat} (hm:m<N) (hi:Inv m f h nx)
  (step:∀ (m:Nat) (z2 z3 z5 z6 z7:AV) (h:T Blk) (nx:Pa) (R:Ks Prop),Inv m z5 h nx->(∀ (m':Nat) (w2 w3 w5 w6 w7:AV) (h':T Blk) (nx':Pa),m'<m->Inv m' w5 h' nx'->R (jd.fr a b w2 w3 e w5 w6 w7) h' nx'=.ok True)->IR.run jd.t15 C N O R (jd.fr a b z2 z3 e z5 z6 z7) h nx=.ok True) :
  IR.run jd.t16 C N O K (jd.fr a b c d e f g j) h nx=.ok True:=by
 rw [jd.t16];refine yC (λm tm h nx=>∃ z2 z3 z5 z6 z7,tm=(jd.fr a b z2 z3 e z5 z6 z7)/\Inv m z5 h nx) ?_ hm ⟨_,_,_,_,_,rfl,hi⟩;rintro m tm h nx R ⟨z2,z3,z5,z6,z7,rfl,hi⟩ hR;exact step m z2 z3 z5 z6 z7 h nx R hi λm' w2 w3 w5 w6 w7 h' nx' hlt hi'=>hR m' _ h' nx' hlt ⟨_,_,_,_,_,rfl,hi'⟩
theorem jd.nQ:IR.run jd.t19 C N O K (jd.fr a b c d e f g j) h nx =
 K (jd.fr a b (I (-1)) d e f g j) h nx:=by kernel_rfl
theorem jd.go:zQ tbl N C (.of 247) [a0,a1] h nx K0=IR.run jd.t22 C N (fnO jd.res K0) (zi jd.res K0) (jd.fr a0 a1 .u .u .u .u .u .u) h nx:=yE (F:=jd) (by kernel_rfl) (λ_=>by kernel_rfl) (by kernel_rfl)
theorem jd.ret:zi jd.res K0 (jd.fr a b c d e f g j) h nx=K0 c h nx:=by kernel_rfl
theorem jh.zx:IR.run jh.t0 C N O K (jh.fr a b c d e f g j p) h nx =
 K (jh.fr a .zb c d e f g j p) h nx:=by kernel_rfl
theorem jh.zu:IR.run jh.t1 C N O K (jh.fr a b c d e f g j p) h nx =
 sLen a λv1=>qO 1 16 [(.str [])] v1 v1 h nx λv2 h3 n4=>K (jh.fr a b v2 d e f g j p) h3 n4:=by kernel_rfl
theorem jh.je:IR.run jh.t2 C N O K (jh.fr a b c d e f g j p) h nx =
 sLen a λv1=>K (jh.fr a b c d e a v1 (I 0) p) h nx:=by kernel_rfl
theorem jh.bq:IR.run jh.t3 C N O K (jh.fr a b c d e f g j p) h nx =
 za .lss .int j g λv1=>K (jh.fr a b c d e f g j v1) h nx:=by kernel_rfl
theorem jh.v8:Arg.ev (.t (.of 8)) ⟨(jh.fr a b c d e f g j p),[]⟩=p:=by kernel_rfl
theorem jh.mg:IR.run jh.t5 C N O K (jh.fr a b c d e f g j p) h nx =
 zN 4 f j λv1=>zG 4 v1 h λv2=>yR [(I 0),.zb,(I 0),.zb] h nx λv3 h4 n5=>zT 4 v3 v2 h4 n5 λv6 h7 n8=>K (jh.fr a b c j v3 f g j p) h7 n8:=by kernel_rfl
theorem jh.qj:IR.run jh.t6 C N O K (jh.fr a b c d e f g j p) h nx =
 zG 4 e h λv1=>C.fn 97 (.of 97) [v1] h nx λv2 h3 n4=>zN 1 c d λv5=>zT 1 v5 v2 h3 n4 λv6 h7 n8=>K (jh.fr a b c d e f g j p) h7 n8:=by kernel_rfl
theorem jh.nu:IR.run jh.t9 C N O K (jh.fr a b c d e f g j p) h nx =
 za .add .int j (I 1) λv1=>K (jh.fr a b c d e f g v1 p) h nx:=by kernel_rfl
theorem jh.zdx (Inv:Nat->AV->T Blk->Pa->Prop) {m:Nat} (hm:m<N) (hi:Inv m j h nx)
  (step:∀ (m:Nat) (z3 z4 z7 z8:AV) (h:T Blk) (nx:Pa) (R:Ks Prop),Inv m z7 h nx->(∀ (m':Nat) (w3 w4 w7 w8:AV) (h':T Blk) (nx':Pa),m'<m->Inv m' w7 h' nx'->R (jh.fr a b c w3 w4 f g w7 w8) h' nx'=.ok True)->IR.run jh.t12 C N O R (jh.fr a b c z3 z4 f g z7 z8) h nx=.ok True) :
  IR.run jh.t13 C N O K (jh.fr a b c d e f g j p) h nx=.ok True:=by
 rw [jh.t13];refine yC (λm tm h nx=>∃ z3 z4 z7 z8,tm=(jh.fr a b c z3 z4 f g z7 z8)/\Inv m z7 h nx) ?_ hm ⟨_,_,_,_,rfl,hi⟩;rintro m tm h nx R ⟨z3,z4,z7,z8,rfl,hi⟩ hR;exact step m z3 z4 z7 z8 h nx R hi λm' w3 w4 w7 w8 h' nx' hlt hi'=>hR m' _ h' nx' hlt ⟨_,_,_,_,rfl,hi'⟩
theorem jh.sJ:IR.run jh.t16 C N O K (jh.fr a b c d e f g j p) h nx =
 K (jh.fr a c c d e f g j p) h nx:=by kernel_rfl
theorem jh.go:zQ tbl N C (.of 181) [a0] h nx K0=IR.run jh.t20 C N (fnO jh.res K0) (zi jh.res K0) (jh.fr a0 .u .u .u .u .u .u .u .u) h nx:=yE (F:=jh) (by kernel_rfl) (λ_=>by kernel_rfl) (by kernel_rfl)
theorem jh.ret:zi jh.res K0 (jh.fr a b c d e f g j p) h nx=K0 b h nx:=by kernel_rfl
theorem jc.zx:IR.run jc.t0 C N O K (jc.fr a b c d e) h nx =
 K (jc.fr a (.bool false) c d e) h nx:=by kernel_rfl
theorem jc.zu:IR.run jc.t1 C N O K (jc.fr a b c d e) h nx =
 K (jc.fr a b (I 0) d e) h nx:=by kernel_rfl
theorem jc.je:IR.run jc.t2 C N O K (jc.fr a b c d e) h nx =
 uJ a λv1=>za .lss .int c v1 λv2=>K (jc.fr a b c v2 e) h nx:=by kernel_rfl
theorem jc.v3:Arg.ev (.t (.of 3)) ⟨(jc.fr a b c d e),[]⟩=d:=by kernel_rfl
theorem jc.mg:IR.run jc.t5 C N O K tm h nx=zS jc.r3_0 C ⟨tm,[]⟩ h nx (λtm h nx=>K tm.v h nx):=jC ..
theorem jc.zuk:zS (jc.zsk r) C ⟨(jc.fr a b c d e),[]⟩ h nx Kt =
 jO a c λv1=>za .lss .int v1 (.int .u8 48) λv2=>sG v2 false (λk=>k a) λv3=>sG v2 false (λk=>k c) λv4=>sG v2 false (λk=>jO v3 v4 k) λv5=>zS r C ⟨(jc.fr a b c d e),v5::v4::v3::v2::v2::v1::c::a::[]⟩ h nx Kt:=by kernel_rfl
theorem jc.zul:zS (jc.zsl []) C ⟨(jc.fr a b c d e),s0::s1::s2::s3::sT⟩ h nx Kt =
 sG s3 false (λk=>za .gtr .int s0 (.int .u8 57) k) λv1=>yP s3 (.bool true) v1 λv2=>Kt ⟨(jc.fr a b c d v2),v1::s0::s1::s2::s3::sT⟩ h nx:=by kernel_rfl
theorem jc.v4:Arg.ev (.t (.of 4)) ⟨(jc.fr a b c d e),[]⟩=e:=by kernel_rfl
theorem jc.mh:IR.run jc.t11 C N O K (jc.fr a b c d e) h nx =
 za .add .int c (I 1) λv1=>K (jc.fr a b v1 d e) h nx:=by kernel_rfl
theorem jc.zk5 (Inv:Nat->AV->T Blk->Pa->Prop) {m:Nat} (hm:m<N) (hi:Inv m c h nx)
  (step:∀ (m:Nat) (z1 z2 z3 z4:AV) (h:T Blk) (nx:Pa) (R:Ks Prop),Inv m z2 h nx->(∀ (m':Nat) (w1 w2 w3 w4:AV) (h':T Blk) (nx':Pa),m'<m->Inv m' w2 h' nx'->R (jc.fr a w1 w2 w3 w4) h' nx'=.ok True)->IR.run jc.t13 C N O R (jc.fr a z1 z2 z3 z4) h nx=.ok True) :
  IR.run jc.t14 C N O K (jc.fr a b c d e) h nx=.ok True:=by
 rw [jc.t14];refine yC (λm tm h nx=>∃ z1 z2 z3 z4,tm=(jc.fr a z1 z2 z3 z4)/\Inv m z2 h nx) ?_ hm ⟨_,_,_,_,rfl,hi⟩;rintro m tm h nx R ⟨z1,z2,z3,z4,rfl,hi⟩ hR;exact step m z1 z2 z3 z4 h nx R hi λm' w1 w2 w3 w4 h' nx' hlt hi'=>hR m' _ h' nx' hlt ⟨_,_,_,_,rfl,hi'⟩
theorem jc.nV:IR.run jc.t17 C N O K (jc.fr a b c d e) h nx =
 K (jc.fr a (.bool true) c d e) h nx:=by kernel_rfl
theorem jc.go:zQ tbl N C (.of 267) [a0] h nx K0=IR.run jc.t20 C N (fnO jc.res K0) (zi jc.res K0) (jc.fr a0 .u .u .u .u) h nx:=yE (F:=jc) (by kernel_rfl) (λ_=>by kernel_rfl) (by kernel_rfl)
theorem jc.ret:zi jc.res K0 (jc.fr a b c d e) h nx=K0 b h nx:=by kernel_rfl
theorem ug.zx:IR.run ug.t0 C N O K (ug.fr a b c) h nx =
 K (ug.fr a (.bool false) c) h nx:=by kernel_rfl
theorem ug.zu:IR.run ug.t1 C N O K tm h nx=zS ug.nR C ⟨tm,[]⟩ h nx (λtm h nx=>K tm.v h nx):=jC ..
theorem ug.nS:zS (ug.fV r) C ⟨(ug.fr a b c),[]⟩ h nx Kt =
 uJ a λv1=>za .eql .int v1 (I 0) λv2=>sG v2 false (λk=>k a) λv3=>sG v2 false (λk=>uJ v3 k) λv4=>sG v2 false (λk=>za .gtr .int v4 (I 1) k) λv5=>sG v2 false (λk=>k v5) λv6=>zS r C ⟨(ug.fr a b c),v6::v5::v4::v3::v2::v2::v1::a::[]⟩ h nx Kt:=by kernel_rfl
theorem ug.fT:zS (ug.fZ []) C ⟨(ug.fr a b c),s0::s1::s2::s3::s4::sT⟩ h nx Kt =
 sG s0 true (λk=>k a) λv1=>sG s0 true (λk=>jO v1 (I 0) k) λv2=>sG s0 true (λk=>za .eql .int v2 (.int .u8 48) k) λv3=>sG s4 false (λk=>yP s0 v3 (.bool false) k) λv4=>yP s4 (.bool true) v4 λv5=>Kt ⟨(ug.fr a b v5),v4::v3::v2::v1::s0::s1::s2::s3::s4::sT⟩ h nx:=by kernel_rfl
theorem ug.v2:Arg.ev (.t (.of 2)) ⟨(ug.fr a b c),[]⟩=c:=by kernel_rfl
theorem ug.qj:IR.run ug.t6 C N O K (ug.fr a b c) h nx =
 C.fn 267 (.of 267) [a] h nx λv1 h2 n3=>K (ug.fr a v1 c) h2 n3:=by kernel_rfl
theorem ug.go:zQ tbl N C (.of 207) [a0] h nx K0=IR.run ug.t9 C N (fnO ug.res K0) (zi ug.res K0) (ug.fr a0 .u .u) h nx:=yE (F:=ug) (by kernel_rfl) (λ_=>by kernel_rfl) (by kernel_rfl)
theorem ug.ret:zi ug.res K0 (ug.fr a b c) h nx=K0 b h nx:=by kernel_rfl
theorem ze.zx:IR.run ze.t0 C N O K (ze.fr a b c d e f g j p s i l o) h nx =
 K (ze.fr a (I 0) c d e f g j p s i l o) h nx:=by kernel_rfl
theorem ze.zu:IR.run ze.t1 C N O K (ze.fr a b c d e f g j p s i l o) h nx =
 K (ze.fr a b a d e f g j p s i l o) h nx:=by kernel_rfl
theorem ze.je:IR.run ze.t2 C N O K (ze.fr a b c d e f g j p s i l o) h nx =
 uJ c λv1=>za .gtr .int v1 (I 0) λv2=>sG v2 true (λk=>k c) λv3=>sG v2 true (λk=>jO v3 (I 0) k) λv4=>sG v2 true (λk=>za .eql .int v4 (.int .u8 45) k) λv5=>yP v2 v5 (.bool false) λv6=>K (ze.fr a b c d e f g v6 p s i l o) h nx:=by kernel_rfl
theorem ze.bq:IR.run ze.t3 C N O K (ze.fr a b c d e f g j p s i l o) h nx =
 jS c (some (I 1)) none λv1=>K (ze.fr a b v1 d e f g j p s i l o) h nx:=by kernel_rfl
theorem ze.v7:Arg.ev (.t (.of 7)) ⟨(ze.fr a b c d e f g j p s i l o),[]⟩=j:=by kernel_rfl
theorem ze.qj:IR.run ze.t6 C N O K (ze.fr a b c d e f g j p s i l o) h nx =
 C.fn 206 (.of 206) [c] h nx λv1 h2 n3=>K (ze.fr a b c v1 e f g j p s i l o) h2 n3:=by kernel_rfl
theorem ze.nk:IR.run ze.t7 C N O K tm h nx=zS ze.r5_0 C ⟨tm,[]⟩ h nx (λtm h nx=>K tm.v h nx):=jC ..
theorem ze.zf2:zS (ze.zdy r) C ⟨(ze.fr a b c d e f g j p s i l o),[]⟩ h nx Kt =
 jS c none (some d) λv1=>C.fn 207 (.of 207) [v1] h nx λv2 h3 n4=>zS r C ⟨(ze.fr a b c d e f g j p s i l o),v2::v1::d::c::[]⟩ h3 n4 Kt:=by kernel_rfl
theorem ze.zf3:zS (ze.zdz r) C ⟨(ze.fr a b c d e f g j p s i l o),s0::sT⟩ h nx Kt =
 sNot s0 λv1=>sG v1 false (λk=>k a) λv2=>sG v1 false (λk=>jO v2 (I 0) k) λv3=>sG v1 false (λk=>za .eql .int v3 (.int .u8 45) k) λv4=>sG v1 false (λk=>k v4) λv5=>sG v5 true (λk=>k c) λv6=>sG v5 true (λk=>k d) λv7=>zS r C ⟨(ze.fr a b c d e f g j p s i l o),v7::v6::v5::v4::v3::v2::v1::v1::s0::sT⟩ h nx Kt:=by kernel_rfl
theorem ze.zlb:zS (ze.zsm []) C ⟨(ze.fr a b c d e f g j p s i l o),s0::s1::s2::s3::s4::s5::s6::sT⟩ h nx Kt =
 sG s2 true (λk=>jS s1 none (some s0) k) λv1=>sG s2 true (λk=>za .eql .str v1 (.str [48]) k) λv2=>sG s6 false (λk=>yP s2 v2 (.bool false) k) λv3=>yP s6 (.bool true) v3 λv4=>Kt ⟨(ze.fr a b c d e f g j v4 s i l o),v3::v2::v1::s0::s1::s2::s3::s4::s5::s6::sT⟩ h nx:=by kernel_rfl
theorem ze.v8:Arg.ev (.t (.of 8)) ⟨(ze.fr a b c d e f g j p s i l o),[]⟩=p:=by kernel_rfl
theorem ze.fB:IR.run ze.t12 C N O K tm h nx=zS ze.r7_0 C ⟨tm,[]⟩ h nx (λtm h nx=>K tm.v h nx):=jC ..
theorem ze.zum:zS (ze.zsn r) C ⟨(ze.fr a b c d e f g j p s i l o),[]⟩ h nx Kt =
 uJ c λv1=>za .lss .int d v1 λv2=>sG v2 true (λk=>k c) λv3=>sG v2 true (λk=>k d) λv4=>sG v2 true (λk=>za .add .int v4 (I 1) k) λv5=>zS r C ⟨(ze.fr a b c d e f g j p s i l o),v5::v4::v3::v2::v2::v1::c::d::[]⟩ h nx Kt:=by kernel_rfl
theorem ze.zlc:zS (ze.zso r) C ⟨(ze.fr a b c d e f g j p s i l o),s0::s1::s2::s3::sT⟩ h nx Kt =
 sG s3 true (λk=>jS s2 (some s0) none k) λv1=>sGW s3 true (λk=>C.fn 207 (.of 207) [v1] h nx k) h nx λv2 h3 n4=>zS r C ⟨(ze.fr a b c d e f g j p s i l o),v2::v1::s0::s1::s2::s3::sT⟩ h3 n4 Kt:=by kernel_rfl
theorem ze.zld:zS (ze.zsp r) C ⟨(ze.fr a b c d e f g j p s i l o),s0::s1::s2::s3::s4::s5::sT⟩ h nx Kt =
 sG s5 true (λk=>sNot s0 k) λv1=>sG s5 true (λk=>k v1) λv2=>sG v2 false (λk=>k c) λv3=>sG v2 false (λk=>k d) λv4=>sG v2 false (λk=>za .add .int v4 (I 1) k) λv5=>sG v2 false (λk=>jS v3 (some v5) none k) λv6=>sG v2 false (λk=>za .eql .str v6 (.str [48]) k) λv7=>sG s5 true (λk=>yP v2 (.bool true) v7 k) λv8=>zS r C ⟨(ze.fr a b c d e f g j p s i l o),v8::v7::v6::v5::v4::v3::v2::v1::s0::s1::s2::s3::s4::s5::sT⟩ h nx Kt:=by kernel_rfl
theorem ze.zle:zS (ze.zsq []) C ⟨(ze.fr a b c d e f g j p s i l o),s0::s1::s2::s3::s4::s5::s6::s7::s8::s9::s10::s11::s12::s13::sT⟩ h nx Kt =
 sG s13 true (λk=>k s0) λv1=>sG v1 false (λk=>k c) λv2=>sG v1 false (λk=>k d) λv3=>sG v1 false (λk=>za .add .int v3 (I 1) k) λv4=>sG v1 false (λk=>jS v2 (some v4) none k) λv5=>sG v1 false (λk=>za .eql .str v5 (.str [49]) k) λv6=>sG s13 true (λk=>yP v1 (.bool true) v6 k) λv7=>yP s13 v7 (.bool false) λv8=>Kt ⟨(ze.fr a b c d e f g j p v8 i l o),v7::v6::v5::v4::v3::v2::v1::s0::s1::s2::s3::s4::s5::s6::s7::s8::s9::s10::s11::s12::s13::sT⟩ h nx:=by kernel_rfl
theorem ze.v9:Arg.ev (.t (.of 9)) ⟨(ze.fr a b c d e f g j p s i l o),[]⟩=s:=by kernel_rfl
theorem ze.nV:IR.run ze.t17 C N O K tm h nx=zS ze.r9_0 C ⟨tm,[]⟩ h nx (λtm h nx=>K tm.v h nx):=jC ..
theorem ze.zun:zS (ze.zsr r) C ⟨(ze.fr a b c d e f g j p s i l o),[]⟩ h nx Kt =
 za .gtr .int d (I 600) λv1=>sG v1 false (λk=>k c) λv2=>sG v1 false (λk=>uJ v2 k) λv3=>sG v1 false (λk=>k d) λv4=>sG v1 false (λk=>za .sub .int v3 v4 k) λv5=>sG v1 false (λk=>za .sub .int v5 (I 1) k) λv6=>zS r C ⟨(ze.fr a b c d e f g j p s i l o),v6::v5::v4::v3::v2::v1::v1::d::[]⟩ h nx Kt:=by kernel_rfl
theorem ze.zuo:zS (ze.zss []) C ⟨(ze.fr a b c d e f g j p s i l o),s0::s1::s2::s3::s4::s5::sT⟩ h nx Kt =
 sG s5 false (λk=>za .gtr .int s0 (I 600) k) λv1=>yP s5 (.bool true) v1 λv2=>Kt ⟨(ze.fr a b c d e f g j p s v2 l o),v1::s0::s1::s2::s3::s4::s5::sT⟩ h nx:=by kernel_rfl
theorem ze.v10:Arg.ev (.t (.of 10)) ⟨(ze.fr a b c d e f g j p s i l o),[]⟩=i:=by kernel_rfl
theorem ze.sZ:IR.run ze.t22 C N O K (ze.fr a b c d e f g j p s i l o) h nx =
 uJ c λv1=>za .lss .int d v1 λv2=>K (ze.fr a b c d e f g j p s i v2 o) h nx:=by kernel_rfl
theorem ze.zdu:IR.run ze.t23 C N O K (ze.fr a b c d e f g j p s i l o) h nx =
 C.fn 129 (.of 129) [c] h nx λv1 h2 n3=>fJ 0 v1 λv4=>fJ 1 v1 λv5=>yR [(.bool false),.zb] h2 n3 λv6 h7 n8=>yR [(.bool false),.zb] h7 n8 λv9 hA nA=>zT 2 v6 v4 hA nA λvF hD nE=>zT 2 v9 v5 hD nE λvC hH nI=>K (ze.fr a b c d v6 v9 g j p s i l o) hH nI:=by kernel_rfl
theorem ze.aQ:IR.run ze.t24 C N O K (ze.fr a b c d e f g j p s i l o) h nx =
 zK 1 e λv1=>zI v1 h λv2=>zK 1 f λv3=>zI v3 h λv4=>C.fn 208 (.of 208) [v2,v4] h nx λv5 h6 n7=>K (ze.fr a b c d e f v5 j p s i l o) h6 n7:=by kernel_rfl
theorem ze.zlf:IR.run ze.t25 C N O K tm h nx=zS ze.zlg C ⟨tm,[]⟩ h nx (λtm h nx=>K tm.v h nx):=jC ..
theorem ze.zp9:zS (ze.zlh r) C ⟨(ze.fr a b c d e f g j p s i l o),[]⟩ h nx Kt =
 sLen g λv1=>za .neq .int v1 (I 1) λv2=>sG v2 false (λk=>k g) λv3=>sG v2 false (λk=>zN 1 v3 (I 0) k) λv4=>sG v2 false (λk=>zI v4 h k) λv5=>sG v2 false (λk=>za .neq .int v5 (I 1) k) λv6=>zS r C ⟨(ze.fr a b c d e f g j p s i l o),v6::v5::v4::v3::v2::v2::v1::g::[]⟩ h nx Kt:=by kernel_rfl
theorem ze.zqa:zS (ze.zli []) C ⟨(ze.fr a b c d e f g j p s i l o),s0::s1::s2::s3::s4::sT⟩ h nx Kt =
 yP s4 (.bool true) s0 λv1=>Kt ⟨(ze.fr a b c d e f g j p s i l v1),s0::s1::s2::s3::s4::sT⟩ h nx:=by kernel_rfl
theorem ze.v12:Arg.ev (.t (.of 12)) ⟨(ze.fr a b c d e f g j p s i l o),[]⟩=o:=by kernel_rfl
theorem ze.v11:Arg.ev (.t (.of 11)) ⟨(ze.fr a b c d e f g j p s i l o),[]⟩=l:=by kernel_rfl
theorem ze.af:IR.run ze.t34 C N O K (ze.fr a b c d e f g j p s i l o) h nx =
 K (ze.fr a (I 0) c d e f g j p s i l o) h nx:=by kernel_rfl
theorem ze.go:zQ tbl N C (.of 126) [a0] h nx K0=IR.run ze.t43 C N (fnO ze.res K0) (zi ze.res K0) (ze.fr a0 .u .u .u .u .u .u .u .u .u .u .u .u) h nx:=yE (F:=ze) (by kernel_rfl) (λ_=>by kernel_rfl) (by kernel_rfl)
theorem ze.ret:zi ze.res K0 (ze.fr a b c d e f g j p s i l o) h nx=K0 b h nx:=by kernel_rfl
theorem F37.zx:IR.run F37.t0 C N O K (F37.fr a b c d e f) h nx =
 K (F37.fr a (I 0) c d e f) h nx:=by kernel_rfl
theorem F37.zu:IR.run F37.t1 C N O K (F37.fr a b c d e f) h nx =
 K (F37.fr a b (I 0) d e f) h nx:=by kernel_rfl
theorem F37.je:IR.run F37.t2 C N O K (F37.fr a b c d e f) h nx =
 sLen a λv1=>za .lss .int c v1 λv2=>K (F37.fr a b c d v2 f) h nx:=by kernel_rfl
theorem F37.v4:Arg.ev (.t (.of 4)) ⟨(F37.fr a b c d e f),[]⟩=e:=by kernel_rfl
theorem F37.mg:IR.run F37.t5 C N O K (F37.fr a b c d e f) h nx =
 zN 1 a c λv1=>zI v1 h λv2=>C.fn 126 (.of 126) [v2] h nx λv3 h4 n5=>K (F37.fr a b c v3 e f) h4 n5:=by kernel_rfl
theorem F37.qj:IR.run F37.t6 C N O K (F37.fr a b c d e f) h nx =
 za .neq .int d (I 0) λv1=>K (F37.fr a b c d e v1) h nx:=by kernel_rfl
theorem F37.v5:Arg.ev (.t (.of 5)) ⟨(F37.fr a b c d e f),[]⟩=f:=by kernel_rfl
theorem F37.fK:IR.run F37.t13 C N O K (F37.fr a b c d e f) h nx =
 za .add .int c (I 1) λv1=>K (F37.fr a b v1 d e f) h nx:=by kernel_rfl
theorem F37.tq (Inv:Nat->AV->T Blk->Pa->Prop) {m:Nat} (hm:m<N) (hi:Inv m c h nx)
  (step:∀ (m:Nat) (z1 z2 z3 z4 z5:AV) (h:T Blk) (nx:Pa) (R:Ks Prop),Inv m z2 h nx->(∀ (m':Nat) (w1 w2 w3 w4 w5:AV) (h':T Blk) (nx':Pa),m'<m->Inv m' w2 h' nx'->R (F37.fr a w1 w2 w3 w4 w5) h' nx'=.ok True)->IR.run F37.t15 C N O R (F37.fr a z1 z2 z3 z4 z5) h nx=.ok True) :
  IR.run F37.t16 C N O K (F37.fr a b c d e f) h nx=.ok True:=by
 rw [F37.t16];refine yC (λm tm h nx=>∃ z1 z2 z3 z4 z5,tm=(F37.fr a z1 z2 z3 z4 z5)/\Inv m z2 h nx) ?_ hm ⟨_,_,_,_,_,rfl,hi⟩;rintro m tm h nx R ⟨z1,z2,z3,z4,z5,rfl,hi⟩ hR;exact step m z1 z2 z3 z4 z5 h nx R hi λm' w1 w2 w3 w4 w5 h' nx' hlt hi'=>hR m' _ h' nx' hlt ⟨_,_,_,_,_,rfl,hi'⟩
theorem F37.nQ:IR.run F37.t19 C N O K (F37.fr a b c d e f) h nx =
 K (F37.fr a (I 0) c d e f) h nx:=by kernel_rfl
theorem F37.go:zQ tbl N C (.of 37) [a0] h nx K0=IR.run F37.t22 C N (fnO F37.res K0) (zi F37.res K0) (F37.fr a0 .u .u .u .u .u) h nx:=yE (F:=F37) (by kernel_rfl) (λ_=>by kernel_rfl) (by kernel_rfl)
theorem F37.ret:zi F37.res K0 (F37.fr a b c d e f) h nx=K0 b h nx:=by kernel_rfl
theorem F49.ah (X3:IR) (C:Calls Prop) (N:Nat) (O:fC Prop) (K:Ks Prop) (a b c d e f g:AV) (h:T Blk) (nx:Pa):IR.run (F49.g2 X3) C N O K (F49.fr a b c d e f g) h nx =
 IR.run X3 C N (O.blk 0 K) K (F49.fr a b c d e f g) h nx:=by kernel_rfl
theorem F49.tab:T.get none (.of 49) tbl=some F49:=by kernel_rfl
theorem F49.go:zQ tbl N C (.of 49) [a0,a1] h nx K0 =
 sLen a0 λv1=>sLen a1 λv2=>za .neq .int v1 v2 λv3=>yN v3 (K0 (.bool false) h nx) (IR.run F49.b2 C N (fnO F49.res K0) (IR.run F49.b9 C N (fnO F49.res K0) (zi F49.res K0)) (F49.fr a0 a1 (.bool false) (I 0) v3 .u .u) h nx):=by
 rw [jH F49.tab];kernel_rfl
theorem F49.e2:IR.run F49.b4 C N ((fnO F49.res K0).blk 0 K) R (F49.fr a b c d e f g) h nx =
 sLen a λv1=>za .lss .int d v1 λv2=>yN v2 (zN 1 a d λv3=>zI v3 h λv4=>zN 1 b d λv5=>zI v5 h λv6=>za .neq .int v4 v6 λv7=>yN v7 (K0 (.bool false) h nx) (za .add .int d (I 1) λv8=>R (F49.fr a b c v8 e v2 v7) h nx)) (K (F49.fr a b c d e v2 g) h nx):=by kernel_rfl
theorem F49.L2 (Inv:Nat->AV->T Blk->Pa->Prop) {m:Nat} (hm:m<N) (hi:Inv m d h nx)
  (step:∀ (m:Nat) (z2 z3 z5 z6:AV) (h:T Blk) (nx:Pa) (R:Ks Prop),Inv m z3 h nx->(∀ (m':Nat) (w2 w3 w5 w6:AV) (h':T Blk) (nx':Pa),m'<m->Inv m' w3 h' nx'->R (F49.fr a b w2 w3 e w5 w6) h' nx'=.ok True) ->
   (sLen a λv1=>za .lss .int z3 v1 λv2=>yN v2 (zN 1 a z3 λv3=>zI v3 h λv4=>zN 1 b z3 λv5=>zI v5 h λv6=>za .neq .int v4 v6 λv7=>yN v7 (K0 (.bool false) h nx) (za .add .int z3 (I 1) λv8=>R (F49.fr a b z2 v8 e v2 v7) h nx)) (K (F49.fr a b z2 z3 e v2 z6) h nx))=.ok True) :
  IR.run F49.b2 C N (fnO F49.res K0) K (F49.fr a b c d e f g) h nx=.ok True:=by
 rw [F49.b2,F49.ah,F49.b3];refine yC (λm tm h nx=>∃ z2 z3 z5 z6,tm=(F49.fr a b z2 z3 e z5 z6)/\Inv m z3 h nx) ?_ hm ⟨_,_,_,_,rfl,hi⟩;rintro m tm h nx R ⟨z2,z3,z5,z6,rfl,hi⟩ hR;rw [F49.e2];exact step m z2 z3 z5 z6 h nx R hi λm' w2 w3 w5 w6 h' nx' hlt hi'=>hR m' _ h' nx' hlt ⟨_,_,_,_,rfl,hi'⟩
theorem F49.k9:IR.run F49.b9 C N (fnO F49.res K0) K (F49.fr a b c d e f g) h nx =
 K0 (.bool true) h nx:=by kernel_rfl
theorem tC.tab:T.get none (.of 176) tbl=some tC:=by kernel_rfl
theorem tC.go:zQ tbl N C (.of 176) [a0,a1] h nx K0 =
 zI a1 h λv1=>C.fn 177 (.of 177) [a0,v1] h nx λv2 h3 n4=>K0 v2 h3 n4:=by
 rw [jH tC.tab];kernel_rfl
theorem tF.tab:T.get none (.of 175) tbl=some tF:=by kernel_rfl
theorem tF.go:zQ tbl N C (.of 175) [a0,a1] h nx K0 =
 C.fn 245 (.of 245) [a0,a1] h nx λv1 h2 n3=>za .geq .int v1 (I 0) λv4=>K0 v4 h2 n3:=by
 rw [jH tF.tab];kernel_rfl
theorem qy.aS (X2:IR) (C:Calls Prop) (N:Nat) (O:fC Prop) (K:Ks Prop) (a b c d e f g j:AV) (h:T Blk) (nx:Pa):IR.run (qy.g1 X2) C N O K (qy.fr a b c d e f g j) h nx =
 IR.run X2 C N (O.blk 0 K) K (qy.fr a b c d e f g j) h nx:=by kernel_rfl
theorem qy.tab:T.get none (.of 245) tbl=some qy:=by kernel_rfl
theorem qy.go:zQ tbl N C (.of 245) [a0,a1] h nx K0 =
 sLen a0 λv1=>IR.run qy.b1 C N (fnO qy.res K0) (IR.run qy.b8 C N (fnO qy.res K0) (zi qy.res K0)) (qy.fr a0 a1 (I 0) .u v1 (I 0) .u .u) h nx:=by
 rw [jH qy.tab];kernel_rfl
theorem qy.e1:IR.run qy.b3 C N ((fnO qy.res K0).blk 0 K) R (qy.fr a b c d e f g j) h nx =
 za .lss .int f e λv1=>yN v1 (zN 1 a f λv2=>zI v2 h λv3=>aT C b [v3] h nx λv4 h5 n6=>yN v4 (K0 f h5 n6) (za .add .int f (I 1) λv7=>R (qy.fr a b c f e v7 v1 v4) h5 n6)) (K (qy.fr a b c d e f v1 j) h nx):=by kernel_rfl
theorem qy.L1 (Inv:Nat->AV->T Blk->Pa->Prop) {m:Nat} (hm:m<N) (hi:Inv m f h nx)
  (step:∀ (m:Nat) (z2 z3 z5 z6 z7:AV) (h:T Blk) (nx:Pa) (R:Ks Prop),Inv m z5 h nx->(∀ (m':Nat) (w2 w3 w5 w6 w7:AV) (h':T Blk) (nx':Pa),m'<m->Inv m' w5 h' nx'->R (qy.fr a b w2 w3 e w5 w6 w7) h' nx'=.ok True) ->
   (za .lss .int z5 e λv1=>yN v1 (zN 1 a z5 λv2=>zI v2 h λv3=>aT C b [v3] h nx λv4 h5 n6=>yN v4 (K0 z5 h5 n6) (za .add .int z5 (I 1) λv7=>R (qy.fr a b z2 z5 e v7 v1 v4) h5 n6)) (K (qy.fr a b z2 z3 e z5 v1 z7) h nx))=.ok True) :
  IR.run qy.b1 C N (fnO qy.res K0) K (qy.fr a b c d e f g j) h nx=.ok True:=by
 rw [qy.b1,qy.aS,qy.b2];refine yC (λm tm h nx=>∃ z2 z3 z5 z6 z7,tm=(qy.fr a b z2 z3 e z5 z6 z7)/\Inv m z5 h nx) ?_ hm ⟨_,_,_,_,_,rfl,hi⟩;rintro m tm h nx R ⟨z2,z3,z5,z6,z7,rfl,hi⟩ hR;rw [qy.e1];exact step m z2 z3 z5 z6 z7 h nx R hi λm' w2 w3 w5 w6 w7 h' nx' hlt hi'=>hR m' _ h' nx' hlt ⟨_,_,_,_,_,rfl,hi'⟩
theorem qy.k8:IR.run qy.b8 C N (fnO qy.res K0) K (qy.fr a b c d e f g j) h nx =
 K0 (I (-1)) h nx:=by kernel_rfl
theorem qz.ah (X3:IR) (C:Calls Prop) (N:Nat) (O:fC Prop) (K:Ks Prop) (a b c d e f g j p:AV) (h:T Blk) (nx:Pa):IR.run (qz.g2 X3) C N O K (qz.fr a b c d e f g j p) h nx =
 IR.run X3 C N (O.blk 0 K) K (qz.fr a b c d e f g j p) h nx:=by kernel_rfl
theorem qz.tab:T.get none (.of 177) tbl=some qz:=by kernel_rfl
theorem qz.go:zQ tbl N C (.of 177) [a0,a1] h nx K0 =
 sLen a0 λv1=>sLen a1 λv2=>za .neq .int v1 v2 λv3=>yN v3 (K0 (.bool false) h nx) (sLen a0 λv4=>IR.run qz.b2 C N (fnO qz.res K0) (IR.run qz.b9 C N (fnO qz.res K0) (zi qz.res K0)) (qz.fr a0 a1 (.bool false) .u v3 v4 (I 0) .u .u) h nx):=by
 rw [jH qz.tab];kernel_rfl
theorem qz.e2:IR.run qz.b4 C N ((fnO qz.res K0).blk 0 K) R (qz.fr a b c d e f g j p) h nx =
 za .lss .int g f λv1=>yN v1 (zN 1 a g λv2=>zI v2 h λv3=>zN 1 b g λv4=>zI v4 h λv5=>za .neq .int v3 v5 λv6=>yN v6 (K0 (.bool false) h nx) (za .add .int g (I 1) λv7=>R (qz.fr a b c g e f v7 v1 v6) h nx)) (K (qz.fr a b c d e f g v1 p) h nx):=by kernel_rfl
theorem qz.L2 (Inv:Nat->AV->T Blk->Pa->Prop) {m:Nat} (hm:m<N) (hi:Inv m g h nx)
  (step:∀ (m:Nat) (z2 z3 z6 z7 z8:AV) (h:T Blk) (nx:Pa) (R:Ks Prop),Inv m z6 h nx->(∀ (m':Nat) (w2 w3 w6 w7 w8:AV) (h':T Blk) (nx':Pa),m'<m->Inv m' w6 h' nx'->R (qz.fr a b w2 w3 e f w6 w7 w8) h' nx'=.ok True) ->
   (za .lss .int z6 f λv1=>yN v1 (zN 1 a z6 λv2=>zI v2 h λv3=>zN 1 b z6 λv4=>zI v4 h λv5=>za .neq .int v3 v5 λv6=>yN v6 (K0 (.bool false) h nx) (za .add .int z6 (I 1) λv7=>R (qz.fr a b z2 z6 e f v7 v1 v6) h nx)) (K (qz.fr a b z2 z3 e f z6 v1 z8) h nx))=.ok True) :
  IR.run qz.b2 C N (fnO qz.res K0) K (qz.fr a b c d e f g j p) h nx=.ok True:=by
 rw [qz.b2,qz.ah,qz.b3];refine yC (λm tm h nx=>∃ z2 z3 z6 z7 z8,tm=(qz.fr a b z2 z3 e f z6 z7 z8)/\Inv m z6 h nx) ?_ hm ⟨_,_,_,_,_,rfl,hi⟩;rintro m tm h nx R ⟨z2,z3,z6,z7,z8,rfl,hi⟩ hR;rw [qz.e2];exact step m z2 z3 z6 z7 z8 h nx R hi λm' w2 w3 w6 w7 w8 h' nx' hlt hi'=>hR m' _ h' nx' hlt ⟨_,_,_,_,_,rfl,hi'⟩
theorem qz.k9:IR.run qz.b9 C N (fnO qz.res K0) K (qz.fr a b c d e f g j p) h nx =
 K0 (.bool true) h nx:=by kernel_rfl
theorem F90.aS (X2:IR) (C:Calls Prop) (N:Nat) (O:fC Prop) (K:Ks Prop) (a b c d e f:AV) (h:T Blk) (nx:Pa):IR.run (F90.g1 X2) C N O K (F90.fr a b c d e f) h nx =
 IR.run X2 C N (O.blk 0 K) K (F90.fr a b c d e f) h nx:=by kernel_rfl
theorem F90.tab:T.get none (.of 90) tbl=some F90:=by kernel_rfl
theorem F90.go:zQ tbl N C (.of 90) [a0,a1] h nx K0 =
 IR.run F90.b1 C N (fnO F90.res K0) (IR.run F90.b8 C N (fnO F90.res K0) (zi F90.res K0)) (F90.fr a0 a1 (.bool false) (I 0) .u .u) h nx:=by
 rw [jH F90.tab];kernel_rfl
theorem F90.e1:IR.run F90.b3 C N ((fnO F90.res K0).blk 0 K) R (F90.fr a b c d e f) h nx =
 sLen a λv1=>za .lss .int d v1 λv2=>yN v2 (zN 1 a d λv3=>zI v3 h λv4=>C.fn 49 (.of 49) [v4,b] h nx λv5 h6 n7=>yN v5 (K0 (.bool true) h6 n7) (za .add .int d (I 1) λv8=>R (F90.fr a b c v8 v2 v5) h6 n7)) (K (F90.fr a b c d v2 f) h nx):=by kernel_rfl
theorem F90.L1 (Inv:Nat->AV->T Blk->Pa->Prop) {m:Nat} (hm:m<N) (hi:Inv m d h nx)
  (step:∀ (m:Nat) (z2 z3 z4 z5:AV) (h:T Blk) (nx:Pa) (R:Ks Prop),Inv m z3 h nx->(∀ (m':Nat) (w2 w3 w4 w5:AV) (h':T Blk) (nx':Pa),m'<m->Inv m' w3 h' nx'->R (F90.fr a b w2 w3 w4 w5) h' nx'=.ok True) ->
   (sLen a λv1=>za .lss .int z3 v1 λv2=>yN v2 (zN 1 a z3 λv3=>zI v3 h λv4=>C.fn 49 (.of 49) [v4,b] h nx λv5 h6 n7=>yN v5 (K0 (.bool true) h6 n7) (za .add .int z3 (I 1) λv8=>R (F90.fr a b z2 v8 v2 v5) h6 n7)) (K (F90.fr a b z2 z3 v2 z5) h nx))=.ok True) :
  IR.run F90.b1 C N (fnO F90.res K0) K (F90.fr a b c d e f) h nx=.ok True:=by
 rw [F90.b1,F90.aS,F90.b2];refine yC (λm tm h nx=>∃ z2 z3 z4 z5,tm=(F90.fr a b z2 z3 z4 z5)/\Inv m z3 h nx) ?_ hm ⟨_,_,_,_,rfl,hi⟩;rintro m tm h nx R ⟨z2,z3,z4,z5,rfl,hi⟩ hR;rw [F90.e1];exact step m z2 z3 z4 z5 h nx R hi λm' w2 w3 w4 w5 h' nx' hlt hi'=>hR m' _ h' nx' hlt ⟨_,_,_,_,rfl,hi'⟩
theorem F90.k8:IR.run F90.b8 C N (fnO F90.res K0) K (F90.fr a b c d e f) h nx =
 K0 (.bool false) h nx:=by kernel_rfl
theorem F86.aS (X2:IR) (C:Calls Prop) (N:Nat) (O:fC Prop) (K:Ks Prop) (a b c d e f g j:AV) (h:T Blk) (nx:Pa):IR.run (F86.g1 X2) C N O K (F86.fr a b c d e f g j) h nx =
 IR.run X2 C N (O.blk 0 K) K (F86.fr a b c d e f g j) h nx:=by kernel_rfl
theorem F86.tab:T.get none (.of 86) tbl=some F86:=by kernel_rfl
theorem F86.go:zQ tbl N C (.of 86) [a0] h nx K0 =
 sLen a0 λv1=>IR.run F86.b1 C N (fnO F86.res K0) (IR.run F86.b8 C N (fnO F86.res K0) (zi F86.res K0)) (F86.fr a0 (I 0) .u a0 v1 (I 0) .u .u) h nx:=by
 rw [jH F86.tab];kernel_rfl
theorem F86.e1:IR.run F86.b3 C N ((fnO F86.res K0).blk 0 K) R (F86.fr a b c d e f g j) h nx =
 za .lss .int f e λv1=>yN v1 (zN 1 d f λv2=>zI v2 h λv3=>za .neq .int v3 (I 0) λv4=>yN v4 (K0 v3 h nx) (za .add .int f (I 1) λv5=>R (F86.fr a b v3 d e v5 v1 v4) h nx)) (K (F86.fr a b c d e f v1 j) h nx):=by kernel_rfl
theorem F86.L1 (Inv:Nat->AV->T Blk->Pa->Prop) {m:Nat} (hm:m<N) (hi:Inv m f h nx)
  (step:∀ (m:Nat) (z1 z2 z5 z6 z7:AV) (h:T Blk) (nx:Pa) (R:Ks Prop),Inv m z5 h nx->(∀ (m':Nat) (w1 w2 w5 w6 w7:AV) (h':T Blk) (nx':Pa),m'<m->Inv m' w5 h' nx'->R (F86.fr a w1 w2 d e w5 w6 w7) h' nx'=.ok True) ->
   (za .lss .int z5 e λv1=>yN v1 (zN 1 d z5 λv2=>zI v2 h λv3=>za .neq .int v3 (I 0) λv4=>yN v4 (K0 v3 h nx) (za .add .int z5 (I 1) λv5=>R (F86.fr a z1 v3 d e v5 v1 v4) h nx)) (K (F86.fr a z1 z2 d e z5 v1 z7) h nx))=.ok True) :
  IR.run F86.b1 C N (fnO F86.res K0) K (F86.fr a b c d e f g j) h nx=.ok True:=by
 rw [F86.b1,F86.aS,F86.b2];refine yC (λm tm h nx=>∃ z1 z2 z5 z6 z7,tm=(F86.fr a z1 z2 d e z5 z6 z7)/\Inv m z5 h nx) ?_ hm ⟨_,_,_,_,_,rfl,hi⟩;rintro m tm h nx R ⟨z1,z2,z5,z6,z7,rfl,hi⟩ hR;rw [F86.e1];exact step m z1 z2 z5 z6 z7 h nx R hi λm' w1 w2 w5 w6 w7 h' nx' hlt hi'=>hR m' _ h' nx' hlt ⟨_,_,_,_,_,rfl,hi'⟩
theorem F86.k8:IR.run F86.b8 C N (fnO F86.res K0) K (F86.fr a b c d e f g j) h nx =
 K0 (I 0) h nx:=by kernel_rfl
theorem F88.tab:T.get none (.of 88) tbl=some F88:=by kernel_rfl
theorem F88.go:zQ tbl N C (.of 88) [a0,a1] h nx K0 =
 yN a0 (K0 a1 h nx) (K0 (I 0) h nx):=by
 rw [jH F88.tab];kernel_rfl
theorem F16.ah (X3:IR) (C:Calls Prop) (N:Nat) (O:fC Prop) (K:Ks Prop) (a b c d e f g j p:AV) (h:T Blk) (nx:Pa):IR.run (F16.g2 X3) C N O K (F16.fr a b c d e f g j p) h nx =
 IR.run X3 C N (O.blk 0 K) K (F16.fr a b c d e f g j p) h nx:=by kernel_rfl
theorem F16.tab:T.get none (.of 16) tbl=some F16:=by kernel_rfl
theorem F16.go:zQ tbl N C (.of 16) [a0,a1,a2] h nx K0 =
 dh a0 h nx λv1 h2 n3=>zK 1 v1 λv4=>zI v4 h2 λv5=>sLen v5 λv6=>za .gtr .int v6 a2 λv7=>yN v7 (K0 (.bool false) h2 n3) (IR.run F16.b2 C N (fnO F16.res K0) (IR.run F16.b9 C N (fnO F16.res K0) (zi F16.res K0)) (F16.fr a0 a1 a2 v1 (.bool false) (I 0) v7 .u .u) h2 n3):=by
 rw [jH F16.tab];kernel_rfl
theorem F16.e2:IR.run F16.b4 C N ((fnO F16.res K0).blk 0 K) R (F16.fr a b c d e f g j p) h nx =
 zK 1 d λv1=>zI v1 h λv2=>sLen v2 λv3=>za .lss .int f v3 λv4=>yN v4 (zK 1 d λv5=>zI v5 h λv6=>zN 1 v6 f λv7=>zI v7 h λv8=>sLen v8 λv9=>za .gtr .int v9 b λvH=>yN vH (K0 (.bool false) h nx) (za .add .int f (I 1) λvG=>R (F16.fr a b c d e vG g v4 vH) h nx)) (K (F16.fr a b c d e f g v4 p) h nx):=by kernel_rfl
theorem F16.L2 (Inv:Nat->AV->T Blk->Pa->Prop) {m:Nat} (hm:m<N) (hi:Inv m f h nx)
  (step:∀ (m:Nat) (z4 z5 z7 z8:AV) (h:T Blk) (nx:Pa) (R:Ks Prop),Inv m z5 h nx->(∀ (m':Nat) (w4 w5 w7 w8:AV) (h':T Blk) (nx':Pa),m'<m->Inv m' w5 h' nx'->R (F16.fr a b c d w4 w5 g w7 w8) h' nx'=.ok True) ->
   (zK 1 d λv1=>zI v1 h λv2=>sLen v2 λv3=>za .lss .int z5 v3 λv4=>yN v4 (zK 1 d λv5=>zI v5 h λv6=>zN 1 v6 z5 λv7=>zI v7 h λv8=>sLen v8 λv9=>za .gtr .int v9 b λvH=>yN vH (K0 (.bool false) h nx) (za .add .int z5 (I 1) λvG=>R (F16.fr a b c d z4 vG g v4 vH) h nx)) (K (F16.fr a b c d z4 z5 g v4 z8) h nx))=.ok True) :
  IR.run F16.b2 C N (fnO F16.res K0) K (F16.fr a b c d e f g j p) h nx=.ok True:=by
 rw [F16.b2,F16.ah,F16.b3];refine yC (λm tm h nx=>∃ z4 z5 z7 z8,tm=(F16.fr a b c d z4 z5 g z7 z8)/\Inv m z5 h nx) ?_ hm ⟨_,_,_,_,rfl,hi⟩;rintro m tm h nx R ⟨z4,z5,z7,z8,rfl,hi⟩ hR;rw [F16.e2];exact step m z4 z5 z7 z8 h nx R hi λm' w4 w5 w7 w8 h' nx' hlt hi'=>hR m' _ h' nx' hlt ⟨_,_,_,_,rfl,hi'⟩
theorem F16.k9:IR.run F16.b9 C N (fnO F16.res K0) K (F16.fr a b c d e f g j p) h nx =
 K0 (.bool true) h nx:=by kernel_rfl
theorem F19.zup (X11:IR) (C:Calls Prop) (N:Nat) (O:fC Prop) (K:Ks Prop) (a b c d e f g j p s i l o q:AV) (h:T Blk) (nx:Pa):IR.run (F19.g10 X11) C N O K (F19.fr a b c d e f g j p s i l o q) h nx =
 IR.run X11 C N (O.blk 2 K) K (F19.fr a b c d e f g j p s i l o q) h nx:=by kernel_rfl
theorem F19.zww (X4:IR) (C:Calls Prop) (N:Nat) (O:fC Prop) (K:Ks Prop) (a b c d e f g j p s i l o q:AV) (h:T Blk) (nx:Pa):IR.run (F19.g3 X4) C N O K (F19.fr a b c d e f g j p s i l o q) h nx =
 IR.run X4 C N (O.blk 0 K) K (F19.fr a b c d e f g j p s i l o q) h nx:=by kernel_rfl
theorem F19.tab:T.get none (.of 19) tbl=some F19:=by kernel_rfl
theorem F19.go:zQ tbl N C (.of 19) [a0] h nx K0 =
 dh a0 h nx λv1 h2 n3=>zK 0 v1 λv4=>zI v4 h2 λv5=>za .lss .int v5 (I 1) λv6=>sG v6 false (λk=>zK 0 v1 k) λv7=>sG v6 false (λk=>zI v7 h2 k) λv8=>sG v6 false (λk=>za .gtr .int v8 (I 256) k) λv9=>yP v6 (.bool true) v9 λvH=>yN vH (K0 (I 3) h2 n3) (zK 1 v1 λvG=>zI vG h2 λvF=>sLen vF λvE=>za .gtr .int vE (I 128) λvD=>yN vD (K0 (I 5) h2 n3) (IR.run F19.b3 C N (fnO F19.res K0) (IR.run F19.b20 C N (fnO F19.res K0) (zi F19.res K0)) (F19.fr a0 v1 (I 0) (I 0) .u .u vH vD .u .u .u .u .u .u) h2 n3)):=by
 rw [jH F19.tab];kernel_rfl
theorem F19.e3:IR.run F19.b5 C N ((fnO F19.res K0).blk 0 K) R (F19.fr a b c d e f g j p s i l o q) h nx =
 zK 1 b λv1=>zI v1 h λv2=>sLen v2 λv3=>za .lss .int d v3 λv4=>yN v4 (zK 1 b λv5=>zI v5 h λv6=>zN 1 v6 d λv7=>zI v7 h λv8=>sLen v8 λv9=>za .eql .int v9 (I 0) λvH=>yN vH (K0 (I 12) h nx) (IR.run F19.b10 C N (((fnO F19.res K0).blk 0 K).blk 1 (IR.run F19.b19 C N ((fnO F19.res K0).blk 0 K) R)) (IR.run F19.b18 C N (((fnO F19.res K0).blk 0 K).blk 1 (IR.run F19.b19 C N ((fnO F19.res K0).blk 0 K) R)) (IR.run F19.b19 C N ((fnO F19.res K0).blk 0 K) R)) (F19.fr a b c d v8 (I 0) g j v4 vH i l o q) h nx)) (K (F19.fr a b c d e f g j v4 s i l o q) h nx):=by kernel_rfl
theorem F19.L3 (Inv:Nat->AV->T Blk->Pa->Prop) {m:Nat} (hm:m<N) (hi:Inv m d h nx)
  (step:∀ (m:Nat) (z2 z3 z4 z5 z8 z9 zB zC zD zE:AV) (h:T Blk) (nx:Pa) (R:Ks Prop),Inv m z3 h nx->(∀ (m':Nat) (w2 w3 w4 w5 w8 w9 wB wC wD wE:AV) (h':T Blk) (nx':Pa),m'<m->Inv m' w3 h' nx'->R (F19.fr a b w2 w3 w4 w5 g j w8 w9 wB wC wD wE) h' nx'=.ok True) ->
   (zK 1 b λv1=>zI v1 h λv2=>sLen v2 λv3=>za .lss .int z3 v3 λv4=>yN v4 (zK 1 b λv5=>zI v5 h λv6=>zN 1 v6 z3 λv7=>zI v7 h λv8=>sLen v8 λv9=>za .eql .int v9 (I 0) λvH=>yN vH (K0 (I 12) h nx) (IR.run F19.b10 C N (((fnO F19.res K0).blk 0 K).blk 1 (IR.run F19.b19 C N ((fnO F19.res K0).blk 0 K) R)) (IR.run F19.b18 C N (((fnO F19.res K0).blk 0 K).blk 1 (IR.run F19.b19 C N ((fnO F19.res K0).blk 0 K) R)) (IR.run F19.b19 C N ((fnO F19.res K0).blk 0 K) R)) (F19.fr a b z2 z3 v8 (I 0) g j v4 vH zB zC zD zE) h nx)) (K (F19.fr a b z2 z3 z4 z5 g j v4 z9 zB zC zD zE) h nx))=.ok True) :
  IR.run F19.b3 C N (fnO F19.res K0) K (F19.fr a b c d e f g j p s i l o q) h nx=.ok True:=by
 rw [F19.b3,F19.zww,F19.b4];refine yC (λm tm h nx=>∃ z2 z3 z4 z5 z8 z9 zB zC zD zE,tm=(F19.fr a b z2 z3 z4 z5 g j z8 z9 zB zC zD zE)/\Inv m z3 h nx) ?_ hm ⟨_,_,_,_,_,_,_,_,_,_,rfl,hi⟩;rintro m tm h nx R ⟨z2,z3,z4,z5,z8,z9,zB,zC,zD,zE,rfl,hi⟩ hR;rw [F19.e3];exact step m z2 z3 z4 z5 z8 z9 zB zC zD zE h nx R hi λm' w2 w3 w4 w5 w8 w9 wB wC wD wE h' nx' hlt hi'=>hR m' _ h' nx' hlt ⟨_,_,_,_,_,_,_,_,_,_,rfl,hi'⟩
theorem F19.k20:IR.run F19.b20 C N (fnO F19.res K0) K (F19.fr a b c d e f g j p s i l o q) h nx =
 K0 (I 0) h nx:=by kernel_rfl
theorem F19.k19 {E0:Ks Prop}:IR.run F19.b19 C N ((fnO F19.res K0).blk 0 E0) K (F19.fr a b c d e f g j p s i l o q) h nx =
 za .add .int d (I 1) λv1=>K (F19.fr a b c v1 e f g j p s i l o q) h nx:=by kernel_rfl
theorem F19.e10 {E0 E1:Ks Prop}:IR.run F19.b12 C N ((((fnO F19.res K0).blk 0 E0).blk 1 E1).blk 2 K) R (F19.fr a b c d e f g j p s i l o q) h nx =
 sLen e λv1=>za .lss .int f v1 λv2=>yN v2 (zN 1 e f λv3=>zI v3 h λv4=>za .lss .int v4 (I 0) λv5=>sG v5 false (λk=>k e) λv6=>sG v5 false (λk=>k f) λv7=>sG v5 false (λk=>zN 1 v6 v7 k) λv8=>sG v5 false (λk=>zI v8 h k) λv9=>sG v5 false (λk=>zK 0 b k) λvH=>sG v5 false (λk=>zI vH h k) λvG=>sG v5 false (λk=>za .geq .int v9 vG k) λvF=>yP v5 (.bool true) vF λvE=>yN vE (K0 (I 10) h nx) ((IR.run F19.b16 C N (((((fnO F19.res K0).blk 0 E0).blk 1 E1).blk 2 K).blk 3 (IR.run F19.b17 C N ((((fnO F19.res K0).blk 0 E0).blk 1 E1).blk 2 K) R)) (IR.run F19.b17 C N ((((fnO F19.res K0).blk 0 E0).blk 1 E1).blk 2 K) R)) (F19.fr a b c d e f g j p s v2 vE o q) h nx)) (K (F19.fr a b c d e f g j p s v2 l o q) h nx):=by kernel_rfl
theorem F19.L10 {E0 E1:Ks Prop} (Inv:Nat->AV->T Blk->Pa->Prop) {m:Nat} (hm:m<N) (hi:Inv m f h nx)
  (step:∀ (m:Nat) (z2 z5 zB zC zD:AV) (h:T Blk) (nx:Pa) (R:Ks Prop),Inv m z5 h nx->(∀ (m':Nat) (w2 w5 wB wC wD:AV) (h':T Blk) (nx':Pa),m'<m->Inv m' w5 h' nx'->R (F19.fr a b w2 d e w5 g j p s wB wC wD q) h' nx'=.ok True) ->
   (sLen e λv1=>za .lss .int z5 v1 λv2=>yN v2 (zN 1 e z5 λv3=>zI v3 h λv4=>za .lss .int v4 (I 0) λv5=>sG v5 false (λk=>k e) λv6=>sG v5 false (λk=>k z5) λv7=>sG v5 false (λk=>zN 1 v6 v7 k) λv8=>sG v5 false (λk=>zI v8 h k) λv9=>sG v5 false (λk=>zK 0 b k) λvH=>sG v5 false (λk=>zI vH h k) λvG=>sG v5 false (λk=>za .geq .int v9 vG k) λvF=>yP v5 (.bool true) vF λvE=>yN vE (K0 (I 10) h nx) ((IR.run F19.b16 C N (((((fnO F19.res K0).blk 0 E0).blk 1 E1).blk 2 K).blk 3 (IR.run F19.b17 C N ((((fnO F19.res K0).blk 0 E0).blk 1 E1).blk 2 K) R)) (IR.run F19.b17 C N ((((fnO F19.res K0).blk 0 E0).blk 1 E1).blk 2 K) R)) (F19.fr a b z2 d e z5 g j p s v2 vE zD q) h nx)) (K (F19.fr a b z2 d e z5 g j p s v2 zC zD q) h nx))=.ok True) :
  IR.run F19.b10 C N (((fnO F19.res K0).blk 0 E0).blk 1 E1) K (F19.fr a b c d e f g j p s i l o q) h nx=.ok True:=by
 rw [F19.b10,F19.zup,F19.b11];refine yC (λm tm h nx=>∃ z2 z5 zB zC zD,tm=(F19.fr a b z2 d e z5 g j p s zB zC zD q)/\Inv m z5 h nx) ?_ hm ⟨_,_,_,_,_,rfl,hi⟩;rintro m tm h nx R ⟨z2,z5,zB,zC,zD,rfl,hi⟩ hR;rw [F19.e10];exact step m z2 z5 zB zC zD h nx R hi λm' w2 w5 wB wC wD h' nx' hlt hi'=>hR m' _ h' nx' hlt ⟨_,_,_,_,_,rfl,hi'⟩
theorem F19.k18 {E0 E1:Ks Prop}:IR.run F19.b18 C N (((fnO F19.res K0).blk 0 E0).blk 1 E1) K (F19.fr a b c d e f g j p s i l o q) h nx =
 zK 1 b λv1=>zI v1 h λv2=>xS 1 v2 none (some d) none λv3=>C.fn 90 (.of 90) [v3,e] h nx λv4 h5 n6=>yN v4 (K0 (I 9) h5 n6) (K (F19.fr a b c d e f g j p s i l o v4) h5 n6):=by kernel_rfl
theorem F19.k17 {E0 E1 E2:Ks Prop}:IR.run F19.b17 C N ((((fnO F19.res K0).blk 0 E0).blk 1 E1).blk 2 E2) K (F19.fr a b c d e f g j p s i l o q) h nx =
 za .add .int f (I 1) λv1=>K (F19.fr a b c d e v1 g j p s i l o q) h nx:=by kernel_rfl
theorem F19.k16 {E0 E1 E2 E3:Ks Prop}:IR.run F19.b16 C N (((((fnO F19.res K0).blk 0 E0).blk 1 E1).blk 2 E2).blk 3 E3) K (F19.fr a b c d e f g j p s i l o q) h nx =
 za .gtr .int f (I 0) λv1=>sG v1 true (λk=>k e) λv2=>sG v1 true (λk=>k f) λv3=>sG v1 true (λk=>zN 1 v2 v3 k) λv4=>sG v1 true (λk=>zI v4 h k) λv5=>sG v1 true (λk=>k e) λv6=>sG v1 true (λk=>k f) λv7=>sG v1 true (λk=>za .sub .int v7 (I 1) k) λv8=>sG v1 true (λk=>zN 1 v6 v8 k) λv9=>sG v1 true (λk=>zI v9 h k) λvH=>sG v1 true (λk=>za .leq .int v5 vH k) λvG=>yP v1 vG (.bool false) λvF=>yN vF (K0 (I 11) h nx) (K (F19.fr a b c d e f g j p s i l vF q) h nx):=by kernel_rfl
theorem F87.tab:T.get none (.of 87) tbl=some F87:=by kernel_rfl
theorem F87.go:zQ tbl N C (.of 87) [a0,a1,a2] h nx K0 =
 dh a0 h nx λv1 h2 n3=>dh a1 h2 n3 λv4 h5 n6=>C.fn 173 (.of 173) [a2,(.fn 174 (.of 174) [v1,v4])] h5 n6 λv7 h8 n9=>C.fn 88 (.of 88) [v7,(I 3)] h8 n9 λvH hC nD=>K0 vH hC nD:=by
 rw [jH F87.tab];kernel_rfl
theorem tH.tab:T.get none (.of 174) tbl=some tH:=by kernel_rfl
theorem tH.go:zQ tbl N C (.of 174) [a0,a1,a2] h nx K0 =
 zI a1 h λv1=>za .lss .int a0 v1 λv2=>sG v2 false (λk=>k a0) λv3=>sG v2 false (λk=>zI a2 h k) λv4=>sG v2 false (λk=>za .gtr .int v3 v4 k) λv5=>yP v2 (.bool true) v5 λv6=>K0 v6 h nx:=by
 rw [jH tH.tab];kernel_rfl
theorem tJ.tab:T.get none (.of 173) tbl=some tJ:=by kernel_rfl
theorem tJ.go:zQ tbl N C (.of 173) [a0,a1] h nx K0 =
 C.fn 184 (.of 184) [a0,a1] h nx λv1 h2 n3=>za .geq .int v1 (I 0) λv4=>K0 v4 h2 n3:=by
 rw [jH tJ.tab];kernel_rfl
theorem wm.aS (X2:IR) (C:Calls Prop) (N:Nat) (O:fC Prop) (K:Ks Prop) (a b c d e f g j:AV) (h:T Blk) (nx:Pa):IR.run (wm.g1 X2) C N O K (wm.fr a b c d e f g j) h nx =
 IR.run X2 C N (O.blk 0 K) K (wm.fr a b c d e f g j) h nx:=by kernel_rfl
theorem wm.tab:T.get none (.of 184) tbl=some wm:=by kernel_rfl
theorem wm.go:zQ tbl N C (.of 184) [a0,a1] h nx K0 =
 sLen a0 λv1=>IR.run wm.b1 C N (fnO wm.res K0) (IR.run wm.b8 C N (fnO wm.res K0) (zi wm.res K0)) (wm.fr a0 a1 (I 0) .u v1 (I 0) .u .u) h nx:=by
 rw [jH wm.tab];kernel_rfl
theorem wm.e1:IR.run wm.b3 C N ((fnO wm.res K0).blk 0 K) R (wm.fr a b c d e f g j) h nx =
 za .lss .int f e λv1=>yN v1 (zN 1 a f λv2=>zI v2 h λv3=>aT C b [v3] h nx λv4 h5 n6=>yN v4 (K0 f h5 n6) (za .add .int f (I 1) λv7=>R (wm.fr a b c f e v7 v1 v4) h5 n6)) (K (wm.fr a b c d e f v1 j) h nx):=by kernel_rfl
theorem wm.L1 (Inv:Nat->AV->T Blk->Pa->Prop) {m:Nat} (hm:m<N) (hi:Inv m f h nx)
  (step:∀ (m:Nat) (z2 z3 z5 z6 z7:AV) (h:T Blk) (nx:Pa) (R:Ks Prop),Inv m z5 h nx->(∀ (m':Nat) (w2 w3 w5 w6 w7:AV) (h':T Blk) (nx':Pa),m'<m->Inv m' w5 h' nx'->R (wm.fr a b w2 w3 e w5 w6 w7) h' nx'=.ok True) ->
   (za .lss .int z5 e λv1=>yN v1 (zN 1 a z5 λv2=>zI v2 h λv3=>aT C b [v3] h nx λv4 h5 n6=>yN v4 (K0 z5 h5 n6) (za .add .int z5 (I 1) λv7=>R (wm.fr a b z2 z5 e v7 v1 v4) h5 n6)) (K (wm.fr a b z2 z3 e z5 v1 z7) h nx))=.ok True) :
  IR.run wm.b1 C N (fnO wm.res K0) K (wm.fr a b c d e f g j) h nx=.ok True:=by
 rw [wm.b1,wm.aS,wm.b2];refine yC (λm tm h nx=>∃ z2 z3 z5 z6 z7,tm=(wm.fr a b z2 z3 e z5 z6 z7)/\Inv m z5 h nx) ?_ hm ⟨_,_,_,_,_,rfl,hi⟩;rintro m tm h nx R ⟨z2,z3,z5,z6,z7,rfl,hi⟩ hR;rw [wm.e1];exact step m z2 z3 z5 z6 z7 h nx R hi λm' w2 w3 w5 w6 w7 h' nx' hlt hi'=>hR m' _ h' nx' hlt ⟨_,_,_,_,_,rfl,hi'⟩
theorem wm.k8:IR.run wm.b8 C N (fnO wm.res K0) K (wm.fr a b c d e f g j) h nx =
 K0 (I (-1)) h nx:=by kernel_rfl
theorem F18.ah (X3:IR) (C:Calls Prop) (N:Nat) (O:fC Prop) (K:Ks Prop) (a b c d e f g j p s i:AV) (h:T Blk) (nx:Pa):IR.run (F18.g2 X3) C N O K (F18.fr a b c d e f g j p s i) h nx =
 IR.run X3 C N (O.blk 0 K) K (F18.fr a b c d e f g j p s i) h nx:=by kernel_rfl
theorem F18.tab:T.get none (.of 18) tbl=some F18:=by kernel_rfl
theorem F18.go:zQ tbl N C (.of 18) [a0] h nx K0 =
 dh a0 h nx λv1 h2 n3=>zK 0 v1 λv4=>zI v4 h2 λv5=>zK 1 v1 λv6=>zI v6 h2 λv7=>sLen v7 λv8=>za .gtr .int v8 (I 128) λv9=>jM 1 1 [(I 0)] [(0,1,v5)] h2 n3 λvH hC nD=>(za .gtr .int v8 (I 128) λvY=>zR vY v9 ((sLen v7 λvZ=>zR vZ v8 ((zI v6 hC λv34=>zR v34 v7 ((zK 1 v1 λv33=>zR v33 v6 (C.fn 87 (.of 87) [(I 1),(I 256),vH] hC nD λvE hG nH=>(za .gtr .int v8 (I 128) λv32=>zR v32 v9 ((sLen v7 λv31=>zR v31 v8 ((zI v6 hG λv30=>zR v30 v7 ((zK 1 v1 λv29=>zR v29 v6 (C.fn 88 (.of 88) [v9,(I 5)] hG nH λvB hJ nK=>jM 1 2 [(I 0)] [(0,1,vE),(1,1,vB)] hJ nK λv19 hK nL=>C.fn 86 (.of 86) [v19] hK nL λvK hL nM=>za .neq .int vK (I 0) λv25=>yN v25 (K0 vK hL nM) (zK 1 v1 λv26=>zI v26 hL λv27=>sLen v27 λv28=>IR.run F18.b2 C N (fnO F18.res K0) (IR.run F18.b9 C N (fnO F18.res K0) (zi F18.res K0)) (F18.fr a0 v1 (I 0) vK .u .u v25 v28 (I 0) .u .u) hL nM))))))))))))))))):=by
 rw [jH F18.tab];kernel_rfl
theorem F18.e2:IR.run F18.b4 C N ((fnO F18.res K0).blk 0 K) R (F18.fr a b c d e f g j p s i) h nx =
 za .lss .int p j λv1=>yN v1 (zG 2 b h λv2=>C.fn 89 (.of 89) [v2,p] h nx λv3 h4 n5=>za .neq .int v3 (I 0) λv6=>yN v6 (K0 v3 h4 n5) (za .add .int p (I 1) λv7=>R (F18.fr a b c d p v3 g j v7 v1 v6) h4 n5)) (K (F18.fr a b c d e f g j p v1 i) h nx):=by kernel_rfl
theorem F18.L2 (Inv:Nat->AV->T Blk->Pa->Prop) {m:Nat} (hm:m<N) (hi:Inv m p h nx)
  (step:∀ (m:Nat) (z2 z4 z5 z8 z9 zB:AV) (h:T Blk) (nx:Pa) (R:Ks Prop),Inv m z8 h nx->(∀ (m':Nat) (w2 w4 w5 w8 w9 wB:AV) (h':T Blk) (nx':Pa),m'<m->Inv m' w8 h' nx'->R (F18.fr a b w2 d w4 w5 g j w8 w9 wB) h' nx'=.ok True) ->
   (za .lss .int z8 j λv1=>yN v1 (zG 2 b h λv2=>C.fn 89 (.of 89) [v2,z8] h nx λv3 h4 n5=>za .neq .int v3 (I 0) λv6=>yN v6 (K0 v3 h4 n5) (za .add .int z8 (I 1) λv7=>R (F18.fr a b z2 d z8 v3 g j v7 v1 v6) h4 n5)) (K (F18.fr a b z2 d z4 z5 g j z8 v1 zB) h nx))=.ok True) :
  IR.run F18.b2 C N (fnO F18.res K0) K (F18.fr a b c d e f g j p s i) h nx=.ok True:=by
 rw [F18.b2,F18.ah,F18.b3];refine yC (λm tm h nx=>∃ z2 z4 z5 z8 z9 zB,tm=(F18.fr a b z2 d z4 z5 g j z8 z9 zB)/\Inv m z8 h nx) ?_ hm ⟨_,_,_,_,_,_,rfl,hi⟩;rintro m tm h nx R ⟨z2,z4,z5,z8,z9,zB,rfl,hi⟩ hR;rw [F18.e2];exact step m z2 z4 z5 z8 z9 zB h nx R hi λm' w2 w4 w5 w8 w9 wB h' nx' hlt hi'=>hR m' _ h' nx' hlt ⟨_,_,_,_,_,_,rfl,hi'⟩
theorem F18.k9:IR.run F18.b9 C N (fnO F18.res K0) K (F18.fr a b c d e f g j p s i) h nx =
 K0 (I 0) h nx:=by kernel_rfl
end
end Go.Ev
