import Derived.Test.YtfgpjkchdelphaaGreatDoorIrT
import Derived.Test.YtfgpjkchdelphaaGreatDoorEvD
import Derived.KernelRfl
set_option linter.unusedSimpArgs false
set_option linter.unusedVariables false
namespace Go.Ev
open Go Go.Proofs
set_option maxRecDepth 100000
section
variable {N:Nat} {C:Calls Prop} {K0:Kw Prop} {K R:Ks Prop} {h:T Blk} {nx:Pa} {a b c d e f g j q s i l a0 a1 s0 s1 s2 s3 s4 s5 s6 s7 s8 s9 s10 s11 s12 s13 s14 s15 s16 s17 s18 s19 s20 s21 s22 s23 s24 s25 s26 s27 s28 s29 s30 s31 s32 s33 s34 s35 s36 s37 s38 s39 s40 s41 s42 s43 s44 s45 s46 s47 s48 s49 s50 s51 s52 s53 s54 s55 s56 s57 s58 s59 p o u v w y a2 z A B D E G H L M P Q U V W Z x33 x34 x35:AV} {O:fD Prop} {tm:T AV} {Kt:KTm} {r:List RO} {sT:List AV}
theorem jf.zw:IR.run jf.t0 C N O K (jf.fr a b c d e f g j q s i l) h nx =
 K (jf.fr a b (.int .u64 0) (.int .u64 0) e f g j q s i l) h nx:=by kernel_rfl
theorem jf.zu:IR.run jf.t1 C N O K (jf.fr a b c d e f g j q s i l) h nx =
 zb .and .int a (.int .u64 4294967295) λv1=>K (jf.fr a b c d v1 f g j q s i l) h nx:=by kernel_rfl
theorem jf.jd:IR.run jf.t2 C N O K (jf.fr a b c d e f g j q s i l) h nx =
 zb .shr .int a (.int .u64 32) λv1=>K (jf.fr a b c d e v1 g j q s i l) h nx:=by kernel_rfl
theorem jf.pu:IR.run jf.t3 C N O K (jf.fr a b c d e f g j q s i l) h nx =
 zb .and .int b (.int .u64 4294967295) λv1=>K (jf.fr a b c d e f v1 j q s i l) h nx:=by kernel_rfl
theorem jf.fG:IR.run jf.t4 C N O K (jf.fr a b c d e f g j q s i l) h nx =
 zb .shr .int b (.int .u64 32) λv1=>K (jf.fr a b c d e f g v1 q s i l) h nx:=by kernel_rfl
theorem jf.ny:IR.run jf.t5 C N O K (jf.fr a b c d e f g j q s i l) h nx =
 zb .mul .int e g λv1=>K (jf.fr a b c d e f g j v1 s i l) h nx:=by kernel_rfl
theorem jf.ku:IR.run jf.t6 C N O K (jf.fr a b c d e f g j q s i l) h nx =
 zb .mul .int f g λv1=>zb .shr .int q (.int .u64 32) λv2=>zb .add .int v1 v2 λv3=>K (jf.fr a b c d e f g j q v3 i l) h nx:=by kernel_rfl
theorem jf.fe:IR.run jf.t7 C N O K (jf.fr a b c d e f g j q s i l) h nx =
 zb .and .int s (.int .u64 4294967295) λv1=>K (jf.fr a b c d e f g j q s v1 l) h nx:=by kernel_rfl
theorem jf.fE:IR.run jf.t8 C N O K (jf.fr a b c d e f g j q s i l) h nx =
 zb .shr .int s (.int .u64 32) λv1=>K (jf.fr a b c d e f g j q s i v1) h nx:=by kernel_rfl
theorem jf.nP:IR.run jf.t9 C N O K (jf.fr a b c d e f g j q s i l) h nx =
 zb .mul .int e j λv1=>zb .add .int i v1 λv2=>K (jf.fr a b c d e f g j q s v2 l) h nx:=by kernel_rfl
theorem jf.nX:IR.run jf.t10 C N O K (jf.fr a b c d e f g j q s i l) h nx =
 zb .mul .int f j λv1=>zb .add .int v1 l λv2=>zb .shr .int i (.int .u64 32) λv3=>zb .add .int v2 v3 λv4=>K (jf.fr a b v4 d e f g j q s i l) h nx:=by kernel_rfl
theorem jf.dx:IR.run jf.t11 C N O K (jf.fr a b c d e f g j q s i l) h nx =
 zb .mul .int a b λv1=>K (jf.fr a b c v1 e f g j q s i l) h nx:=by kernel_rfl
theorem jf.go:zR tbl N C (.of 263) [a0,a1] h nx K0=IR.run jf.t23 C N (fnO jf.res K0) (zi jf.res K0) (jf.fr a0 a1 .u .u .u .u .u .u .u .u .u .u) h nx:=yE (F:=jf) (by kernel_rfl) (λ_=>by kernel_rfl) (by kernel_rfl)
theorem jf.ret:zi jf.res K0 (jf.fr a b c d e f g j q s i l) h nx=K0 (.tup [c,d]) h nx:=by kernel_rfl
theorem xu.zw:IR.run xu.t0 C N O K (xu.fr a b c) h nx =
 K (xu.fr a (.int .u64 0) c) h nx:=by kernel_rfl
theorem xu.zu:IR.run xu.t1 C N O K (xu.fr a b c) h nx =
 zb .lss .int a (I 0) λv1=>K (xu.fr a b v1) h nx:=by kernel_rfl
theorem xu.jd:IR.run xu.t2 C N O K (xu.fr a b c) h nx =
 sNeg a λv1=>kI .u64 v1 λv2=>K (xu.fr a v2 c) h nx:=by kernel_rfl
theorem xu.v2:Arg.ev (.t (.of 2)) ⟨(xu.fr a b c),[]⟩=c:=by kernel_rfl
theorem xu.ku:IR.run xu.t6 C N O K (xu.fr a b c) h nx =
 kI .u64 a λv1=>K (xu.fr a v1 c) h nx:=by kernel_rfl
theorem xu.go:zR tbl N C (.of 264) [a0] h nx K0=IR.run xu.t9 C N (fnO xu.res K0) (zi xu.res K0) (xu.fr a0 .u .u) h nx:=yE (F:=xu) (by kernel_rfl) (λ_=>by kernel_rfl) (by kernel_rfl)
theorem xu.ret:zi xu.res K0 (xu.fr a b c) h nx=K0 b h nx:=by kernel_rfl
theorem fq.zw:IR.run fq.t0 C N O K (fq.fr a b) h nx =
 yW [(I 0),.za] h nx λv1 h2 n3=>K (fq.fr a v1) h2 n3:=by kernel_rfl
theorem fq.zu:IR.run fq.t1 C N O K (fq.fr a b) h nx =
 j6 [(I 0),.za] [(0,1,a)] λv1=>zS 2 b v1 h nx λv2 h3 n4=>K (fq.fr a b) h3 n4:=by kernel_rfl
theorem fq.go:zR tbl N C (.of 187) [a0] h nx K0=IR.run fq.t3 C N (fnO fq.res K0) (zi fq.res K0) (fq.fr a0 .u) h nx:=yE (F:=fq) (by kernel_rfl) (λ_=>by kernel_rfl) (by kernel_rfl)
theorem fq.ret:zi fq.res K0 (fq.fr a b) h nx=zJ 2 b h λv1=>K0 v1 h nx:=by kernel_rfl
theorem fH.zw:IR.run fH.t0 C N O K (fH.fr a b c) h nx =
 dw a h nx λv1 h2 n3=>K (fH.fr a v1 (I 0)) h2 n3:=by kernel_rfl
theorem fH.zu:IR.run fH.t1 C N O K (fH.fr a b c) h nx =
 zL 0 b λv1=>zH v1 h λv2=>sMin false (I 1) [v2] λv3=>sMin true (I (-1)) [v3] λv4=>K (fH.fr a b v4) h nx:=by kernel_rfl
theorem fH.go:zR tbl N C (.of 194) [a0] h nx K0=IR.run fH.t3 C N (fnO fH.res K0) (zi fH.res K0) (fH.fr a0 .u .u) h nx:=yE (F:=fH) (by kernel_rfl) (λ_=>by kernel_rfl) (by kernel_rfl)
theorem fH.ret:zi fH.res K0 (fH.fr a b c) h nx=K0 c h nx:=by kernel_rfl
theorem mq.zw:IR.run mq.t0 C N O K (mq.fr a b c d e f) h nx =
 dw a h nx λv1 h2 n3=>yW [(I 0),.za] h2 n3 λv4 h5 n6=>K (mq.fr a v1 v4 d e f) h5 n6:=by kernel_rfl
theorem mq.zu:IR.run mq.t1 C N O K (mq.fr a b c d e f) h nx =
 zL 1 b λv1=>zH v1 h λv2=>zb .eql (.nil .sl) v2 .za λv3=>sG v3 true (λk=>zL 0 b k) λv4=>sG v3 true (λk=>zH v4 h k) λv5=>sG v3 true (λk=>zb .neq .int v5 (I (-9223372036854775808)) k) λv6=>yZ v3 v6 (.bool false) λv7=>K (mq.fr a b c d e v7) h nx:=by kernel_rfl
theorem mq.jd:IR.run mq.t2 C N O K (mq.fr a b c d e f) h nx =
 zL 0 b λv1=>zH v1 h λv2=>sNeg v2 λv3=>j6 [(I 0),.za] [(0,1,v3)] λv4=>zS 2 c v4 h nx λv5 h6 n7=>K (mq.fr a b c d e f) h6 n7:=by kernel_rfl
theorem mq.v5:Arg.ev (.t (.of 5)) ⟨(mq.fr a b c d e f),[]⟩=f:=by kernel_rfl
theorem mq.go:zR tbl N C (.of 193) [a0] h nx K0=IR.run mq.t11 C N (fnO mq.res K0) (zi mq.res K0) (mq.fr a0 .u .u .u .u .u) h nx:=yE (F:=mq) (by kernel_rfl) (λ_=>by kernel_rfl) (by kernel_rfl)
theorem mq.ret:zi mq.res K0 (mq.fr a b c d e f) h nx=zJ 2 c h λv1=>K0 v1 h nx:=by kernel_rfl
theorem qm.zw:IR.run qm.t0 C N O K (qm.fr a b c d e f g j q s i l p o) h nx =
 dw a h nx λv1 h2 n3=>dw b h2 n3 λv4 h5 n6=>yW [(I 0),.za] h5 n6 λv7 h8 n9=>K (qm.fr a b v1 v4 v7 f g j q s i l p o) h8 n9:=by kernel_rfl
theorem qm.zu:IR.run qm.t1 C N O K (qm.fr a b c d e f g j q s i l p o) h nx =
 zL 1 c λv1=>zH v1 h λv2=>zb .eql (.nil .sl) v2 .za λv3=>sG v3 true (λk=>zL 1 d k) λv4=>sG v3 true (λk=>zH v4 h k) λv5=>sG v3 true (λk=>zb .eql (.nil .sl) v5 .za k) λv6=>yZ v3 v6 (.bool false) λv7=>K (qm.fr a b c d e f g j q s v7 l p o) h nx:=by kernel_rfl
theorem qm.jd:IR.run qm.t2 C N O K (qm.fr a b c d e f g j q s i l p o) h nx =
 zL 0 c λv1=>zH v1 h λv2=>zL 0 d λv3=>zH v3 h λv4=>zb .add .int v2 v4 λv5=>K (qm.fr a b c d e v5 g j q s i l p o) h nx:=by kernel_rfl
theorem qm.pu:IR.run qm.t3 C N O K (qm.fr a b c d e f g j q s i l p o) h nx =
 zL 0 c λv1=>zH v1 h λv2=>zb .gtr .int f v2 λv3=>zL 0 d λv4=>zH v4 h λv5=>zb .gtr .int v5 (I 0) λv6=>zb .eql .bool v3 v6 λv7=>K (qm.fr a b c d e f g j q s i v7 p o) h nx:=by kernel_rfl
theorem qm.fG:IR.run qm.t4 C N O K (qm.fr a b c d e f g j q s i l p o) h nx =
 j6 [(I 0),.za] [(0,1,f)] λv1=>zS 2 e v1 h nx λv2 h3 n4=>K (qm.fr a b c d e f g j q s i l p o) h3 n4:=by kernel_rfl
theorem qm.v11:Arg.ev (.t (.of 11)) ⟨(qm.fr a b c d e f g j q s i l p o),[]⟩=l:=by kernel_rfl
theorem qm.v10:Arg.ev (.t (.of 10)) ⟨(qm.fr a b c d e f g j q s i l p o),[]⟩=i:=by kernel_rfl
theorem qm.go:zR tbl N C (.of 197) [a0,a1] h nx K0=IR.run qm.t30 C N (fnO qm.res K0) (zi qm.res K0) (qm.fr a0 a1 .u .u .u .u .u .u .u .u .u .u .u .u) h nx:=yE (F:=qm) (by kernel_rfl) (λ_=>by kernel_rfl) (by kernel_rfl)
theorem qm.ret:zi qm.res K0 (qm.fr a b c d e f g j q s i l p o) h nx=zJ 2 e h λv1=>K0 v1 h nx:=by kernel_rfl
theorem gy.zw:IR.run gy.t0 C N O K (gy.fr a b c d e f g j q s i l p o) h nx =
 dw a h nx λv1 h2 n3=>dw b h2 n3 λv4 h5 n6=>yW [(I 0),.za] h5 n6 λv7 h8 n9=>K (gy.fr a b v1 v4 v7 f g j q s i l p o) h8 n9:=by kernel_rfl
theorem gy.zu:IR.run gy.t1 C N O K (gy.fr a b c d e f g j q s i l p o) h nx =
 zL 1 c λv1=>zH v1 h λv2=>zb .eql (.nil .sl) v2 .za λv3=>sG v3 true (λk=>zL 1 d k) λv4=>sG v3 true (λk=>zH v4 h k) λv5=>sG v3 true (λk=>zb .eql (.nil .sl) v5 .za k) λv6=>yZ v3 v6 (.bool false) λv7=>K (gy.fr a b c d e f g j q s i v7 p o) h nx:=by kernel_rfl
theorem gy.jd:IR.run gy.t2 C N O K (gy.fr a b c d e f g j q s i l p o) h nx =
 zL 0 c λv1=>zH v1 h λv2=>zL 0 d λv3=>zH v3 h λv4=>C.fn 264 (.of 264) [v2] h nx λv5 h6 n7=>(zH v3 h6 λvA=>zO vA v4 ((zL 0 d λvB=>zO vB v3 (C.fn 264 (.of 264) [v4] h6 n7 λv8 h9 nA=>C.fn 263 (.of 263) [v5,v8] h9 nA λvC hA nB=>fw 0 vC λvD=>fw 1 vC λvE=>K (gy.fr a b c d e vD vE j q s i l p o) hA nB)))):=by kernel_rfl
theorem gy.pu:IR.run gy.t3 C N O K (gy.fr a b c d e f g j q s i l p o) h nx =
 zb .eql .int f (.int .u64 0) λv1=>sG v1 true (λk=>k g) λv2=>sG v1 true (λk=>zb .leq .int v2 (.int .u64 9223372036854775807) k) λv3=>yZ v1 v3 (.bool false) λv4=>K (gy.fr a b c d e f g j q s i l v4 o) h nx:=by kernel_rfl
theorem gy.fG:IR.run gy.t4 C N O K (gy.fr a b c d e f g j q s i l p o) h nx =
 zL 0 c λv1=>zH v1 h λv2=>zb .lss .int v2 (I 0) λv3=>zL 0 d λv4=>zH v4 h λv5=>zb .lss .int v5 (I 0) λv6=>zb .neq .bool v3 v6 λv7=>K (gy.fr a b c d e f g j q s i l p v7) h nx:=by kernel_rfl
theorem gy.ny:IR.run gy.t5 C N O K (gy.fr a b c d e f g j q s i l p o) h nx =
 kI .i64 g λv1=>sNeg v1 λv2=>j6 [(I 0),.za] [(0,1,v2)] λv3=>zS 2 e v3 h nx λv4 h5 n6=>K (gy.fr a b c d e f g j q s i l p o) h5 n6:=by kernel_rfl
theorem gy.v13:Arg.ev (.t (.of 13)) ⟨(gy.fr a b c d e f g j q s i l p o),[]⟩=o:=by kernel_rfl
theorem gy.nP:IR.run gy.t9 C N O K (gy.fr a b c d e f g j q s i l p o) h nx =
 kI .i64 g λv1=>j6 [(I 0),.za] [(0,1,v1)] λv2=>zS 2 e v2 h nx λv3 h4 n5=>K (gy.fr a b c d e f g j q s i l p o) h4 n5:=by kernel_rfl
theorem gy.v12:Arg.ev (.t (.of 12)) ⟨(gy.fr a b c d e f g j q s i l p o),[]⟩=p:=by kernel_rfl
theorem gy.v11:Arg.ev (.t (.of 11)) ⟨(gy.fr a b c d e f g j q s i l p o),[]⟩=l:=by kernel_rfl
theorem gy.go:zR tbl N C (.of 198) [a0,a1] h nx K0=IR.run gy.t24 C N (fnO gy.res K0) (zi gy.res K0) (gy.fr a0 a1 .u .u .u .u .u .u .u .u .u .u .u .u) h nx:=yE (F:=gy) (by kernel_rfl) (λ_=>by kernel_rfl) (by kernel_rfl)
theorem gy.ret:zi gy.res K0 (gy.fr a b c d e f g j q s i l p o) h nx=zJ 2 e h λv1=>K0 v1 h nx:=by kernel_rfl
theorem jr.zw:IR.run jr.t0 C N O K (jr.fr a b c d e f g j q s i l p o u v w y) h nx =
 dw a h nx λv1 h2 n3=>dw b h2 n3 λv4 h5 n6=>yW [(I 0),.za] h5 n6 λv7 h8 n9=>yW [(I 0),.za] h8 n9 λvF hB nC=>K (jr.fr a b v1 v4 v7 vF g j q s i l p o u v w y) hB nC:=by kernel_rfl
theorem jr.zu:IR.run jr.t1 C N O K tm h nx=yB jr.sD C ⟨tm,[]⟩ h nx (λtm h nx=>K tm.v h nx):=gI ..
theorem jr.sF:yB (jr.rP r) C ⟨(jr.fr a b c d e f g j q s i l p o u v w y),[]⟩ h nx Kt =
 zL 1 c λv1=>zH v1 h λv2=>zb .eql (.nil .sl) v2 .za λv3=>sG v3 true (λk=>zL 1 d k) λv4=>sG v3 true (λk=>zH v4 h k) λv5=>sG v3 true (λk=>zb .eql (.nil .sl) v5 .za k) λv6=>yZ v3 v6 (.bool false) λv7=>yB r C ⟨(jr.fr a b c d e f g j q s i l p o u v w y),v7::v6::v5::v4::v3::v3::v2::v1::[]⟩ h nx Kt:=by kernel_rfl
theorem jr.rU:yB (jr.rQ []) C ⟨(jr.fr a b c d e f g j q s i l p o u v w y),s0::sT⟩ h nx Kt =
 sG s0 true (λk=>zL 0 c k) λv1=>sG s0 true (λk=>zH v1 h k) λv2=>sG s0 true (λk=>zb .neq .int v2 (I (-9223372036854775808)) k) λv3=>yZ s0 v3 (.bool false) λv4=>Kt ⟨(jr.fr a b c d e f g j q s i l p o u v4 w y),v3::v2::v1::s0::s0::sT⟩ h nx:=by kernel_rfl
theorem jr.jd:IR.run jr.t2 C N O K (jr.fr a b c d e f g j q s i l p o u v w y) h nx =
 zL 0 c λv1=>zH v1 h λv2=>zL 0 d λv3=>zH v3 h λv4=>zb .quo .int v2 v4 λv5=>zL 0 c λv6=>zH v6 h λv7=>zL 0 d λv8=>zH v8 h λv9=>zb .rem .int v7 v9 λvF=>K (jr.fr a b c d e f v5 vF q s i l p o u v w y) h nx:=by kernel_rfl
theorem jr.pu:IR.run jr.t3 C N O K (jr.fr a b c d e f g j q s i l p o u v w y) h nx =
 zb .lss .int j (I 0) λv1=>K (jr.fr a b c d e f g j q s i l p o u v v1 y) h nx:=by kernel_rfl
theorem jr.fG:IR.run jr.t4 C N O K (jr.fr a b c d e f g j q s i l p o u v w y) h nx =
 zb .sub .int g (I 1) λv1=>zL 0 d λv2=>zH v2 h λv3=>zb .add .int j v3 λv4=>K (jr.fr a b c d e f v1 v4 q s i l p o u v w y) h nx:=by kernel_rfl
theorem jr.v16:Arg.ev (.t (.of 16)) ⟨(jr.fr a b c d e f g j q s i l p o u v w y),[]⟩=w:=by kernel_rfl
theorem jr.fe:IR.run jr.t7 C N O K (jr.fr a b c d e f g j q s i l p o u v w y) h nx =
 j6 [(I 0),.za] [(0,1,g)] λv1=>j6 [(I 0),.za] [(0,1,j)] λv2=>zS 2 e v1 h nx λv3 h4 n5=>zS 2 f v2 h4 n5 λv6 h7 n8=>K (jr.fr a b c d e f g j q s i l p o u v w y) h7 n8:=by kernel_rfl
theorem jr.v15:Arg.ev (.t (.of 15)) ⟨(jr.fr a b c d e f g j q s i l p o u v w y),[]⟩=v:=by kernel_rfl
theorem jr.go:zR tbl N C (.of 201) [a0,a1] h nx K0=IR.run jr.t29 C N (fnO jr.res K0) (zi jr.res K0) (jr.fr a0 a1 .u .u .u .u .u .u .u .u .u .u .u .u .u .u .u .u) h nx:=yE (F:=jr) (by kernel_rfl) (λ_=>by kernel_rfl) (by kernel_rfl)
theorem jr.ret:zi jr.res K0 (jr.fr a b c d e f g j q s i l p o u v w y) h nx=zJ 2 e h λv1=>zJ 2 f h λv2=>K0 (.tup [v1,v2]) h nx:=by kernel_rfl
theorem qh.zw:IR.run qh.t0 C N O K (qh.fr a b c d e f g) h nx =
 dw a h nx λv1 h2 n3=>dw b h2 n3 λv4 h5 n6=>yW [(I 0),.za] h5 n6 λv7 h8 n9=>K (qh.fr a b v1 v4 v7 f g) h8 n9:=by kernel_rfl
theorem qh.zu:IR.run qh.t1 C N O K (qh.fr a b c d e f g) h nx =
 zJ 2 d h λv1=>C.fn 194 (.of 194) [v1] h nx λv2 h3 n4=>zb .lss .int v2 (I 0) λv5=>K (qh.fr a b c d e f v5) h3 n4:=by kernel_rfl
theorem qh.jd:IR.run qh.t2 C N O K (qh.fr a b c d e f g) h nx =
 zJ 2 c h λv1=>zJ 2 d h λv2=>C.fn 193 (.of 193) [v1] h nx λv3 h4 n5=>(zJ 2 d h4 λvE=>zO vE v2 (C.fn 193 (.of 193) [v2] h4 n5 λv6 h7 n8=>zS 2 c v3 h7 n8 λv9 hC nD=>zS 2 d v6 hC nD λvG hD nE=>K (qh.fr a b c d e f g) hD nE)):=by kernel_rfl
theorem qh.v6:Arg.ev (.t (.of 6)) ⟨(qh.fr a b c d e f g),[]⟩=g:=by kernel_rfl
theorem qh.ny:IR.run qh.t5 C N O K (qh.fr a b c d e f g) h nx =
 zJ 2 c h λv1=>zJ 2 d h λv2=>C.fn 201 (.of 201) [v1,v2] h nx λv3 h4 n5=>fw 0 v3 λv6=>fw 1 v3 λv7=>yW [(I 0),.za] h4 n5 λv8 h9 nA=>yW [(I 0),.za] h9 nA λvC hA nB=>zS 2 v8 v6 hA nB λvD hE nF=>zS 2 vC v7 hE nF λvA hF nG=>K (qh.fr a b c d e v8 g) hF nG:=by kernel_rfl
theorem qh.ku:IR.run qh.t6 C N O K (qh.fr a b c d e f g) h nx =
 zJ 2 f h λv1=>zS 2 e v1 h nx λv2 h3 n4=>K (qh.fr a b c d e f g) h3 n4:=by kernel_rfl
theorem qh.go:zR tbl N C (.of 259) [a0,a1] h nx K0=IR.run qh.t10 C N (fnO qh.res K0) (zi qh.res K0) (qh.fr a0 a1 .u .u .u .u .u) h nx:=yE (F:=qh) (by kernel_rfl) (λ_=>by kernel_rfl) (by kernel_rfl)
theorem qh.ret:zi qh.res K0 (qh.fr a b c d e f g) h nx=zJ 2 e h λv1=>K0 v1 h nx:=by kernel_rfl
theorem vg.zw:IR.run vg.t0 C N O K (vg.fr a b c d) h nx =
 dw a h nx λv1 h2 n3=>yW [(I 0),.za] h2 n3 λv4 h5 n6=>K (vg.fr a v1 v4 d) h5 n6:=by kernel_rfl
theorem vg.zu:IR.run vg.t1 C N O K (vg.fr a b c d) h nx =
 zL 0 b λv1=>zH v1 h λv2=>zb .lss .int v2 (I 0) λv3=>K (vg.fr a b c v3) h nx:=by kernel_rfl
theorem vg.jd:IR.run vg.t2 C N O K (vg.fr a b c d) h nx =
 zJ 2 b h λv1=>C.fn 193 (.of 193) [v1] h nx λv2 h3 n4=>zS 2 c v2 h3 n4 λv5 h6 n7=>K (vg.fr a b c d) h6 n7:=by kernel_rfl
theorem vg.v3:Arg.ev (.t (.of 3)) ⟨(vg.fr a b c d),[]⟩=d:=by kernel_rfl
theorem vg.ku:IR.run vg.t6 C N O K (vg.fr a b c d) h nx =
 zJ 2 b h λv1=>zS 2 c v1 h nx λv2 h3 n4=>K (vg.fr a b c d) h3 n4:=by kernel_rfl
theorem vg.go:zR tbl N C (.of 299) [a0] h nx K0=IR.run vg.t9 C N (fnO vg.res K0) (zi vg.res K0) (vg.fr a0 .u .u .u) h nx:=yE (F:=vg) (by kernel_rfl) (λ_=>by kernel_rfl) (by kernel_rfl)
theorem vg.ret:zi vg.res K0 (vg.fr a b c d) h nx=zJ 2 c h λv1=>K0 v1 h nx:=by kernel_rfl
theorem uf.zw:IR.run uf.t0 C N O K (uf.fr a b c d e f g) h nx =
 dw a h nx λv1 h2 n3=>dw b h2 n3 λv4 h5 n6=>yW [(I 0),.za] h5 n6 λv7 h8 n9=>K (uf.fr a b v1 v4 v7 f g) h8 n9:=by kernel_rfl
theorem uf.zu:IR.run uf.t1 C N O K (uf.fr a b c d e f g) h nx =
 zJ 2 c h λv1=>zJ 2 d h λv2=>C.fn 299 (.of 299) [v1] h nx λv3 h4 n5=>(zJ 2 d h4 λvE=>zO vE v2 (C.fn 299 (.of 299) [v2] h4 n5 λv6 h7 n8=>zS 2 c v3 h7 n8 λv9 hC nD=>zS 2 d v6 hC nD λvG hD nE=>K (uf.fr a b c d e f g) hD nE)):=by kernel_rfl
theorem uf.jd:IR.run uf.t2 C N O K (uf.fr a b c d e f g) h nx =
 zJ 2 d h λv1=>C.fn 194 (.of 194) [v1] h nx λv2 h3 n4=>zb .neq .int v2 (I 0) λv5=>K (uf.fr a b c d e f v5) h3 n4:=by kernel_rfl
theorem uf.v6:Arg.ev (.t (.of 6)) ⟨(uf.fr a b c d e f g),[]⟩=g:=by kernel_rfl
theorem uf.ny:IR.run uf.t5 C N O K (uf.fr a b c d e f g) h nx =
 zJ 2 c h λv1=>zJ 2 d h λv2=>C.fn 201 (.of 201) [v1,v2] h nx λv3 h4 n5=>fw 0 v3 λv6=>fw 1 v3 λv7=>yW [(I 0),.za] h4 n5 λv8 h9 nA=>yW [(I 0),.za] h9 nA λvC hA nB=>zS 2 v8 v6 hA nB λvD hE nF=>zS 2 vC v7 hE nF λvA hF nG=>K (uf.fr a b c d e vC g) hF nG:=by kernel_rfl
theorem uf.ku:IR.run uf.t6 C N O K (uf.fr a b c d e f g) h nx =
 zJ 2 d h λv1=>zJ 2 f h λv2=>zS 2 c v1 h nx λv3 h4 n5=>(zJ 2 f h4 λv9=>zO v9 v2 (zS 2 d v2 h4 n5 λv6 h7 n8=>K (uf.fr a b c d e f g) h7 n8)):=by kernel_rfl
theorem uf.zmu (Inv:Nat->T Blk->Pa->Prop) {m:Nat} (hm:m<N) (hi:Inv m h nx)
  (step:∀ (m:Nat) (z5 z6:AV) (h:T Blk) (nx:Pa) (R:Ks Prop),Inv m h nx->(∀ (m':Nat) (w5 w6:AV) (h':T Blk) (nx':Pa),m'<m->Inv m' h' nx'->R (uf.fr a b c d e w5 w6) h' nx'=.ok True)->IR.run uf.t9 C N O R (uf.fr a b c d e z5 z6) h nx=.ok True) :
  IR.run uf.t10 C N O K (uf.fr a b c d e f g) h nx=.ok True:=by
 rw [uf.t10];refine yC (λm tm h nx=>∃ z5 z6,tm=(uf.fr a b c d e z5 z6)/\Inv m h nx) ?_ hm ⟨_,_,rfl,hi⟩;rintro m tm h nx R ⟨z5,z6,rfl,hi⟩ hR;exact step m z5 z6 h nx R hi λm' w5 w6 h' nx' hlt hi'=>hR m' _ h' nx' hlt ⟨_,_,rfl,hi'⟩
theorem uf.rF:IR.run uf.t12 C N O K (uf.fr a b c d e f g) h nx =
 zJ 2 c h λv1=>zS 2 e v1 h nx λv2 h3 n4=>K (uf.fr a b c d e f g) h3 n4:=by kernel_rfl
theorem uf.go:zR tbl N C (.of 258) [a0,a1] h nx K0=IR.run uf.t16 C N (fnO uf.res K0) (zi uf.res K0) (uf.fr a0 a1 .u .u .u .u .u) h nx:=yE (F:=uf) (by kernel_rfl) (λ_=>by kernel_rfl) (by kernel_rfl)
theorem uf.ret:zi uf.res K0 (uf.fr a b c d e f g) h nx=zJ 2 e h λv1=>K0 v1 h nx:=by kernel_rfl
theorem xw.zw:IR.run xw.t0 C N O K (xw.fr a b c) h nx =
 dw a h nx λv1 h2 n3=>K (xw.fr a v1 (.bool false)) h2 n3:=by kernel_rfl
theorem xw.zu:IR.run xw.t1 C N O K tm h nx=yB xw.sD C ⟨tm,[]⟩ h nx (λtm h nx=>K tm.v h nx):=gI ..
theorem xw.sF:yB (xw.rP r) C ⟨(xw.fr a b c),[]⟩ h nx Kt =
 zL 2 b λv1=>zL 1 v1 λv2=>zH v2 h λv3=>zb .eql (.nil .sl) v3 .za λv4=>sG v4 true (λk=>zL 2 b k) λv5=>sG v4 true (λk=>zL 0 v5 k) λv6=>sG v4 true (λk=>zH v6 h k) λv7=>yB r C ⟨(xw.fr a b c),v7::v6::v5::v4::v4::v3::v2::v1::[]⟩ h nx Kt:=by kernel_rfl
theorem xw.rU:yB (xw.rQ []) C ⟨(xw.fr a b c),s0::s1::s2::s3::sT⟩ h nx Kt =
 sG s3 true (λk=>zb .eql .int s0 (I 1) k) λv1=>yZ s3 v1 (.bool false) λv2=>Kt ⟨(xw.fr a b v2),v2::v1::s0::s1::s2::s3::sT⟩ h nx:=by kernel_rfl
theorem xw.go:zR tbl N C (.of 122) [a0] h nx K0=IR.run xw.t3 C N (fnO xw.res K0) (zi xw.res K0) (xw.fr a0 .u .u) h nx:=yE (F:=xw) (by kernel_rfl) (λ_=>by kernel_rfl) (by kernel_rfl)
theorem xw.ret:zi xw.res K0 (xw.fr a b c) h nx=K0 c h nx:=by kernel_rfl
theorem fA.zw:IR.run fA.t0 C N O K (fA.fr a b c) h nx =
 dw a h nx λv1 h2 n3=>yW [(I 0),.za,(I 0),.za] h2 n3 λv4 h5 n6=>K (fA.fr a v1 v4) h5 n6:=by kernel_rfl
theorem fA.zu:IR.run fA.t1 C N O K (fA.fr a b c) h nx =
 zJ 2 b h λv1=>C.fn 187 (.of 187) [(I 1)] h nx λv2 h3 n4=>(zJ 2 b h3 λv9=>zO v9 v1 (j6 [(I 0),.za,(I 0),.za] [(0,2,v1),(2,2,v2)] λv5=>zS 4 c v5 h3 n4 λv6 h7 n8=>K (fA.fr a b c) h7 n8)):=by kernel_rfl
theorem fA.go:zR tbl N C (.of 186) [a0] h nx K0=IR.run fA.t3 C N (fnO fA.res K0) (zi fA.res K0) (fA.fr a0 .u .u) h nx:=yE (F:=fA) (by kernel_rfl) (λ_=>by kernel_rfl) (by kernel_rfl)
theorem fA.ret:zi fA.res K0 (fA.fr a b c) h nx=zJ 4 c h λv1=>K0 v1 h nx:=by kernel_rfl
theorem F96.zw:IR.run F96.t0 C N O K (F96.fr a b) h nx =
 yW [(I 0),.za,(I 0),.za] h nx λv1 h2 n3=>K (F96.fr a v1) h2 n3:=by kernel_rfl
theorem F96.zu:IR.run F96.t1 C N O K (F96.fr a b) h nx =
 C.fn 187 (.of 187) [a] h nx λv1 h2 n3=>C.fn 186 (.of 186) [v1] h2 n3 λv4 h5 n6=>zS 4 b v4 h5 n6 λv7 h8 n9=>K (F96.fr a b) h8 n9:=by kernel_rfl
theorem F96.go:zR tbl N C (.of 96) [a0] h nx K0=IR.run F96.t3 C N (fnO F96.res K0) (zi F96.res K0) (F96.fr a0 .u) h nx:=yE (F:=F96) (by kernel_rfl) (λ_=>by kernel_rfl) (by kernel_rfl)
theorem F96.ret:zi F96.res K0 (F96.fr a b) h nx=zJ 4 b h λv1=>K0 v1 h nx:=by kernel_rfl
theorem jm.zw:IR.run jm.t0 C N O K (jm.fr a b c d e f g j) h nx =
 dw a h nx λv1 h2 n3=>dw b h2 n3 λv4 h5 n6=>yW [(I 0),.za,(I 0),.za] h5 n6 λv7 h8 n9=>K (jm.fr a b v1 v4 v7 f g j) h8 n9:=by kernel_rfl
theorem jm.zu:IR.run jm.t1 C N O K (jm.fr a b c d e f g j) h nx =
 zJ 2 d h λv1=>C.fn 194 (.of 194) [v1] h nx λv2 h3 n4=>zb .lss .int v2 (I 0) λv5=>K (jm.fr a b c d e f v5 j) h3 n4:=by kernel_rfl
theorem jm.jd:IR.run jm.t2 C N O K (jm.fr a b c d e f g j) h nx =
 zJ 2 c h λv1=>zJ 2 d h λv2=>C.fn 193 (.of 193) [v1] h nx λv3 h4 n5=>(zJ 2 d h4 λvE=>zO vE v2 (C.fn 193 (.of 193) [v2] h4 n5 λv6 h7 n8=>zS 2 c v3 h7 n8 λv9 hC nD=>zS 2 d v6 hC nD λvG hD nE=>K (jm.fr a b c d e f g j) hD nE)):=by kernel_rfl
theorem jm.v6:Arg.ev (.t (.of 6)) ⟨(jm.fr a b c d e f g j),[]⟩=g:=by kernel_rfl
theorem jm.ny:IR.run jm.t5 C N O K (jm.fr a b c d e f g j) h nx =
 zL 1 d λv1=>zH v1 h λv2=>zb .eql (.nil .sl) v2 .za λv3=>sG v3 true (λk=>zL 0 d k) λv4=>sG v3 true (λk=>zH v4 h k) λv5=>sG v3 true (λk=>zb .eql .int v5 (I 1) k) λv6=>yZ v3 v6 (.bool false) λv7=>K (jm.fr a b c d e f g v7) h nx:=by kernel_rfl
theorem jm.ku:IR.run jm.t6 C N O K (jm.fr a b c d e f g j) h nx =
 zJ 2 c h λv1=>zJ 2 d h λv2=>j6 [(I 0),.za,(I 0),.za] [(0,2,v1),(2,2,v2)] λv3=>zS 4 e v3 h nx λv4 h5 n6=>K (jm.fr a b c d e f g j) h5 n6:=by kernel_rfl
theorem jm.v7:Arg.ev (.t (.of 7)) ⟨(jm.fr a b c d e f g j),[]⟩=j:=by kernel_rfl
theorem jm.nX:IR.run jm.t10 C N O K (jm.fr a b c d e f g j) h nx =
 zJ 2 c h λv1=>zJ 2 d h λv2=>C.fn 258 (.of 258) [v1,v2] h nx λv3 h4 n5=>yW [(I 0),.za] h4 n5 λv6 h7 n8=>zS 2 v6 v3 h7 n8 λv9 hC nD=>K (jm.fr a b c d e v6 g j) hC nD:=by kernel_rfl
theorem jm.dx:IR.run jm.t11 C N O K (jm.fr a b c d e f g j) h nx =
 zJ 2 c h λv1=>zJ 2 f h λv2=>zJ 2 d h λv3=>zJ 2 f h λv4=>C.fn 259 (.of 259) [v1,v2] h nx λv5 h6 n7=>(zJ 2 f h6 λvB=>zO vB v4 ((zJ 2 d h6 λvE=>zO vE v3 (C.fn 259 (.of 259) [v3,v4] h6 n7 λv8 h9 nA=>j6 [(I 0),.za,(I 0),.za] [(0,2,v5),(2,2,v8)] λvC=>zS 4 e vC h9 nA λvG hD nE=>K (jm.fr a b c d e f g j) hD nE)))):=by kernel_rfl
theorem jm.go:zR tbl N C (.of 195) [a0,a1] h nx K0=IR.run jm.t16 C N (fnO jm.res K0) (zi jm.res K0) (jm.fr a0 a1 .u .u .u .u .u .u) h nx:=yE (F:=jm) (by kernel_rfl) (λ_=>by kernel_rfl) (by kernel_rfl)
theorem jm.ret:zi jm.res K0 (jm.fr a b c d e f g j) h nx=zJ 4 e h λv1=>K0 v1 h nx:=by kernel_rfl
theorem fI.zw:IR.run fI.t0 C N O K (fI.fr a b c) h nx =
 dw a h nx λv1 h2 n3=>K (fI.fr a v1 (I 0)) h2 n3:=by kernel_rfl
theorem fI.zu:IR.run fI.t1 C N O K (fI.fr a b c) h nx =
 zL 0 b λv1=>zJ 2 v1 h λv2=>C.fn 194 (.of 194) [v2] h nx λv3 h4 n5=>K (fI.fr a b v3) h4 n5:=by kernel_rfl
theorem fI.go:zR tbl N C (.of 110) [a0] h nx K0=IR.run fI.t3 C N (fnO fI.res K0) (zi fI.res K0) (fI.fr a0 .u .u) h nx:=yE (F:=fI) (by kernel_rfl) (λ_=>by kernel_rfl) (by kernel_rfl)
theorem fI.ret:zi fI.res K0 (fI.fr a b c) h nx=K0 c h nx:=by kernel_rfl
theorem fJ.zw:IR.run fJ.t0 C N O K (fJ.fr a b c) h nx =
 dw a h nx λv1 h2 n3=>yW [(I 0),.za,(I 0),.za] h2 n3 λv4 h5 n6=>K (fJ.fr a v1 v4) h5 n6:=by kernel_rfl
theorem fJ.zu:IR.run fJ.t1 C N O K (fJ.fr a b c) h nx =
 zL 0 b λv1=>zJ 2 v1 h λv2=>zL 2 b λv3=>zJ 2 v3 h λv4=>C.fn 193 (.of 193) [v2] h nx λv5 h6 n7=>(zJ 2 v3 h6 λvH=>zO vH v4 ((zL 2 b λvG=>zO vG v3 (j6 [(I 0),.za,(I 0),.za] [(0,2,v5),(2,2,v4)] λv8=>zS 4 c v8 h6 n7 λv9 hC nD=>K (fJ.fr a b c) hC nD)))):=by kernel_rfl
theorem fJ.go:zR tbl N C (.of 107) [a0] h nx K0=IR.run fJ.t3 C N (fnO fJ.res K0) (zi fJ.res K0) (fJ.fr a0 .u .u) h nx:=yE (F:=fJ) (by kernel_rfl) (λ_=>by kernel_rfl) (by kernel_rfl)
theorem fJ.ret:zi fJ.res K0 (fJ.fr a b c) h nx=zJ 4 c h λv1=>K0 v1 h nx:=by kernel_rfl
theorem fK.zw:IR.run fK.t0 C N O K (fK.fr a b c) h nx =
 dw a h nx λv1 h2 n3=>yW [(I 0),.za,(I 0),.za] h2 n3 λv4 h5 n6=>K (fK.fr a v1 v4) h5 n6:=by kernel_rfl
theorem fK.zu:IR.run fK.t1 C N O K (fK.fr a b c) h nx =
 zL 2 b λv1=>zJ 2 v1 h λv2=>zL 0 b λv3=>zJ 2 v3 h λv4=>C.fn 195 (.of 195) [v2,v4] h nx λv5 h6 n7=>zS 4 c v5 h6 n7 λv8 h9 nA=>K (fK.fr a b c) h9 nA:=by kernel_rfl
theorem fK.go:zR tbl N C (.of 112) [a0] h nx K0=IR.run fK.t3 C N (fnO fK.res K0) (zi fK.res K0) (fK.fr a0 .u .u) h nx:=yE (F:=fK) (by kernel_rfl) (λ_=>by kernel_rfl) (by kernel_rfl)
theorem fK.ret:zi fK.res K0 (fK.fr a b c) h nx=zJ 4 c h λv1=>K0 v1 h nx:=by kernel_rfl
theorem fM.zw:IR.run fM.t0 C N O K (fM.fr a b c d e) h nx =
 dw a h nx λv1 h2 n3=>dw b h2 n3 λv4 h5 n6=>yW [(I 0),.za,(I 0),.za] h5 n6 λv7 h8 n9=>K (fM.fr a b v1 v4 v7) h8 n9:=by kernel_rfl
theorem fM.zu:IR.run fM.t1 C N O K (fM.fr a b c d e) h nx =
 zL 0 c λv1=>zJ 2 v1 h λv2=>zL 0 d λv3=>zJ 2 v3 h λv4=>zL 2 c λv5=>zJ 2 v5 h λv6=>zL 2 d λv7=>zJ 2 v7 h λv8=>C.fn 198 (.of 198) [v2,v4] h nx λv9 hC nD=>(zJ 2 v7 hC λvI=>zO vI v8 ((zL 2 d λvJ=>zO vJ v7 ((zJ 2 v5 hC λvK=>zO vK v6 ((zL 2 c λvL=>zO vL v5 (C.fn 198 (.of 198) [v6,v8] hC nD λvG hD nE=>C.fn 195 (.of 195) [v9,vG] hD nE λvE hG nH=>zS 4 e vE hG nH λvM hH nI=>K (fM.fr a b c d e) hH nI)))))))):=by kernel_rfl
theorem fM.go:zR tbl N C (.of 119) [a0,a1] h nx K0=IR.run fM.t3 C N (fnO fM.res K0) (zi fM.res K0) (fM.fr a0 a1 .u .u .u) h nx:=yE (F:=fM) (by kernel_rfl) (λ_=>by kernel_rfl) (by kernel_rfl)
theorem fM.ret:zi fM.res K0 (fM.fr a b c d e) h nx=zJ 4 e h λv1=>K0 v1 h nx:=by kernel_rfl
theorem qw.zw:IR.run qw.t0 C N O K (qw.fr a b c d e f) h nx =
 dw a h nx λv1 h2 n3=>dw b h2 n3 λv4 h5 n6=>yW [(I 0),.za,(I 0),.za] h5 n6 λv7 h8 n9=>K (qw.fr a b v1 v4 v7 f) h8 n9:=by kernel_rfl
theorem qw.zu:IR.run qw.t1 C N O K (qw.fr a b c d e f) h nx =
 zJ 4 c h λv1=>C.fn 122 (.of 122) [v1] h nx λv2 h3 n4=>sG v2 true (λk=>zJ 4 d h3 k) λv5=>sGW v2 true (λk=>C.fn 122 (.of 122) [v5] h3 n4 k) h3 n4 λv6 h7 n8=>yZ v2 v6 (.bool false) λv9=>K (qw.fr a b c d e v9) h7 n8:=by kernel_rfl
theorem qw.jd:IR.run qw.t2 C N O K (qw.fr a b c d e f) h nx =
 zL 0 c λv1=>zJ 2 v1 h λv2=>zL 0 d λv3=>zJ 2 v3 h λv4=>C.fn 197 (.of 197) [v2,v4] h nx λv5 h6 n7=>C.fn 186 (.of 186) [v5] h6 n7 λv8 h9 nA=>zS 4 e v8 h9 nA λvC hA nB=>K (qw.fr a b c d e f) hA nB:=by kernel_rfl
theorem qw.v5:Arg.ev (.t (.of 5)) ⟨(qw.fr a b c d e f),[]⟩=f:=by kernel_rfl
theorem qw.ku:IR.run qw.t6 C N O K (qw.fr a b c d e f) h nx =
 zL 0 c λv1=>zJ 2 v1 h λv2=>zL 2 d λv3=>zJ 2 v3 h λv4=>zL 0 d λv5=>zJ 2 v5 h λv6=>zL 2 c λv7=>zJ 2 v7 h λv8=>zL 2 c λv9=>zJ 2 v9 h λvF=>zL 2 d λvC=>zJ 2 vC h λvG=>C.fn 198 (.of 198) [v2,v4] h nx λvH hI nJ=>(zJ 2 vC hI λvN=>zO vN vG ((zL 2 d λvO=>zO vO vC ((zJ 2 v9 hI λvP=>zO vP vF ((zL 2 c λvQ=>zO vQ v9 ((zJ 2 v7 hI λvR=>zO vR v8 ((zL 2 c λvS=>zO vS v7 ((zJ 2 v5 hI λvT=>zO vT v6 ((zL 0 d λvU=>zO vU v5 (C.fn 198 (.of 198) [v6,v8] hI nJ λvB hJ nK=>(zJ 2 vC hJ λvV=>zO vV vG ((zL 2 d λvW=>zO vW vC ((zJ 2 v9 hJ λvX=>zO vX vF ((zL 2 c λvY=>zO vY v9 (C.fn 197 (.of 197) [vH,vB] hJ nK λvZ hK nL=>(zJ 2 vC hK λv34=>zO v34 vG ((zL 2 d λv33=>zO v33 vC ((zJ 2 v9 hK λv32=>zO v32 vF ((zL 2 c λv31=>zO v31 v9 (C.fn 198 (.of 198) [vF,vG] hK nL λvK hL nM=>C.fn 195 (.of 195) [vZ,vK] hL nM λv25 hM nN=>zS 4 e v25 hM nN λv28 hN nO=>K (qw.fr a b c d e f) hN nO)))))))))))))))))))))))))))))))):=by kernel_rfl
theorem qw.go:zR tbl N C (.of 114) [a0,a1] h nx K0=IR.run qw.t9 C N (fnO qw.res K0) (zi qw.res K0) (qw.fr a0 a1 .u .u .u .u) h nx:=yE (F:=qw) (by kernel_rfl) (λ_=>by kernel_rfl) (by kernel_rfl)
theorem qw.ret:zi qw.res K0 (qw.fr a b c d e f) h nx=zJ 4 e h λv1=>K0 v1 h nx:=by kernel_rfl
theorem fO.zw:IR.run fO.t0 C N O K (fO.fr a b c d e) h nx =
 dw a h nx λv1 h2 n3=>dw b h2 n3 λv4 h5 n6=>yW [(I 0),.za,(I 0),.za] h5 n6 λv7 h8 n9=>K (fO.fr a b v1 v4 v7) h8 n9:=by kernel_rfl
theorem fO.zu:IR.run fO.t1 C N O K (fO.fr a b c d e) h nx =
 zJ 4 c h λv1=>zJ 4 d h λv2=>C.fn 107 (.of 107) [v2] h nx λv3 h4 n5=>(zJ 4 c h4 λvG=>zO vG v1 (C.fn 114 (.of 114) [v1,v3] h4 n5 λv6 h7 n8=>zS 4 e v6 h7 n8 λv9 hC nD=>K (fO.fr a b c d e) hC nD)):=by kernel_rfl
theorem fO.go:zR tbl N C (.of 192) [a0,a1] h nx K0=IR.run fO.t3 C N (fnO fO.res K0) (zi fO.res K0) (fO.fr a0 a1 .u .u .u) h nx:=yE (F:=fO) (by kernel_rfl) (λ_=>by kernel_rfl) (by kernel_rfl)
theorem fO.ret:zi fO.res K0 (fO.fr a b c d e) h nx=zJ 4 e h λv1=>K0 v1 h nx:=by kernel_rfl
theorem jg.zw:IR.run jg.t0 C N O K (jg.fr a b c d e f g j q) h nx =
 K (jg.fr a b .za d e f g j q) h nx:=by kernel_rfl
theorem jg.zu:IR.run jg.t1 C N O K (jg.fr a b c d e f g j q) h nx =
 C.fn 105 (.of 105) [a] h nx λv1 h2 n3=>K (jg.fr a b c v1 e f g j q) h2 n3:=by kernel_rfl
theorem jg.jd:IR.run jg.t2 C N O K (jg.fr a b c d e f g j q) h nx =
 sLen b λv1=>K (jg.fr a b c d e b v1 (I 0) q) h nx:=by kernel_rfl
theorem jg.pu:IR.run jg.t3 C N O K (jg.fr a b c d e f g j q) h nx =
 zb .lss .int j g λv1=>K (jg.fr a b c d e f g j v1) h nx:=by kernel_rfl
theorem jg.v8:Arg.ev (.t (.of 8)) ⟨(jg.fr a b c d e f g j q),[]⟩=q:=by kernel_rfl
theorem jg.ny:IR.run jg.t5 C N O K (jg.fr a b c d e f g j q) h nx =
 zK 1 f j λv1=>zH v1 h λv2=>K (jg.fr a b c d v2 f g j q) h nx:=by kernel_rfl
theorem jg.ku:IR.run jg.t6 C N O K (jg.fr a b c d e f g j q) h nx =
 C.fn 96 (.of 96) [(I 1)] h nx λv1 h2 n3=>zK 4 d e λv4=>zS 4 v4 v1 h2 n3 λv5 h6 n7=>K (jg.fr a b c d e f g j q) h6 n7:=by kernel_rfl
theorem jg.nP:IR.run jg.t9 C N O K (jg.fr a b c d e f g j q) h nx =
 zb .add .int j (I 1) λv1=>K (jg.fr a b c d e f g v1 q) h nx:=by kernel_rfl
theorem jg.zfa (Inv:Nat->AV->T Blk->Pa->Prop) {m:Nat} (hm:m<N) (hi:Inv m j h nx)
  (step:∀ (m:Nat) (z4 z7 z8:AV) (h:T Blk) (nx:Pa) (R:Ks Prop),Inv m z7 h nx->(∀ (m':Nat) (w4 w7 w8:AV) (h':T Blk) (nx':Pa),m'<m->Inv m' w7 h' nx'->R (jg.fr a b c d w4 f g w7 w8) h' nx'=.ok True)->IR.run jg.t12 C N O R (jg.fr a b c d z4 f g z7 z8) h nx=.ok True) :
  IR.run jg.t13 C N O K (jg.fr a b c d e f g j q) h nx=.ok True:=by
 rw [jg.t13];refine yC (λm tm h nx=>∃ z4 z7 z8,tm=(jg.fr a b c d z4 f g z7 z8)/\Inv m z7 h nx) ?_ hm ⟨_,_,_,rfl,hi⟩;rintro m tm h nx R ⟨z4,z7,z8,rfl,hi⟩ hR;exact step m z4 z7 z8 h nx R hi λm' w4 w7 w8 h' nx' hlt hi'=>hR m' _ h' nx' hlt ⟨_,_,_,rfl,hi'⟩
theorem jg.rG:IR.run jg.t16 C N O K (jg.fr a b c d e f g j q) h nx =
 K (jg.fr a b d d e f g j q) h nx:=by kernel_rfl
theorem jg.go:zR tbl N C (.of 104) [a0,a1] h nx K0=IR.run jg.t20 C N (fnO jg.res K0) (zi jg.res K0) (jg.fr a0 a1 .u .u .u .u .u .u .u) h nx:=yE (F:=jg) (by kernel_rfl) (λ_=>by kernel_rfl) (by kernel_rfl)
theorem jg.ret:zi jg.res K0 (jg.fr a b c d e f g j q) h nx=K0 c h nx:=by kernel_rfl
theorem jh.zw:IR.run jh.t0 C N O K (jh.fr a b c d e f g) h nx =
 K (jh.fr a .za c d e f g) h nx:=by kernel_rfl
theorem jh.zu:IR.run jh.t1 C N O K (jh.fr a b c d e f g) h nx =
 qQ 4 64 [(I 0),.za,(I 0),.za] a a h nx λv1 h2 n3=>K (jh.fr a b v1 d e f g) h2 n3:=by kernel_rfl
theorem jh.jd:IR.run jh.t2 C N O K (jh.fr a b c d e f g) h nx =
 sLen c λv1=>K (jh.fr a b c d v1 (I 0) g) h nx:=by kernel_rfl
theorem jh.pu:IR.run jh.t3 C N O K (jh.fr a b c d e f g) h nx =
 zb .lss .int f e λv1=>K (jh.fr a b c d e f v1) h nx:=by kernel_rfl
theorem jh.v6:Arg.ev (.t (.of 6)) ⟨(jh.fr a b c d e f g),[]⟩=g:=by kernel_rfl
theorem jh.ny:IR.run jh.t5 C N O K (jh.fr a b c d e f g) h nx =
 K (jh.fr a b c f e f g) h nx:=by kernel_rfl
theorem jh.ku:IR.run jh.t6 C N O K (jh.fr a b c d e f g) h nx =
 C.fn 96 (.of 96) [(I 0)] h nx λv1 h2 n3=>zK 4 c d λv4=>zS 4 v4 v1 h2 n3 λv5 h6 n7=>K (jh.fr a b c d e f g) h6 n7:=by kernel_rfl
theorem jh.nP:IR.run jh.t9 C N O K (jh.fr a b c d e f g) h nx =
 zb .add .int f (I 1) λv1=>K (jh.fr a b c d e v1 g) h nx:=by kernel_rfl
theorem jh.zfa (Inv:Nat->AV->T Blk->Pa->Prop) {m:Nat} (hm:m<N) (hi:Inv m f h nx)
  (step:∀ (m:Nat) (z3 z5 z6:AV) (h:T Blk) (nx:Pa) (R:Ks Prop),Inv m z5 h nx->(∀ (m':Nat) (w3 w5 w6:AV) (h':T Blk) (nx':Pa),m'<m->Inv m' w5 h' nx'->R (jh.fr a b c w3 e w5 w6) h' nx'=.ok True)->IR.run jh.t12 C N O R (jh.fr a b c z3 e z5 z6) h nx=.ok True) :
  IR.run jh.t13 C N O K (jh.fr a b c d e f g) h nx=.ok True:=by
 rw [jh.t13];refine yC (λm tm h nx=>∃ z3 z5 z6,tm=(jh.fr a b c z3 e z5 z6)/\Inv m z5 h nx) ?_ hm ⟨_,_,_,rfl,hi⟩;rintro m tm h nx R ⟨z3,z5,z6,rfl,hi⟩ hR;exact step m z3 z5 z6 h nx R hi λm' w3 w5 w6 h' nx' hlt hi'=>hR m' _ h' nx' hlt ⟨_,_,_,rfl,hi'⟩
theorem jh.rG:IR.run jh.t16 C N O K (jh.fr a b c d e f g) h nx =
 K (jh.fr a c c d e f g) h nx:=by kernel_rfl
theorem jh.go:zR tbl N C (.of 105) [a0] h nx K0=IR.run jh.t20 C N (fnO jh.res K0) (zi jh.res K0) (jh.fr a0 .u .u .u .u .u .u) h nx:=yE (F:=jh) (by kernel_rfl) (λ_=>by kernel_rfl) (by kernel_rfl)
theorem jh.ret:zi jh.res K0 (jh.fr a b c d e f g) h nx=K0 b h nx:=by kernel_rfl
theorem jo.zw:IR.run jo.t0 C N O K (jo.fr a b c d e f g j q s i) h nx =
 dw b h nx λv1 h2 n3=>K (jo.fr a b c v1 e f g j q s i) h2 n3:=by kernel_rfl
theorem jo.zu:IR.run jo.t1 C N O K (jo.fr a b c d e f g j q s i) h nx =
 sLen c λv1=>K (jo.fr a b c d e f c v1 (I 0) s i) h nx:=by kernel_rfl
theorem jo.jd:IR.run jo.t2 C N O K (jo.fr a b c d e f g j q s i) h nx =
 zb .lss .int q j λv1=>K (jo.fr a b c d e f g j q v1 i) h nx:=by kernel_rfl
theorem jo.v9:Arg.ev (.t (.of 9)) ⟨(jo.fr a b c d e f g j q s i),[]⟩=s:=by kernel_rfl
theorem jo.fG:IR.run jo.t4 C N O K (jo.fr a b c d e f g j q s i) h nx =
 zK 4 g q λv1=>zJ 4 v1 h λv2=>yW [(I 0),.za,(I 0),.za] h nx λv3 h4 n5=>zS 4 v3 v2 h4 n5 λv6 h7 n8=>K (jo.fr a b c d q v3 g j q s i) h7 n8:=by kernel_rfl
theorem jo.ny:IR.run jo.t5 C N O K (jo.fr a b c d e f g j q s i) h nx =
 zJ 4 f h λv1=>C.fn 110 (.of 110) [v1] h nx λv2 h3 n4=>zb .neq .int v2 (I 0) λv5=>K (jo.fr a b c d e f g j q s v5) h3 n4:=by kernel_rfl
theorem jo.ku:IR.run jo.t6 C N O K (jo.fr a b c d e f g j q s i) h nx =
 zK 4 a e λv1=>zJ 4 v1 h λv2=>zJ 4 d h λv3=>zJ 4 f h λv4=>C.fn 119 (.of 119) [v3,v4] h nx λv5 h6 n7=>(zJ 4 v1 h6 λvB=>zO vB v2 ((zK 4 a e λvE=>zO vE v1 (zO e e (zO a a (zO e e (zO a a (C.fn 192 (.of 192) [v2,v5] h6 n7 λv8 h9 nA=>zO e e (zO a a (zK 4 a e λvC=>zS 4 vC v8 h9 nA λvG hD nE=>K (jo.fr a b c d e f g j q s i) hD nE)))))))))):=by kernel_rfl
theorem jo.v10:Arg.ev (.t (.of 10)) ⟨(jo.fr a b c d e f g j q s i),[]⟩=i:=by kernel_rfl
theorem jo.dx:IR.run jo.t11 C N O K (jo.fr a b c d e f g j q s i) h nx =
 zb .add .int q (I 1) λv1=>K (jo.fr a b c d e f g j v1 s i) h nx:=by kernel_rfl
theorem jo.zfb (Inv:Nat->AV->T Blk->Pa->Prop) {m:Nat} (hm:m<N) (hi:Inv m q h nx)
  (step:∀ (m:Nat) (z4 z5 z8 z9 zA:AV) (h:T Blk) (nx:Pa) (R:Ks Prop),Inv m z8 h nx->(∀ (m':Nat) (w4 w5 w8 w9 wA:AV) (h':T Blk) (nx':Pa),m'<m->Inv m' w8 h' nx'->R (jo.fr a b c d w4 w5 g j w8 w9 wA) h' nx'=.ok True)->IR.run jo.t14 C N O R (jo.fr a b c d z4 z5 g j z8 z9 zA) h nx=.ok True) :
  IR.run jo.t15 C N O K (jo.fr a b c d e f g j q s i) h nx=.ok True:=by
 rw [jo.t15];refine yC (λm tm h nx=>∃ z4 z5 z8 z9 zA,tm=(jo.fr a b c d z4 z5 g j z8 z9 zA)/\Inv m z8 h nx) ?_ hm ⟨_,_,_,_,_,rfl,hi⟩;rintro m tm h nx R ⟨z4,z5,z8,z9,zA,rfl,hi⟩ hR;exact step m z4 z5 z8 z9 zA h nx R hi λm' w4 w5 w8 w9 wA h' nx' hlt hi'=>hR m' _ h' nx' hlt ⟨_,_,_,_,_,rfl,hi'⟩
theorem jo.go:zR tbl N C (.of 106) [a0,a1,a2] h nx K0=IR.run jo.t18 C N (fnO jo.res K0) (zi jo.res K0) (jo.fr a0 a1 a2 .u .u .u .u .u .u .u .u) h nx:=yE (F:=jo) (by kernel_rfl) (λ_=>by kernel_rfl) (by kernel_rfl)
theorem jo.ret:zi jo.res K0 (jo.fr a b c d e f g j q s i) h nx=K0 (.tup []) h nx:=by kernel_rfl
theorem jq.zw:IR.run jq.t0 C N O K (jq.fr a b c d e f g j q s) h nx =
 dw b h nx λv1 h2 n3=>K (jq.fr a b v1 d e f g j q s) h2 n3:=by kernel_rfl
theorem jq.zu:IR.run jq.t1 C N O K (jq.fr a b c d e f g j q s) h nx =
 sLen a λv1=>K (jq.fr a b c d e a v1 (I 0) q s) h nx:=by kernel_rfl
theorem jq.jd:IR.run jq.t2 C N O K (jq.fr a b c d e f g j q s) h nx =
 zb .lss .int j g λv1=>K (jq.fr a b c d e f g j v1 s) h nx:=by kernel_rfl
theorem jq.v8:Arg.ev (.t (.of 8)) ⟨(jq.fr a b c d e f g j q s),[]⟩=q:=by kernel_rfl
theorem jq.fG:IR.run jq.t4 C N O K (jq.fr a b c d e f g j q s) h nx =
 zK 4 f j λv1=>zJ 4 v1 h λv2=>yW [(I 0),.za,(I 0),.za] h nx λv3 h4 n5=>zS 4 v3 v2 h4 n5 λv6 h7 n8=>K (jq.fr a b c j v3 f g j q s) h7 n8:=by kernel_rfl
theorem jq.ny:IR.run jq.t5 C N O K (jq.fr a b c d e f g j q s) h nx =
 zJ 4 e h λv1=>C.fn 110 (.of 110) [v1] h nx λv2 h3 n4=>zb .neq .int v2 (I 0) λv5=>K (jq.fr a b c d e f g j q v5) h3 n4:=by kernel_rfl
theorem jq.ku:IR.run jq.t6 C N O K (jq.fr a b c d e f g j q s) h nx =
 zJ 4 e h λv1=>zJ 4 c h λv2=>C.fn 119 (.of 119) [v1,v2] h nx λv3 h4 n5=>zK 4 a d λv6=>zS 4 v6 v3 h4 n5 λv7 h8 n9=>K (jq.fr a b c d e f g j q s) h8 n9:=by kernel_rfl
theorem jq.v9:Arg.ev (.t (.of 9)) ⟨(jq.fr a b c d e f g j q s),[]⟩=s:=by kernel_rfl
theorem jq.dx:IR.run jq.t11 C N O K (jq.fr a b c d e f g j q s) h nx =
 zb .add .int j (I 1) λv1=>K (jq.fr a b c d e f g v1 q s) h nx:=by kernel_rfl
theorem jq.zfb (Inv:Nat->AV->T Blk->Pa->Prop) {m:Nat} (hm:m<N) (hi:Inv m j h nx)
  (step:∀ (m:Nat) (z3 z4 z7 z8 z9:AV) (h:T Blk) (nx:Pa) (R:Ks Prop),Inv m z7 h nx->(∀ (m':Nat) (w3 w4 w7 w8 w9:AV) (h':T Blk) (nx':Pa),m'<m->Inv m' w7 h' nx'->R (jq.fr a b c w3 w4 f g w7 w8 w9) h' nx'=.ok True)->IR.run jq.t14 C N O R (jq.fr a b c z3 z4 f g z7 z8 z9) h nx=.ok True) :
  IR.run jq.t15 C N O K (jq.fr a b c d e f g j q s) h nx=.ok True:=by
 rw [jq.t15];refine yC (λm tm h nx=>∃ z3 z4 z7 z8 z9,tm=(jq.fr a b c z3 z4 f g z7 z8 z9)/\Inv m z7 h nx) ?_ hm ⟨_,_,_,_,_,rfl,hi⟩;rintro m tm h nx R ⟨z3,z4,z7,z8,z9,rfl,hi⟩ hR;exact step m z3 z4 z7 z8 z9 h nx R hi λm' w3 w4 w7 w8 w9 h' nx' hlt hi'=>hR m' _ h' nx' hlt ⟨_,_,_,_,_,rfl,hi'⟩
theorem jq.go:zR tbl N C (.of 111) [a0,a1] h nx K0=IR.run jq.t18 C N (fnO jq.res K0) (zi jq.res K0) (jq.fr a0 a1 .u .u .u .u .u .u .u .u) h nx:=yE (F:=jq) (by kernel_rfl) (λ_=>by kernel_rfl) (by kernel_rfl)
theorem jq.ret:zi jq.res K0 (jq.fr a b c d e f g j q s) h nx=K0 (.tup []) h nx:=by kernel_rfl
theorem F49.aS (X3:IR) (C:Calls Prop) (N:Nat) (O:fD Prop) (K:Ks Prop) (a b c d e f g:AV) (h:T Blk) (nx:Pa):IR.run (F49.g2 X3) C N O K (F49.fr a b c d e f g) h nx =
 IR.run X3 C N (O.blk 0 K) K (F49.fr a b c d e f g) h nx:=by kernel_rfl
theorem F49.tab:T.get none (.of 49) tbl=some F49:=by kernel_rfl
theorem F49.go:zR tbl N C (.of 49) [a0,a1] h nx K0 =
 sLen a0 λv1=>sLen a1 λv2=>zb .neq .int v1 v2 λv3=>yP v3 (K0 (.bool false) h nx) (IR.run F49.b2 C N (fnO F49.res K0) (IR.run F49.b9 C N (fnO F49.res K0) (zi F49.res K0)) (F49.fr a0 a1 (.bool false) (I 0) v3 .u .u) h nx):=by
 rw [jL F49.tab];kernel_rfl
theorem F49.e2:IR.run F49.b4 C N ((fnO F49.res K0).blk 0 K) R (F49.fr a b c d e f g) h nx =
 sLen a λv1=>zb .lss .int d v1 λv2=>yP v2 (zK 1 a d λv3=>zH v3 h λv4=>zK 1 b d λv5=>zH v5 h λv6=>zb .neq .int v4 v6 λv7=>yP v7 (K0 (.bool false) h nx) (zb .add .int d (I 1) λv8=>R (F49.fr a b c v8 e v2 v7) h nx)) (K (F49.fr a b c d e v2 g) h nx):=by kernel_rfl
theorem F49.L2 (Inv:Nat->AV->T Blk->Pa->Prop) {m:Nat} (hm:m<N) (hi:Inv m d h nx)
  (step:∀ (m:Nat) (z2 z3 z5 z6:AV) (h:T Blk) (nx:Pa) (R:Ks Prop),Inv m z3 h nx->(∀ (m':Nat) (w2 w3 w5 w6:AV) (h':T Blk) (nx':Pa),m'<m->Inv m' w3 h' nx'->R (F49.fr a b w2 w3 e w5 w6) h' nx'=.ok True) ->
   (sLen a λv1=>zb .lss .int z3 v1 λv2=>yP v2 (zK 1 a z3 λv3=>zH v3 h λv4=>zK 1 b z3 λv5=>zH v5 h λv6=>zb .neq .int v4 v6 λv7=>yP v7 (K0 (.bool false) h nx) (zb .add .int z3 (I 1) λv8=>R (F49.fr a b z2 v8 e v2 v7) h nx)) (K (F49.fr a b z2 z3 e v2 z6) h nx))=.ok True) :
  IR.run F49.b2 C N (fnO F49.res K0) K (F49.fr a b c d e f g) h nx=.ok True:=by
 rw [F49.b2,F49.aS,F49.b3];refine yC (λm tm h nx=>∃ z2 z3 z5 z6,tm=(F49.fr a b z2 z3 e z5 z6)/\Inv m z3 h nx) ?_ hm ⟨_,_,_,_,rfl,hi⟩;rintro m tm h nx R ⟨z2,z3,z5,z6,rfl,hi⟩ hR;rw [F49.e2];exact step m z2 z3 z5 z6 h nx R hi λm' w2 w3 w5 w6 h' nx' hlt hi'=>hR m' _ h' nx' hlt ⟨_,_,_,_,rfl,hi'⟩
theorem F49.k9:IR.run F49.b9 C N (fnO F49.res K0) K (F49.fr a b c d e f g) h nx =
 K0 (.bool true) h nx:=by kernel_rfl
theorem aC.tab:T.get none (.of 176) tbl=some aC:=by kernel_rfl
theorem aC.go:zR tbl N C (.of 176) [a0,a1] h nx K0 =
 zH a1 h λv1=>C.fn 177 (.of 177) [a0,v1] h nx λv2 h3 n4=>K0 v2 h3 n4:=by
 rw [jL aC.tab];kernel_rfl
theorem aD.tab:T.get none (.of 175) tbl=some aD:=by kernel_rfl
theorem aD.go:zR tbl N C (.of 175) [a0,a1] h nx K0 =
 C.fn 245 (.of 245) [a0,a1] h nx λv1 h2 n3=>zb .geq .int v1 (I 0) λv4=>K0 v4 h2 n3:=by
 rw [jL aD.tab];kernel_rfl
theorem wz.oK (X2:IR) (C:Calls Prop) (N:Nat) (O:fD Prop) (K:Ks Prop) (a b c d e f g j:AV) (h:T Blk) (nx:Pa):IR.run (wz.g1 X2) C N O K (wz.fr a b c d e f g j) h nx =
 IR.run X2 C N (O.blk 0 K) K (wz.fr a b c d e f g j) h nx:=by kernel_rfl
theorem wz.tab:T.get none (.of 245) tbl=some wz:=by kernel_rfl
theorem wz.go:zR tbl N C (.of 245) [a0,a1] h nx K0 =
 sLen a0 λv1=>IR.run wz.b1 C N (fnO wz.res K0) (IR.run wz.b8 C N (fnO wz.res K0) (zi wz.res K0)) (wz.fr a0 a1 (I 0) .u v1 (I 0) .u .u) h nx:=by
 rw [jL wz.tab];kernel_rfl
theorem wz.e1:IR.run wz.b3 C N ((fnO wz.res K0).blk 0 K) R (wz.fr a b c d e f g j) h nx =
 zb .lss .int f e λv1=>yP v1 (zK 1 a f λv2=>zH v2 h λv3=>oL C b [v3] h nx λv4 h5 n6=>yP v4 (K0 f h5 n6) (zb .add .int f (I 1) λv7=>R (wz.fr a b c f e v7 v1 v4) h5 n6)) (K (wz.fr a b c d e f v1 j) h nx):=by kernel_rfl
theorem wz.L1 (Inv:Nat->AV->T Blk->Pa->Prop) {m:Nat} (hm:m<N) (hi:Inv m f h nx)
  (step:∀ (m:Nat) (z2 z3 z5 z6 z7:AV) (h:T Blk) (nx:Pa) (R:Ks Prop),Inv m z5 h nx->(∀ (m':Nat) (w2 w3 w5 w6 w7:AV) (h':T Blk) (nx':Pa),m'<m->Inv m' w5 h' nx'->R (wz.fr a b w2 w3 e w5 w6 w7) h' nx'=.ok True) ->
   (zb .lss .int z5 e λv1=>yP v1 (zK 1 a z5 λv2=>zH v2 h λv3=>oL C b [v3] h nx λv4 h5 n6=>yP v4 (K0 z5 h5 n6) (zb .add .int z5 (I 1) λv7=>R (wz.fr a b z2 z5 e v7 v1 v4) h5 n6)) (K (wz.fr a b z2 z3 e z5 v1 z7) h nx))=.ok True) :
  IR.run wz.b1 C N (fnO wz.res K0) K (wz.fr a b c d e f g j) h nx=.ok True:=by
 rw [wz.b1,wz.oK,wz.b2];refine yC (λm tm h nx=>∃ z2 z3 z5 z6 z7,tm=(wz.fr a b z2 z3 e z5 z6 z7)/\Inv m z5 h nx) ?_ hm ⟨_,_,_,_,_,rfl,hi⟩;rintro m tm h nx R ⟨z2,z3,z5,z6,z7,rfl,hi⟩ hR;rw [wz.e1];exact step m z2 z3 z5 z6 z7 h nx R hi λm' w2 w3 w5 w6 w7 h' nx' hlt hi'=>hR m' _ h' nx' hlt ⟨_,_,_,_,_,rfl,hi'⟩
theorem wz.k8:IR.run wz.b8 C N (fnO wz.res K0) K (wz.fr a b c d e f g j) h nx =
 K0 (I (-1)) h nx:=by kernel_rfl
theorem xg.aS (X3:IR) (C:Calls Prop) (N:Nat) (O:fD Prop) (K:Ks Prop) (a b c d e f g j q:AV) (h:T Blk) (nx:Pa):IR.run (xg.g2 X3) C N O K (xg.fr a b c d e f g j q) h nx =
 IR.run X3 C N (O.blk 0 K) K (xg.fr a b c d e f g j q) h nx:=by kernel_rfl
theorem xg.tab:T.get none (.of 177) tbl=some xg:=by kernel_rfl
theorem xg.go:zR tbl N C (.of 177) [a0,a1] h nx K0 =
 sLen a0 λv1=>sLen a1 λv2=>zb .neq .int v1 v2 λv3=>yP v3 (K0 (.bool false) h nx) (sLen a0 λv4=>IR.run xg.b2 C N (fnO xg.res K0) (IR.run xg.b9 C N (fnO xg.res K0) (zi xg.res K0)) (xg.fr a0 a1 (.bool false) .u v3 v4 (I 0) .u .u) h nx):=by
 rw [jL xg.tab];kernel_rfl
theorem xg.e2:IR.run xg.b4 C N ((fnO xg.res K0).blk 0 K) R (xg.fr a b c d e f g j q) h nx =
 zb .lss .int g f λv1=>yP v1 (zK 1 a g λv2=>zH v2 h λv3=>zK 1 b g λv4=>zH v4 h λv5=>zb .neq .int v3 v5 λv6=>yP v6 (K0 (.bool false) h nx) (zb .add .int g (I 1) λv7=>R (xg.fr a b c g e f v7 v1 v6) h nx)) (K (xg.fr a b c d e f g v1 q) h nx):=by kernel_rfl
theorem xg.L2 (Inv:Nat->AV->T Blk->Pa->Prop) {m:Nat} (hm:m<N) (hi:Inv m g h nx)
  (step:∀ (m:Nat) (z2 z3 z6 z7 z8:AV) (h:T Blk) (nx:Pa) (R:Ks Prop),Inv m z6 h nx->(∀ (m':Nat) (w2 w3 w6 w7 w8:AV) (h':T Blk) (nx':Pa),m'<m->Inv m' w6 h' nx'->R (xg.fr a b w2 w3 e f w6 w7 w8) h' nx'=.ok True) ->
   (zb .lss .int z6 f λv1=>yP v1 (zK 1 a z6 λv2=>zH v2 h λv3=>zK 1 b z6 λv4=>zH v4 h λv5=>zb .neq .int v3 v5 λv6=>yP v6 (K0 (.bool false) h nx) (zb .add .int z6 (I 1) λv7=>R (xg.fr a b z2 z6 e f v7 v1 v6) h nx)) (K (xg.fr a b z2 z3 e f z6 v1 z8) h nx))=.ok True) :
  IR.run xg.b2 C N (fnO xg.res K0) K (xg.fr a b c d e f g j q) h nx=.ok True:=by
 rw [xg.b2,xg.aS,xg.b3];refine yC (λm tm h nx=>∃ z2 z3 z6 z7 z8,tm=(xg.fr a b z2 z3 e f z6 z7 z8)/\Inv m z6 h nx) ?_ hm ⟨_,_,_,_,_,rfl,hi⟩;rintro m tm h nx R ⟨z2,z3,z6,z7,z8,rfl,hi⟩ hR;rw [xg.e2];exact step m z2 z3 z6 z7 z8 h nx R hi λm' w2 w3 w6 w7 w8 h' nx' hlt hi'=>hR m' _ h' nx' hlt ⟨_,_,_,_,_,rfl,hi'⟩
theorem xg.k9:IR.run xg.b9 C N (fnO xg.res K0) K (xg.fr a b c d e f g j q) h nx =
 K0 (.bool true) h nx:=by kernel_rfl
theorem F90.oK (X2:IR) (C:Calls Prop) (N:Nat) (O:fD Prop) (K:Ks Prop) (a b c d e f:AV) (h:T Blk) (nx:Pa):IR.run (F90.g1 X2) C N O K (F90.fr a b c d e f) h nx =
 IR.run X2 C N (O.blk 0 K) K (F90.fr a b c d e f) h nx:=by kernel_rfl
theorem F90.tab:T.get none (.of 90) tbl=some F90:=by kernel_rfl
theorem F90.go:zR tbl N C (.of 90) [a0,a1] h nx K0 =
 IR.run F90.b1 C N (fnO F90.res K0) (IR.run F90.b8 C N (fnO F90.res K0) (zi F90.res K0)) (F90.fr a0 a1 (.bool false) (I 0) .u .u) h nx:=by
 rw [jL F90.tab];kernel_rfl
theorem F90.e1:IR.run F90.b3 C N ((fnO F90.res K0).blk 0 K) R (F90.fr a b c d e f) h nx =
 sLen a λv1=>zb .lss .int d v1 λv2=>yP v2 (zK 1 a d λv3=>zH v3 h λv4=>C.fn 49 (.of 49) [v4,b] h nx λv5 h6 n7=>yP v5 (K0 (.bool true) h6 n7) (zb .add .int d (I 1) λv8=>R (F90.fr a b c v8 v2 v5) h6 n7)) (K (F90.fr a b c d v2 f) h nx):=by kernel_rfl
theorem F90.L1 (Inv:Nat->AV->T Blk->Pa->Prop) {m:Nat} (hm:m<N) (hi:Inv m d h nx)
  (step:∀ (m:Nat) (z2 z3 z4 z5:AV) (h:T Blk) (nx:Pa) (R:Ks Prop),Inv m z3 h nx->(∀ (m':Nat) (w2 w3 w4 w5:AV) (h':T Blk) (nx':Pa),m'<m->Inv m' w3 h' nx'->R (F90.fr a b w2 w3 w4 w5) h' nx'=.ok True) ->
   (sLen a λv1=>zb .lss .int z3 v1 λv2=>yP v2 (zK 1 a z3 λv3=>zH v3 h λv4=>C.fn 49 (.of 49) [v4,b] h nx λv5 h6 n7=>yP v5 (K0 (.bool true) h6 n7) (zb .add .int z3 (I 1) λv8=>R (F90.fr a b z2 v8 v2 v5) h6 n7)) (K (F90.fr a b z2 z3 v2 z5) h nx))=.ok True) :
  IR.run F90.b1 C N (fnO F90.res K0) K (F90.fr a b c d e f) h nx=.ok True:=by
 rw [F90.b1,F90.oK,F90.b2];refine yC (λm tm h nx=>∃ z2 z3 z4 z5,tm=(F90.fr a b z2 z3 z4 z5)/\Inv m z3 h nx) ?_ hm ⟨_,_,_,_,rfl,hi⟩;rintro m tm h nx R ⟨z2,z3,z4,z5,rfl,hi⟩ hR;rw [F90.e1];exact step m z2 z3 z4 z5 h nx R hi λm' w2 w3 w4 w5 h' nx' hlt hi'=>hR m' _ h' nx' hlt ⟨_,_,_,_,rfl,hi'⟩
theorem F90.k8:IR.run F90.b8 C N (fnO F90.res K0) K (F90.fr a b c d e f) h nx =
 K0 (.bool false) h nx:=by kernel_rfl
theorem F86.oK (X2:IR) (C:Calls Prop) (N:Nat) (O:fD Prop) (K:Ks Prop) (a b c d e f g j:AV) (h:T Blk) (nx:Pa):IR.run (F86.g1 X2) C N O K (F86.fr a b c d e f g j) h nx =
 IR.run X2 C N (O.blk 0 K) K (F86.fr a b c d e f g j) h nx:=by kernel_rfl
theorem F86.tab:T.get none (.of 86) tbl=some F86:=by kernel_rfl
theorem F86.go:zR tbl N C (.of 86) [a0] h nx K0 =
 sLen a0 λv1=>IR.run F86.b1 C N (fnO F86.res K0) (IR.run F86.b8 C N (fnO F86.res K0) (zi F86.res K0)) (F86.fr a0 (I 0) .u a0 v1 (I 0) .u .u) h nx:=by
 rw [jL F86.tab];kernel_rfl
theorem F86.e1:IR.run F86.b3 C N ((fnO F86.res K0).blk 0 K) R (F86.fr a b c d e f g j) h nx =
 zb .lss .int f e λv1=>yP v1 (zK 1 d f λv2=>zH v2 h λv3=>zb .neq .int v3 (I 0) λv4=>yP v4 (K0 v3 h nx) (zb .add .int f (I 1) λv5=>R (F86.fr a b v3 d e v5 v1 v4) h nx)) (K (F86.fr a b c d e f v1 j) h nx):=by kernel_rfl
theorem F86.L1 (Inv:Nat->AV->T Blk->Pa->Prop) {m:Nat} (hm:m<N) (hi:Inv m f h nx)
  (step:∀ (m:Nat) (z1 z2 z5 z6 z7:AV) (h:T Blk) (nx:Pa) (R:Ks Prop),Inv m z5 h nx->(∀ (m':Nat) (w1 w2 w5 w6 w7:AV) (h':T Blk) (nx':Pa),m'<m->Inv m' w5 h' nx'->R (F86.fr a w1 w2 d e w5 w6 w7) h' nx'=.ok True) ->
   (zb .lss .int z5 e λv1=>yP v1 (zK 1 d z5 λv2=>zH v2 h λv3=>zb .neq .int v3 (I 0) λv4=>yP v4 (K0 v3 h nx) (zb .add .int z5 (I 1) λv5=>R (F86.fr a z1 v3 d e v5 v1 v4) h nx)) (K (F86.fr a z1 z2 d e z5 v1 z7) h nx))=.ok True) :
  IR.run F86.b1 C N (fnO F86.res K0) K (F86.fr a b c d e f g j) h nx=.ok True:=by
 rw [F86.b1,F86.oK,F86.b2];refine yC (λm tm h nx=>∃ z1 z2 z5 z6 z7,tm=(F86.fr a z1 z2 d e z5 z6 z7)/\Inv m z5 h nx) ?_ hm ⟨_,_,_,_,_,rfl,hi⟩;rintro m tm h nx R ⟨z1,z2,z5,z6,z7,rfl,hi⟩ hR;rw [F86.e1];exact step m z1 z2 z5 z6 z7 h nx R hi λm' w1 w2 w5 w6 w7 h' nx' hlt hi'=>hR m' _ h' nx' hlt ⟨_,_,_,_,_,rfl,hi'⟩
theorem F86.k8:IR.run F86.b8 C N (fnO F86.res K0) K (F86.fr a b c d e f g j) h nx =
 K0 (I 0) h nx:=by kernel_rfl
theorem F88.tab:T.get none (.of 88) tbl=some F88:=by kernel_rfl
theorem F88.go:zR tbl N C (.of 88) [a0,a1] h nx K0 =
 yP a0 (K0 a1 h nx) (K0 (I 0) h nx):=by
 rw [jL F88.tab];kernel_rfl
theorem F16.aS (X3:IR) (C:Calls Prop) (N:Nat) (O:fD Prop) (K:Ks Prop) (a b c d e f g j q:AV) (h:T Blk) (nx:Pa):IR.run (F16.g2 X3) C N O K (F16.fr a b c d e f g j q) h nx =
 IR.run X3 C N (O.blk 0 K) K (F16.fr a b c d e f g j q) h nx:=by kernel_rfl
theorem F16.tab:T.get none (.of 16) tbl=some F16:=by kernel_rfl
theorem F16.go:zR tbl N C (.of 16) [a0,a1,a2] h nx K0 =
 dw a0 h nx λv1 h2 n3=>zL 1 v1 λv4=>zH v4 h2 λv5=>sLen v5 λv6=>zb .gtr .int v6 a2 λv7=>yP v7 (K0 (.bool false) h2 n3) (IR.run F16.b2 C N (fnO F16.res K0) (IR.run F16.b9 C N (fnO F16.res K0) (zi F16.res K0)) (F16.fr a0 a1 a2 v1 (.bool false) (I 0) v7 .u .u) h2 n3):=by
 rw [jL F16.tab];kernel_rfl
theorem F16.e2:IR.run F16.b4 C N ((fnO F16.res K0).blk 0 K) R (F16.fr a b c d e f g j q) h nx =
 zL 1 d λv1=>zH v1 h λv2=>sLen v2 λv3=>zb .lss .int f v3 λv4=>yP v4 (zL 1 d λv5=>zH v5 h λv6=>zK 1 v6 f λv7=>zH v7 h λv8=>sLen v8 λv9=>zb .gtr .int v9 b λvF=>yP vF (K0 (.bool false) h nx) (zb .add .int f (I 1) λvC=>R (F16.fr a b c d e vC g v4 vF) h nx)) (K (F16.fr a b c d e f g v4 q) h nx):=by kernel_rfl
theorem F16.L2 (Inv:Nat->AV->T Blk->Pa->Prop) {m:Nat} (hm:m<N) (hi:Inv m f h nx)
  (step:∀ (m:Nat) (z4 z5 z7 z8:AV) (h:T Blk) (nx:Pa) (R:Ks Prop),Inv m z5 h nx->(∀ (m':Nat) (w4 w5 w7 w8:AV) (h':T Blk) (nx':Pa),m'<m->Inv m' w5 h' nx'->R (F16.fr a b c d w4 w5 g w7 w8) h' nx'=.ok True) ->
   (zL 1 d λv1=>zH v1 h λv2=>sLen v2 λv3=>zb .lss .int z5 v3 λv4=>yP v4 (zL 1 d λv5=>zH v5 h λv6=>zK 1 v6 z5 λv7=>zH v7 h λv8=>sLen v8 λv9=>zb .gtr .int v9 b λvF=>yP vF (K0 (.bool false) h nx) (zb .add .int z5 (I 1) λvC=>R (F16.fr a b c d z4 vC g v4 vF) h nx)) (K (F16.fr a b c d z4 z5 g v4 z8) h nx))=.ok True) :
  IR.run F16.b2 C N (fnO F16.res K0) K (F16.fr a b c d e f g j q) h nx=.ok True:=by
 rw [F16.b2,F16.aS,F16.b3];refine yC (λm tm h nx=>∃ z4 z5 z7 z8,tm=(F16.fr a b c d z4 z5 g z7 z8)/\Inv m z5 h nx) ?_ hm ⟨_,_,_,_,rfl,hi⟩;rintro m tm h nx R ⟨z4,z5,z7,z8,rfl,hi⟩ hR;rw [F16.e2];exact step m z4 z5 z7 z8 h nx R hi λm' w4 w5 w7 w8 h' nx' hlt hi'=>hR m' _ h' nx' hlt ⟨_,_,_,_,rfl,hi'⟩
theorem F16.k9:IR.run F16.b9 C N (fnO F16.res K0) K (F16.fr a b c d e f g j q) h nx =
 K0 (.bool true) h nx:=by kernel_rfl
theorem F19.zu7 (X11:IR) (C:Calls Prop) (N:Nat) (O:fD Prop) (K:Ks Prop) (a b c d e f g j q s i l p o:AV) (h:T Blk) (nx:Pa):IR.run (F19.g10 X11) C N O K (F19.fr a b c d e f g j q s i l p o) h nx =
 IR.run X11 C N (O.blk 2 K) K (F19.fr a b c d e f g j q s i l p o) h nx:=by kernel_rfl
theorem F19.zxl (X4:IR) (C:Calls Prop) (N:Nat) (O:fD Prop) (K:Ks Prop) (a b c d e f g j q s i l p o:AV) (h:T Blk) (nx:Pa):IR.run (F19.g3 X4) C N O K (F19.fr a b c d e f g j q s i l p o) h nx =
 IR.run X4 C N (O.blk 0 K) K (F19.fr a b c d e f g j q s i l p o) h nx:=by kernel_rfl
theorem F19.tab:T.get none (.of 19) tbl=some F19:=by kernel_rfl
theorem F19.go:zR tbl N C (.of 19) [a0] h nx K0 =
 dw a0 h nx λv1 h2 n3=>zL 0 v1 λv4=>zH v4 h2 λv5=>zb .lss .int v5 (I 1) λv6=>sG v6 false (λk=>zL 0 v1 k) λv7=>sG v6 false (λk=>zH v7 h2 k) λv8=>sG v6 false (λk=>zb .gtr .int v8 (I 256) k) λv9=>yZ v6 (.bool true) v9 λvF=>yP vF (K0 (I 3) h2 n3) (zL 1 v1 λvC=>zH vC h2 λvG=>sLen vG λvH=>zb .gtr .int vH (I 128) λvD=>yP vD (K0 (I 5) h2 n3) (IR.run F19.b3 C N (fnO F19.res K0) (IR.run F19.b20 C N (fnO F19.res K0) (zi F19.res K0)) (F19.fr a0 v1 (I 0) (I 0) .u .u vF vD .u .u .u .u .u .u) h2 n3)):=by
 rw [jL F19.tab];kernel_rfl
theorem F19.e3:IR.run F19.b5 C N ((fnO F19.res K0).blk 0 K) R (F19.fr a b c d e f g j q s i l p o) h nx =
 zL 1 b λv1=>zH v1 h λv2=>sLen v2 λv3=>zb .lss .int d v3 λv4=>yP v4 (zL 1 b λv5=>zH v5 h λv6=>zK 1 v6 d λv7=>zH v7 h λv8=>sLen v8 λv9=>zb .eql .int v9 (I 0) λvF=>yP vF (K0 (I 12) h nx) (IR.run F19.b10 C N (((fnO F19.res K0).blk 0 K).blk 1 (IR.run F19.b19 C N ((fnO F19.res K0).blk 0 K) R)) (IR.run F19.b18 C N (((fnO F19.res K0).blk 0 K).blk 1 (IR.run F19.b19 C N ((fnO F19.res K0).blk 0 K) R)) (IR.run F19.b19 C N ((fnO F19.res K0).blk 0 K) R)) (F19.fr a b c d v8 (I 0) g j v4 vF i l p o) h nx)) (K (F19.fr a b c d e f g j v4 s i l p o) h nx):=by kernel_rfl
theorem F19.L3 (Inv:Nat->AV->T Blk->Pa->Prop) {m:Nat} (hm:m<N) (hi:Inv m d h nx)
  (step:∀ (m:Nat) (z2 z3 z4 z5 z8 z9 zA zB zC zD:AV) (h:T Blk) (nx:Pa) (R:Ks Prop),Inv m z3 h nx->(∀ (m':Nat) (w2 w3 w4 w5 w8 w9 wA wB wC wD:AV) (h':T Blk) (nx':Pa),m'<m->Inv m' w3 h' nx'->R (F19.fr a b w2 w3 w4 w5 g j w8 w9 wA wB wC wD) h' nx'=.ok True) ->
   (zL 1 b λv1=>zH v1 h λv2=>sLen v2 λv3=>zb .lss .int z3 v3 λv4=>yP v4 (zL 1 b λv5=>zH v5 h λv6=>zK 1 v6 z3 λv7=>zH v7 h λv8=>sLen v8 λv9=>zb .eql .int v9 (I 0) λvF=>yP vF (K0 (I 12) h nx) (IR.run F19.b10 C N (((fnO F19.res K0).blk 0 K).blk 1 (IR.run F19.b19 C N ((fnO F19.res K0).blk 0 K) R)) (IR.run F19.b18 C N (((fnO F19.res K0).blk 0 K).blk 1 (IR.run F19.b19 C N ((fnO F19.res K0).blk 0 K) R)) (IR.run F19.b19 C N ((fnO F19.res K0).blk 0 K) R)) (F19.fr a b z2 z3 v8 (I 0) g j v4 vF zA zB zC zD) h nx)) (K (F19.fr a b z2 z3 z4 z5 g j v4 z9 zA zB zC zD) h nx))=.ok True) :
  IR.run F19.b3 C N (fnO F19.res K0) K (F19.fr a b c d e f g j q s i l p o) h nx=.ok True:=by
 rw [F19.b3,F19.zxl,F19.b4];refine yC (λm tm h nx=>∃ z2 z3 z4 z5 z8 z9 zA zB zC zD,tm=(F19.fr a b z2 z3 z4 z5 g j z8 z9 zA zB zC zD)/\Inv m z3 h nx) ?_ hm ⟨_,_,_,_,_,_,_,_,_,_,rfl,hi⟩;rintro m tm h nx R ⟨z2,z3,z4,z5,z8,z9,zA,zB,zC,zD,rfl,hi⟩ hR;rw [F19.e3];exact step m z2 z3 z4 z5 z8 z9 zA zB zC zD h nx R hi λm' w2 w3 w4 w5 w8 w9 wA wB wC wD h' nx' hlt hi'=>hR m' _ h' nx' hlt ⟨_,_,_,_,_,_,_,_,_,_,rfl,hi'⟩
theorem F19.k20:IR.run F19.b20 C N (fnO F19.res K0) K (F19.fr a b c d e f g j q s i l p o) h nx =
 K0 (I 0) h nx:=by kernel_rfl
theorem F19.k19 {E0:Ks Prop}:IR.run F19.b19 C N ((fnO F19.res K0).blk 0 E0) K (F19.fr a b c d e f g j q s i l p o) h nx =
 zb .add .int d (I 1) λv1=>K (F19.fr a b c v1 e f g j q s i l p o) h nx:=by kernel_rfl
theorem F19.e10 {E0 E1:Ks Prop}:IR.run F19.b12 C N ((((fnO F19.res K0).blk 0 E0).blk 1 E1).blk 2 K) R (F19.fr a b c d e f g j q s i l p o) h nx =
 sLen e λv1=>zb .lss .int f v1 λv2=>yP v2 (zK 1 e f λv3=>zH v3 h λv4=>zb .lss .int v4 (I 0) λv5=>sG v5 false (λk=>k e) λv6=>sG v5 false (λk=>k f) λv7=>sG v5 false (λk=>zK 1 v6 v7 k) λv8=>sG v5 false (λk=>zH v8 h k) λv9=>sG v5 false (λk=>zL 0 b k) λvF=>sG v5 false (λk=>zH vF h k) λvC=>sG v5 false (λk=>zb .geq .int v9 vC k) λvG=>yZ v5 (.bool true) vG λvH=>yP vH (K0 (I 10) h nx) ((IR.run F19.b16 C N (((((fnO F19.res K0).blk 0 E0).blk 1 E1).blk 2 K).blk 3 (IR.run F19.b17 C N ((((fnO F19.res K0).blk 0 E0).blk 1 E1).blk 2 K) R)) (IR.run F19.b17 C N ((((fnO F19.res K0).blk 0 E0).blk 1 E1).blk 2 K) R)) (F19.fr a b c d e f g j q s v2 vH p o) h nx)) (K (F19.fr a b c d e f g j q s v2 l p o) h nx):=by kernel_rfl
theorem F19.L10 {E0 E1:Ks Prop} (Inv:Nat->AV->T Blk->Pa->Prop) {m:Nat} (hm:m<N) (hi:Inv m f h nx)
  (step:∀ (m:Nat) (z2 z5 zA zB zC:AV) (h:T Blk) (nx:Pa) (R:Ks Prop),Inv m z5 h nx->(∀ (m':Nat) (w2 w5 wA wB wC:AV) (h':T Blk) (nx':Pa),m'<m->Inv m' w5 h' nx'->R (F19.fr a b w2 d e w5 g j q s wA wB wC o) h' nx'=.ok True) ->
   (sLen e λv1=>zb .lss .int z5 v1 λv2=>yP v2 (zK 1 e z5 λv3=>zH v3 h λv4=>zb .lss .int v4 (I 0) λv5=>sG v5 false (λk=>k e) λv6=>sG v5 false (λk=>k z5) λv7=>sG v5 false (λk=>zK 1 v6 v7 k) λv8=>sG v5 false (λk=>zH v8 h k) λv9=>sG v5 false (λk=>zL 0 b k) λvF=>sG v5 false (λk=>zH vF h k) λvC=>sG v5 false (λk=>zb .geq .int v9 vC k) λvG=>yZ v5 (.bool true) vG λvH=>yP vH (K0 (I 10) h nx) ((IR.run F19.b16 C N (((((fnO F19.res K0).blk 0 E0).blk 1 E1).blk 2 K).blk 3 (IR.run F19.b17 C N ((((fnO F19.res K0).blk 0 E0).blk 1 E1).blk 2 K) R)) (IR.run F19.b17 C N ((((fnO F19.res K0).blk 0 E0).blk 1 E1).blk 2 K) R)) (F19.fr a b z2 d e z5 g j q s v2 vH zC o) h nx)) (K (F19.fr a b z2 d e z5 g j q s v2 zB zC o) h nx))=.ok True) :
  IR.run F19.b10 C N (((fnO F19.res K0).blk 0 E0).blk 1 E1) K (F19.fr a b c d e f g j q s i l p o) h nx=.ok True:=by
 rw [F19.b10,F19.zu7,F19.b11];refine yC (λm tm h nx=>∃ z2 z5 zA zB zC,tm=(F19.fr a b z2 d e z5 g j q s zA zB zC o)/\Inv m z5 h nx) ?_ hm ⟨_,_,_,_,_,rfl,hi⟩;rintro m tm h nx R ⟨z2,z5,zA,zB,zC,rfl,hi⟩ hR;rw [F19.e10];exact step m z2 z5 zA zB zC h nx R hi λm' w2 w5 wA wB wC h' nx' hlt hi'=>hR m' _ h' nx' hlt ⟨_,_,_,_,_,rfl,hi'⟩
theorem F19.k18 {E0 E1:Ks Prop}:IR.run F19.b18 C N (((fnO F19.res K0).blk 0 E0).blk 1 E1) K (F19.fr a b c d e f g j q s i l p o) h nx =
 zL 1 b λv1=>zH v1 h λv2=>qP 1 v2 none (some d) none λv3=>C.fn 90 (.of 90) [v3,e] h nx λv4 h5 n6=>yP v4 (K0 (I 9) h5 n6) (K (F19.fr a b c d e f g j q s i l p v4) h5 n6):=by kernel_rfl
theorem F19.k17 {E0 E1 E2:Ks Prop}:IR.run F19.b17 C N ((((fnO F19.res K0).blk 0 E0).blk 1 E1).blk 2 E2) K (F19.fr a b c d e f g j q s i l p o) h nx =
 zb .add .int f (I 1) λv1=>K (F19.fr a b c d e v1 g j q s i l p o) h nx:=by kernel_rfl
theorem F19.k16 {E0 E1 E2 E3:Ks Prop}:IR.run F19.b16 C N (((((fnO F19.res K0).blk 0 E0).blk 1 E1).blk 2 E2).blk 3 E3) K (F19.fr a b c d e f g j q s i l p o) h nx =
 zb .gtr .int f (I 0) λv1=>sG v1 true (λk=>k e) λv2=>sG v1 true (λk=>k f) λv3=>sG v1 true (λk=>zK 1 v2 v3 k) λv4=>sG v1 true (λk=>zH v4 h k) λv5=>sG v1 true (λk=>k e) λv6=>sG v1 true (λk=>k f) λv7=>sG v1 true (λk=>zb .sub .int v7 (I 1) k) λv8=>sG v1 true (λk=>zK 1 v6 v8 k) λv9=>sG v1 true (λk=>zH v9 h k) λvF=>sG v1 true (λk=>zb .leq .int v5 vF k) λvC=>yZ v1 vC (.bool false) λvG=>yP vG (K0 (I 11) h nx) (K (F19.fr a b c d e f g j q s i l vG o) h nx):=by kernel_rfl
theorem F87.tab:T.get none (.of 87) tbl=some F87:=by kernel_rfl
theorem F87.go:zR tbl N C (.of 87) [a0,a1,a2] h nx K0 =
 dw a0 h nx λv1 h2 n3=>dw a1 h2 n3 λv4 h5 n6=>C.fn 173 (.of 173) [a2,(.fn 174 (.of 174) [v1,v4])] h5 n6 λv7 h8 n9=>C.fn 88 (.of 88) [v7,(I 3)] h8 n9 λvF hB nC=>K0 vF hB nC:=by
 rw [jL F87.tab];kernel_rfl
theorem aF.tab:T.get none (.of 174) tbl=some aF:=by kernel_rfl
theorem aF.go:zR tbl N C (.of 174) [a0,a1,a2] h nx K0 =
 zH a1 h λv1=>zb .lss .int a0 v1 λv2=>sG v2 false (λk=>k a0) λv3=>sG v2 false (λk=>zH a2 h k) λv4=>sG v2 false (λk=>zb .gtr .int v3 v4 k) λv5=>yZ v2 (.bool true) v5 λv6=>K0 v6 h nx:=by
 rw [jL aF.tab];kernel_rfl
theorem aG.tab:T.get none (.of 173) tbl=some aG:=by kernel_rfl
theorem aG.go:zR tbl N C (.of 173) [a0,a1] h nx K0 =
 C.fn 184 (.of 184) [a0,a1] h nx λv1 h2 n3=>zb .geq .int v1 (I 0) λv4=>K0 v4 h2 n3:=by
 rw [jL aG.tab];kernel_rfl
theorem xh.oK (X2:IR) (C:Calls Prop) (N:Nat) (O:fD Prop) (K:Ks Prop) (a b c d e f g j:AV) (h:T Blk) (nx:Pa):IR.run (xh.g1 X2) C N O K (xh.fr a b c d e f g j) h nx =
 IR.run X2 C N (O.blk 0 K) K (xh.fr a b c d e f g j) h nx:=by kernel_rfl
theorem xh.tab:T.get none (.of 184) tbl=some xh:=by kernel_rfl
theorem xh.go:zR tbl N C (.of 184) [a0,a1] h nx K0 =
 sLen a0 λv1=>IR.run xh.b1 C N (fnO xh.res K0) (IR.run xh.b8 C N (fnO xh.res K0) (zi xh.res K0)) (xh.fr a0 a1 (I 0) .u v1 (I 0) .u .u) h nx:=by
 rw [jL xh.tab];kernel_rfl
theorem xh.e1:IR.run xh.b3 C N ((fnO xh.res K0).blk 0 K) R (xh.fr a b c d e f g j) h nx =
 zb .lss .int f e λv1=>yP v1 (zK 1 a f λv2=>zH v2 h λv3=>oL C b [v3] h nx λv4 h5 n6=>yP v4 (K0 f h5 n6) (zb .add .int f (I 1) λv7=>R (xh.fr a b c f e v7 v1 v4) h5 n6)) (K (xh.fr a b c d e f v1 j) h nx):=by kernel_rfl
theorem xh.L1 (Inv:Nat->AV->T Blk->Pa->Prop) {m:Nat} (hm:m<N) (hi:Inv m f h nx)
  (step:∀ (m:Nat) (z2 z3 z5 z6 z7:AV) (h:T Blk) (nx:Pa) (R:Ks Prop),Inv m z5 h nx->(∀ (m':Nat) (w2 w3 w5 w6 w7:AV) (h':T Blk) (nx':Pa),m'<m->Inv m' w5 h' nx'->R (xh.fr a b w2 w3 e w5 w6 w7) h' nx'=.ok True) ->
   (zb .lss .int z5 e λv1=>yP v1 (zK 1 a z5 λv2=>zH v2 h λv3=>oL C b [v3] h nx λv4 h5 n6=>yP v4 (K0 z5 h5 n6) (zb .add .int z5 (I 1) λv7=>R (xh.fr a b z2 z5 e v7 v1 v4) h5 n6)) (K (xh.fr a b z2 z3 e z5 v1 z7) h nx))=.ok True) :
  IR.run xh.b1 C N (fnO xh.res K0) K (xh.fr a b c d e f g j) h nx=.ok True:=by
 rw [xh.b1,xh.oK,xh.b2];refine yC (λm tm h nx=>∃ z2 z3 z5 z6 z7,tm=(xh.fr a b z2 z3 e z5 z6 z7)/\Inv m z5 h nx) ?_ hm ⟨_,_,_,_,_,rfl,hi⟩;rintro m tm h nx R ⟨z2,z3,z5,z6,z7,rfl,hi⟩ hR;rw [xh.e1];exact step m z2 z3 z5 z6 z7 h nx R hi λm' w2 w3 w5 w6 w7 h' nx' hlt hi'=>hR m' _ h' nx' hlt ⟨_,_,_,_,_,rfl,hi'⟩
theorem xh.k8:IR.run xh.b8 C N (fnO xh.res K0) K (xh.fr a b c d e f g j) h nx =
 K0 (I (-1)) h nx:=by kernel_rfl
theorem F18.aS (X3:IR) (C:Calls Prop) (N:Nat) (O:fD Prop) (K:Ks Prop) (a b c d e f g j q s i:AV) (h:T Blk) (nx:Pa):IR.run (F18.g2 X3) C N O K (F18.fr a b c d e f g j q s i) h nx =
 IR.run X3 C N (O.blk 0 K) K (F18.fr a b c d e f g j q s i) h nx:=by kernel_rfl
theorem F18.tab:T.get none (.of 18) tbl=some F18:=by kernel_rfl
theorem F18.go:zR tbl N C (.of 18) [a0] h nx K0 =
 dw a0 h nx λv1 h2 n3=>zL 0 v1 λv4=>zH v4 h2 λv5=>zL 1 v1 λv6=>zH v6 h2 λv7=>sLen v7 λv8=>zb .gtr .int v8 (I 128) λv9=>yV 1 1 [(I 0)] [(0,1,v5)] h2 n3 λvF hB nC=>(zb .gtr .int v8 (I 128) λvX=>zO vX v9 ((sLen v7 λvY=>zO vY v8 ((zH v6 hB λv34=>zO v34 v7 ((zL 1 v1 λv33=>zO v33 v6 (C.fn 87 (.of 87) [(I 1),(I 256),vF] hB nC λvH hI nJ=>(zb .gtr .int v8 (I 128) λv32=>zO v32 v9 ((sLen v7 λv31=>zO v31 v8 ((zH v6 hI λv30=>zO v30 v7 ((zL 1 v1 λv29=>zO v29 v6 (C.fn 88 (.of 88) [v9,(I 5)] hI nJ λvB hJ nK=>yV 1 2 [(I 0)] [(0,1,vH),(1,1,vB)] hJ nK λvZ hK nL=>C.fn 86 (.of 86) [vZ] hK nL λvK hL nM=>zb .neq .int vK (I 0) λv25=>yP v25 (K0 vK hL nM) (zL 1 v1 λv26=>zH v26 hL λv27=>sLen v27 λv28=>IR.run F18.b2 C N (fnO F18.res K0) (IR.run F18.b9 C N (fnO F18.res K0) (zi F18.res K0)) (F18.fr a0 v1 (I 0) vK .u .u v25 v28 (I 0) .u .u) hL nM))))))))))))))))):=by
 rw [jL F18.tab];kernel_rfl
theorem F18.e2:IR.run F18.b4 C N ((fnO F18.res K0).blk 0 K) R (F18.fr a b c d e f g j q s i) h nx =
 zb .lss .int q j λv1=>yP v1 (zJ 2 b h λv2=>C.fn 89 (.of 89) [v2,q] h nx λv3 h4 n5=>zb .neq .int v3 (I 0) λv6=>yP v6 (K0 v3 h4 n5) (zb .add .int q (I 1) λv7=>R (F18.fr a b c d q v3 g j v7 v1 v6) h4 n5)) (K (F18.fr a b c d e f g j q v1 i) h nx):=by kernel_rfl
theorem F18.L2 (Inv:Nat->AV->T Blk->Pa->Prop) {m:Nat} (hm:m<N) (hi:Inv m q h nx)
  (step:∀ (m:Nat) (z2 z4 z5 z8 z9 zA:AV) (h:T Blk) (nx:Pa) (R:Ks Prop),Inv m z8 h nx->(∀ (m':Nat) (w2 w4 w5 w8 w9 wA:AV) (h':T Blk) (nx':Pa),m'<m->Inv m' w8 h' nx'->R (F18.fr a b w2 d w4 w5 g j w8 w9 wA) h' nx'=.ok True) ->
   (zb .lss .int z8 j λv1=>yP v1 (zJ 2 b h λv2=>C.fn 89 (.of 89) [v2,z8] h nx λv3 h4 n5=>zb .neq .int v3 (I 0) λv6=>yP v6 (K0 v3 h4 n5) (zb .add .int z8 (I 1) λv7=>R (F18.fr a b z2 d z8 v3 g j v7 v1 v6) h4 n5)) (K (F18.fr a b z2 d z4 z5 g j z8 v1 zA) h nx))=.ok True) :
  IR.run F18.b2 C N (fnO F18.res K0) K (F18.fr a b c d e f g j q s i) h nx=.ok True:=by
 rw [F18.b2,F18.aS,F18.b3];refine yC (λm tm h nx=>∃ z2 z4 z5 z8 z9 zA,tm=(F18.fr a b z2 d z4 z5 g j z8 z9 zA)/\Inv m z8 h nx) ?_ hm ⟨_,_,_,_,_,_,rfl,hi⟩;rintro m tm h nx R ⟨z2,z4,z5,z8,z9,zA,rfl,hi⟩ hR;rw [F18.e2];exact step m z2 z4 z5 z8 z9 zA h nx R hi λm' w2 w4 w5 w8 w9 wA h' nx' hlt hi'=>hR m' _ h' nx' hlt ⟨_,_,_,_,_,_,rfl,hi'⟩
theorem F18.k9:IR.run F18.b9 C N (fnO F18.res K0) K (F18.fr a b c d e f g j q s i) h nx =
 K0 (I 0) h nx:=by kernel_rfl
theorem F89.aS (X3:IR) (C:Calls Prop) (N:Nat) (O:fD Prop) (K:Ks Prop) (a b c d e f g j q s i l p o:AV) (h:T Blk) (nx:Pa):IR.run (F89.g2 X3) C N O K (F89.fr a b c d e f g j q s i l p o) h nx =
 IR.run X3 C N (O.blk 0 K) K (F89.fr a b c d e f g j q s i l p o) h nx:=by kernel_rfl
theorem F89.tab:T.get none (.of 89) tbl=some F89:=by kernel_rfl
theorem F89.go:zR tbl N C (.of 89) [a0,a1] h nx K0 =
 dw a0 h nx λv1 h2 n3=>zL 1 v1 λv4=>zH v4 h2 λv5=>zK 1 v5 a1 λv6=>zH v6 h2 λv7=>yW [.za] h2 n3 λv8 h9 nA=>zS 1 v8 v7 h9 nA λvC hA nB=>zH v8 hA λvD=>sLen vD λvE=>zb .eql .int vE (I 0) λvB=>yP vB (K0 (I 12) hA nB) (zH v8 hA λvA=>sLen vA λvM=>IR.run F89.b2 C N (fnO F89.res K0) (IR.run F89.b9 C N (fnO F89.res K0) (zi F89.res K0)) (F89.fr a0 a1 v1 (I 0) v8 .u .u .u vB vA vM (I 0) .u .u) hA nB):=by
 rw [jL F89.tab];kernel_rfl
theorem F89.e2:IR.run F89.b4 C N ((fnO F89.res K0).blk 0 K) R (F89.fr a b c d e f g j q s i l p o) h nx =
 zb .lss .int l i λv1=>yP v1 (zK 1 s l λv2=>zH v2 h λv3=>zb .lss .int v3 (I 0) λv4=>sG v4 false (λk=>k v3) λv5=>sG v4 false (λk=>zL 0 c k) λv6=>sG v4 false (λk=>zH v6 h k) λv7=>sG v4 false (λk=>zb .geq .int v5 v7 k) λv8=>yZ v4 (.bool true) v8 λv9=>C.fn 88 (.of 88) [v9,(I 10)] h nx λvF hB nC=>zb .gtr .int l (I 0) λvH=>sG vH true (λk=>zH e hB k) λvD=>sG vH true (λk=>k l) λvE=>sG vH true (λk=>zb .sub .int vE (I 1) k) λvB=>sG vH true (λk=>zK 1 vD vB k) λvA=>sG vH true (λk=>zH vA hB k) λvM=>sG vH true (λk=>k v3) λvZ=>sG vH true (λk=>zb .geq .int vM vZ k) λv20=>yZ vH v20 (.bool false) λvL=>C.fn 88 (.of 88) [vL,(I 11)] hB nC λvK hL nM=>yV 1 2 [(I 0)] [(0,1,vF),(1,1,vK)] hL nM λv25 hM nN=>C.fn 86 (.of 86) [v25] hM nN λv28 hN nO=>zb .neq .int v28 (I 0) λv31=>yP v31 (K0 v28 hN nO) (zb .add .int l (I 1) λv32=>R (F89.fr a b c d e l v3 v28 q s i v32 v1 v31) hN nO)) (K (F89.fr a b c d e f g j q s i l v1 o) h nx):=by kernel_rfl
theorem F89.L2 (Inv:Nat->AV->T Blk->Pa->Prop) {m:Nat} (hm:m<N) (hi:Inv m l h nx)
  (step:∀ (m:Nat) (z3 z5 z6 z7 zB zC zD:AV) (h:T Blk) (nx:Pa) (R:Ks Prop),Inv m zB h nx->(∀ (m':Nat) (w3 w5 w6 w7 wB wC wD:AV) (h':T Blk) (nx':Pa),m'<m->Inv m' wB h' nx'->R (F89.fr a b c w3 e w5 w6 w7 q s i wB wC wD) h' nx'=.ok True) ->
   (zb .lss .int zB i λv1=>yP v1 (zK 1 s zB λv2=>zH v2 h λv3=>zb .lss .int v3 (I 0) λv4=>sG v4 false (λk=>k v3) λv5=>sG v4 false (λk=>zL 0 c k) λv6=>sG v4 false (λk=>zH v6 h k) λv7=>sG v4 false (λk=>zb .geq .int v5 v7 k) λv8=>yZ v4 (.bool true) v8 λv9=>C.fn 88 (.of 88) [v9,(I 10)] h nx λvF hB nC=>zb .gtr .int zB (I 0) λvH=>sG vH true (λk=>zH e hB k) λvD=>sG vH true (λk=>k zB) λvE=>sG vH true (λk=>zb .sub .int vE (I 1) k) λvB=>sG vH true (λk=>zK 1 vD vB k) λvA=>sG vH true (λk=>zH vA hB k) λvM=>sG vH true (λk=>k v3) λvZ=>sG vH true (λk=>zb .geq .int vM vZ k) λv20=>yZ vH v20 (.bool false) λvL=>C.fn 88 (.of 88) [vL,(I 11)] hB nC λvK hL nM=>yV 1 2 [(I 0)] [(0,1,vF),(1,1,vK)] hL nM λv25 hM nN=>C.fn 86 (.of 86) [v25] hM nN λv28 hN nO=>zb .neq .int v28 (I 0) λv31=>yP v31 (K0 v28 hN nO) (zb .add .int zB (I 1) λv32=>R (F89.fr a b c z3 e zB v3 v28 q s i v32 v1 v31) hN nO)) (K (F89.fr a b c z3 e z5 z6 z7 q s i zB v1 zD) h nx))=.ok True) :
  IR.run F89.b2 C N (fnO F89.res K0) K (F89.fr a b c d e f g j q s i l p o) h nx=.ok True:=by
 rw [F89.b2,F89.aS,F89.b3];refine yC (λm tm h nx=>∃ z3 z5 z6 z7 zB zC zD,tm=(F89.fr a b c z3 e z5 z6 z7 q s i zB zC zD)/\Inv m zB h nx) ?_ hm ⟨_,_,_,_,_,_,_,rfl,hi⟩;rintro m tm h nx R ⟨z3,z5,z6,z7,zB,zC,zD,rfl,hi⟩ hR;rw [F89.e2];exact step m z3 z5 z6 z7 zB zC zD h nx R hi λm' w3 w5 w6 w7 wB wC wD h' nx' hlt hi'=>hR m' _ h' nx' hlt ⟨_,_,_,_,_,_,_,rfl,hi'⟩
theorem F89.k9:IR.run F89.b9 C N (fnO F89.res K0) K (F89.fr a b c d e f g j q s i l p o) h nx =
 zL 1 c λv1=>zH v1 h λv2=>qP 1 v2 none (some b) none λv3=>C.fn 175 (.of 175) [v3,(.fn 176 (.of 176) [e])] h nx λv4 h5 n6=>C.fn 88 (.of 88) [v4,(I 9)] h5 n6 λv7 h8 n9=>K0 v7 h8 n9:=by kernel_rfl
theorem yo.zw:IR.run yo.t0 C N O K (yo.fr a b c d e) h nx =
 K (yo.fr a (I 0) c d e) h nx:=by kernel_rfl
theorem yo.zu:IR.run yo.t1 C N O K (yo.fr a b c d e) h nx =
 zb .geq .int a (.int .u64 4294967296) λv1=>K (yo.fr a b v1 d e) h nx:=by kernel_rfl
theorem yo.jd:IR.run yo.t2 C N O K (yo.fr a b c d e) h nx =
 zb .shr .int a (.int .u64 32) λv1=>K (yo.fr v1 b c d e) h nx:=by kernel_rfl
theorem yo.pu:IR.run yo.t3 C N O K (yo.fr a b c d e) h nx =
 K (yo.fr a (I 32) c d e) h nx:=by kernel_rfl
theorem yo.v2:Arg.ev (.t (.of 2)) ⟨(yo.fr a b c d e),[]⟩=c:=by kernel_rfl
theorem yo.fe:IR.run yo.t7 C N O K (yo.fr a b c d e) h nx =
 zb .geq .int a (.int .u64 65536) λv1=>K (yo.fr a b c v1 e) h nx:=by kernel_rfl
theorem yo.fE:IR.run yo.t8 C N O K (yo.fr a b c d e) h nx =
 zb .shr .int a (.int .u64 16) λv1=>K (yo.fr v1 b c d e) h nx:=by kernel_rfl
theorem yo.nP:IR.run yo.t9 C N O K (yo.fr a b c d e) h nx =
 zb .add .int b (I 16) λv1=>K (yo.fr a v1 c d e) h nx:=by kernel_rfl
theorem yo.v3:Arg.ev (.t (.of 3)) ⟨(yo.fr a b c d e),[]⟩=d:=by kernel_rfl
theorem yo.nS:IR.run yo.t13 C N O K (yo.fr a b c d e) h nx =
 zb .geq .int a (.int .u64 256) λv1=>K (yo.fr a b c d v1) h nx:=by kernel_rfl
theorem yo.nT:IR.run yo.t14 C N O K (yo.fr a b c d e) h nx =
 zb .shr .int a (.int .u64 8) λv1=>K (yo.fr v1 b c d e) h nx:=by kernel_rfl
theorem yo.tH:IR.run yo.t15 C N O K (yo.fr a b c d e) h nx =
 zb .add .int b (I 8) λv1=>K (yo.fr a v1 c d e) h nx:=by kernel_rfl
theorem yo.v4:Arg.ev (.t (.of 4)) ⟨(yo.fr a b c d e),[]⟩=e:=by kernel_rfl
theorem yo.rH:IR.run yo.t19 C N O K (yo.fr a b c d e) h nx =
 kI .u8 a λv1=>j0 (.str [0,1,2,2,3,3,3,3,4,4,4,4,4,4,4,4,5,5,5,5,5,5,5,5,5,5,5,5,5,5,5,5,6,6,6,6,6,6,6,6,6,6,6,6,6,6,6,6,6,6,6,6,6,6,6,6,6,6,6,6,6,6,6,6,7,7,7,7,7,7,7,7,7,7,7,7,7,7,7,7,7,7,7,7,7,7,7,7,7,7,7,7,7,7,7,7,7,7,7,7,7,7,7,7,7,7,7,7,7,7,7,7,7,7,7,7,7,7,7,7,7,7,7,7,7,7,7,7,8,8,8,8,8,8,8,8,8,8,8,8,8,8,8,8,8,8,8,8,8,8,8,8,8,8,8,8,8,8,8,8,8,8,8,8,8,8,8,8,8,8,8,8,8,8,8,8,8,8,8,8,8,8,8,8,8,8,8,8,8,8,8,8,8,8,8,8,8,8,8,8,8,8,8,8,8,8,8,8,8,8,8,8,8,8,8,8,8,8,8,8,8,8,8,8,8,8,8,8,8,8,8,8,8,8,8,8,8,8,8,8,8,8,8,8,8,8,8,8,8,8,8,8,8,8,8,8]) v1 λv2=>kI .i64 v2 λv3=>zb .add .int b v3 λv4=>K (yo.fr a v4 c d e) h nx:=by kernel_rfl
theorem yo.go:zR tbl N C (.of 312) [a0] h nx K0=IR.run yo.t24 C N (fnO yo.res K0) (zi yo.res K0) (yo.fr a0 .u .u .u .u) h nx:=yE (F:=yo) (by kernel_rfl) (λ_=>by kernel_rfl) (by kernel_rfl)
theorem yo.ret:zi yo.res K0 (yo.fr a b c d e) h nx=K0 b h nx:=by kernel_rfl
theorem ql.zw:IR.run ql.t0 C N O K (ql.fr a b c d e f) h nx =
 dw a h nx λv1 h2 n3=>K (ql.fr a v1 (.bool false) .za e f) h2 n3:=by kernel_rfl
theorem ql.zu:IR.run ql.t1 C N O K (ql.fr a b c d e f) h nx =
 zL 1 b λv1=>zH v1 h λv2=>zb .neq (.nil .sl) v2 .za λv3=>K (ql.fr a b c d v3 f) h nx:=by kernel_rfl
theorem ql.fG:IR.run ql.t4 C N O K (ql.fr a b c d e f) h nx =
 zL 0 b λv1=>zH v1 h λv2=>zb .eql .int v2 (I 0) λv3=>K (ql.fr a b c d e v3) h nx:=by kernel_rfl
theorem ql.ny:IR.run ql.t5 C N O K (ql.fr a b c d e f) h nx =
 K (ql.fr a b (.bool false) .za e f) h nx:=by kernel_rfl
theorem ql.v5:Arg.ev (.t (.of 5)) ⟨(ql.fr a b c d e f),[]⟩=f:=by kernel_rfl
theorem ql.v4:Arg.ev (.t (.of 4)) ⟨(ql.fr a b c d e f),[]⟩=e:=by kernel_rfl
theorem ql.rF:IR.run ql.t12 C N O K (ql.fr a b c d e f) h nx =
 zL 0 b λv1=>zH v1 h λv2=>zb .lss .int v2 (I 0) λv3=>zL 0 b λv4=>zH v4 h λv5=>C.fn 264 (.of 264) [v5] h nx λv6 h7 n8=>(zb .lss .int v2 (I 0) λvA=>zO vA v3 ((zH v1 h7 λvB=>zO vB v2 ((zL 0 b λvE=>zO vE v1 (yV 1 1 [(.int .u64 0)] [(0,1,v6)] h7 n8 λv9 hC nD=>zO v3 v3 ((zb .lss .int v2 (I 0) λvD=>zO vD v3 ((zH v1 hC λvH=>zO vH v2 ((zL 0 b λvG=>zO vG v1 (K (ql.fr a b v3 v9 e f) hC nD))))))))))))):=by kernel_rfl
theorem ql.go:zR tbl N C (.of 249) [a0] h nx K0=IR.run ql.t15 C N (fnO ql.res K0) (zi ql.res K0) (ql.fr a0 .u .u .u .u .u) h nx:=yE (F:=ql) (by kernel_rfl) (λ_=>by kernel_rfl) (by kernel_rfl)
theorem ql.ret:zi ql.res K0 (ql.fr a b c d e f) h nx=K0 (.tup [c,d]) h nx:=by kernel_rfl
theorem jv.zw:IR.run jv.t0 C N O K (jv.fr a b c) h nx =
 K (jv.fr a .za c) h nx:=by kernel_rfl
theorem jv.zu:IR.run jv.t1 C N O K tm h nx=yB jv.sD C ⟨tm,[]⟩ h nx (λtm h nx=>K tm.v h nx):=gI ..
theorem jv.sF:yB (jv.rP r) C ⟨(jv.fr a b c),[]⟩ h nx Kt =
 sLen a λv1=>zb .gtr .int v1 (I 0) λv2=>sG v2 true (λk=>k a) λv3=>sG v2 true (λk=>k a) λv4=>sG v2 true (λk=>sLen v4 k) λv5=>sG v2 true (λk=>zb .sub .int v5 (I 1) k) λv6=>yB r C ⟨(jv.fr a b c),v6::v5::v4::v3::v2::v2::v1::a::[]⟩ h nx Kt:=by kernel_rfl
theorem jv.rU:yB (jv.rQ []) C ⟨(jv.fr a b c),s0::s1::s2::s3::s4::sT⟩ h nx Kt =
 sG s4 true (λk=>zK 1 s3 s0 k) λv1=>sG s4 true (λk=>zH v1 h k) λv2=>sG s4 true (λk=>zb .eql .int v2 (I 0) k) λv3=>yZ s4 v3 (.bool false) λv4=>Kt ⟨(jv.fr a b v4),v3::v2::v1::s0::s1::s2::s3::s4::sT⟩ h nx:=by kernel_rfl
theorem jv.v2:Arg.ev (.t (.of 2)) ⟨(jv.fr a b c),[]⟩=c:=by kernel_rfl
theorem jv.fG:IR.run jv.t4 C N O K (jv.fr a b c) h nx =
 sLen a λv1=>zb .sub .int v1 (I 1) λv2=>qP 1 a none (some v2) none λv3=>K (jv.fr v3 b c) h nx:=by kernel_rfl
theorem jv.t7_L (Inv:Nat->AV->T Blk->Pa->Prop) {m:Nat} (hm:m<N) (hi:Inv m a h nx)
  (step:∀ (m:Nat) (z0 z2:AV) (h:T Blk) (nx:Pa) (R:Ks Prop),Inv m z0 h nx->(∀ (m':Nat) (w0 w2:AV) (h':T Blk) (nx':Pa),m'<m->Inv m' w0 h' nx'->R (jv.fr w0 b w2) h' nx'=.ok True)->IR.run jv.t6 C N O R (jv.fr z0 b z2) h nx=.ok True) :
  IR.run jv.t7 C N O K (jv.fr a b c) h nx=.ok True:=by
 rw [jv.t7];refine yC (λm tm h nx=>∃ z0 z2,tm=(jv.fr z0 b z2)/\Inv m z0 h nx) ?_ hm ⟨_,_,rfl,hi⟩;rintro m tm h nx R ⟨z0,z2,rfl,hi⟩ hR;exact step m z0 z2 h nx R hi λm' w0 w2 h' nx' hlt hi'=>hR m' _ h' nx' hlt ⟨_,_,rfl,hi'⟩
theorem jv.nP:IR.run jv.t9 C N O K (jv.fr a b c) h nx =
 K (jv.fr a a c) h nx:=by kernel_rfl
theorem jv.go:zR tbl N C (.of 269) [a0] h nx K0=IR.run jv.t12 C N (fnO jv.res K0) (zi jv.res K0) (jv.fr a0 .u .u) h nx:=yE (F:=jv) (by kernel_rfl) (λ_=>by kernel_rfl) (by kernel_rfl)
theorem jv.ret:zi jv.res K0 (jv.fr a b c) h nx=K0 b h nx:=by kernel_rfl
theorem bf.zw:IR.run bf.t0 C N O K (bf.fr a b c) h nx =
 yW [(.bool false),.za] h nx λv1 h2 n3=>K (bf.fr a b v1) h2 n3:=by kernel_rfl
theorem bf.zu:IR.run bf.t1 C N O K (bf.fr a b c) h nx =
 C.fn 269 (.of 269) [b] h nx λv1 h2 n3=>K (bf.fr a v1 c) h2 n3:=by kernel_rfl
theorem bf.jd:IR.run bf.t2 C N O K (bf.fr a b c) h nx =
 sG a true (λk=>k b) λv1=>sG a true (λk=>sLen v1 k) λv2=>sG a true (λk=>zb .gtr .int v2 (I 0) k) λv3=>yZ a v3 (.bool false) λv4=>j6 [(.bool false),.za] [(0,1,v4),(1,1,b)] λv5=>zS 2 c v5 h nx λv6 h7 n8=>K (bf.fr a b c) h7 n8:=by kernel_rfl
theorem bf.go:zR tbl N C (.of 214) [a0,a1] h nx K0=IR.run bf.t5 C N (fnO bf.res K0) (zi bf.res K0) (bf.fr a0 a1 .u) h nx:=yE (F:=bf) (by kernel_rfl) (λ_=>by kernel_rfl) (by kernel_rfl)
theorem bf.ret:zi bf.res K0 (bf.fr a b c) h nx=zJ 2 c h λv1=>K0 v1 h nx:=by kernel_rfl
theorem yc.zw:IR.run yc.t0 C N O K (yc.fr a b c d e f g j q) h nx =
 K (yc.fr a b (I 0) d e f g j q) h nx:=by kernel_rfl
theorem yc.zu:IR.run yc.t1 C N O K (yc.fr a b c d e f g j q) h nx =
 sLen a λv1=>sLen b λv2=>zb .neq .int v1 v2 λv3=>K (yc.fr a b c d v3 f g j q) h nx:=by kernel_rfl
theorem yc.jd:IR.run yc.t2 C N O K (yc.fr a b c d e f g j q) h nx =
 sLen a λv1=>sLen b λv2=>zb .lss .int v1 v2 λv3=>K (yc.fr a b c d e v3 g j q) h nx:=by kernel_rfl
theorem yc.pu:IR.run yc.t3 C N O K (yc.fr a b c d e f g j q) h nx =
 K (yc.fr a b (I (-1)) d e f g j q) h nx:=by kernel_rfl
theorem yc.v5:Arg.ev (.t (.of 5)) ⟨(yc.fr a b c d e f g j q),[]⟩=f:=by kernel_rfl
theorem yc.fe:IR.run yc.t7 C N O K (yc.fr a b c d e f g j q) h nx =
 K (yc.fr a b (I 1) d e f g j q) h nx:=by kernel_rfl
theorem yc.v4:Arg.ev (.t (.of 4)) ⟨(yc.fr a b c d e f g j q),[]⟩=e:=by kernel_rfl
theorem yc.rF:IR.run yc.t12 C N O K (yc.fr a b c d e f g j q) h nx =
 sLen a λv1=>zb .sub .int v1 (I 1) λv2=>K (yc.fr a b c v2 e f g j q) h nx:=by kernel_rfl
theorem yc.nS:IR.run yc.t13 C N O K (yc.fr a b c d e f g j q) h nx =
 zb .geq .int d (I 0) λv1=>K (yc.fr a b c d e f v1 j q) h nx:=by kernel_rfl
theorem yc.v6:Arg.ev (.t (.of 6)) ⟨(yc.fr a b c d e f g j q),[]⟩=g:=by kernel_rfl
theorem yc.rG:IR.run yc.t16 C N O K (yc.fr a b c d e f g j q) h nx =
 zK 1 a d λv1=>zH v1 h λv2=>zK 1 b d λv3=>zH v3 h λv4=>zb .lss .int v2 v4 λv5=>K (yc.fr a b c d e f g v5 q) h nx:=by kernel_rfl
theorem yc.tT:IR.run yc.t17 C N O K (yc.fr a b c d e f g j q) h nx =
 K (yc.fr a b (I (-1)) d e f g j q) h nx:=by kernel_rfl
theorem yc.v7:Arg.ev (.t (.of 7)) ⟨(yc.fr a b c d e f g j q),[]⟩=j:=by kernel_rfl
theorem yc.oM:IR.run yc.t21 C N O K (yc.fr a b c d e f g j q) h nx =
 zK 1 a d λv1=>zH v1 h λv2=>zK 1 b d λv3=>zH v3 h λv4=>zb .gtr .int v2 v4 λv5=>K (yc.fr a b c d e f g j v5) h nx:=by kernel_rfl
theorem yc.rW:IR.run yc.t22 C N O K (yc.fr a b c d e f g j q) h nx =
 K (yc.fr a b (I 1) d e f g j q) h nx:=by kernel_rfl
theorem yc.v8:Arg.ev (.t (.of 8)) ⟨(yc.fr a b c d e f g j q),[]⟩=q:=by kernel_rfl
theorem yc.zfc:IR.run yc.t28 C N O K (yc.fr a b c d e f g j q) h nx =
 zb .sub .int d (I 1) λv1=>K (yc.fr a b c v1 e f g j q) h nx:=by kernel_rfl
theorem yc.zmv (Inv:Nat->AV->T Blk->Pa->Prop) {m:Nat} (hm:m<N) (hi:Inv m d h nx)
  (step:∀ (m:Nat) (z2 z3 z6 z7 z8:AV) (h:T Blk) (nx:Pa) (R:Ks Prop),Inv m z3 h nx->(∀ (m':Nat) (w2 w3 w6 w7 w8:AV) (h':T Blk) (nx':Pa),m'<m->Inv m' w3 h' nx'->R (yc.fr a b w2 w3 e f w6 w7 w8) h' nx'=.ok True)->IR.run yc.t30 C N O R (yc.fr a b z2 z3 e f z6 z7 z8) h nx=.ok True) :
  IR.run yc.t31 C N O K (yc.fr a b c d e f g j q) h nx=.ok True:=by
 rw [yc.t31];refine yC (λm tm h nx=>∃ z2 z3 z6 z7 z8,tm=(yc.fr a b z2 z3 e f z6 z7 z8)/\Inv m z3 h nx) ?_ hm ⟨_,_,_,_,_,rfl,hi⟩;rintro m tm h nx R ⟨z2,z3,z6,z7,z8,rfl,hi⟩ hR;exact step m z2 z3 z6 z7 z8 h nx R hi λm' w2 w3 w6 w7 w8 h' nx' hlt hi'=>hR m' _ h' nx' hlt ⟨_,_,_,_,_,rfl,hi'⟩
theorem yc.eT:IR.run yc.t34 C N O K (yc.fr a b c d e f g j q) h nx =
 K (yc.fr a b (I 0) d e f g j q) h nx:=by kernel_rfl
theorem yc.go:zR tbl N C (.of 216) [a0,a1] h nx K0=IR.run yc.t38 C N (fnO yc.res K0) (zi yc.res K0) (yc.fr a0 a1 .u .u .u .u .u .u .u) h nx:=yE (F:=yc) (by kernel_rfl) (λ_=>by kernel_rfl) (by kernel_rfl)
theorem yc.ret:zi yc.res K0 (yc.fr a b c d e f g j q) h nx=K0 c h nx:=by kernel_rfl
theorem jc.zw:IR.run jc.t0 C N O K (jc.fr a b c d e f g j q) h nx =
 K (jc.fr a b .za (I 0) e f g j q) h nx:=by kernel_rfl
theorem jc.zu:IR.run jc.t1 C N O K (jc.fr a b c d e f g j q) h nx =
 sLen a λv1=>qQ 1 8 [(I 0)] v1 v1 h nx λv2 h3 n4=>K (jc.fr a b c d v2 f g j q) h3 n4:=by kernel_rfl
theorem jc.jd:IR.run jc.t2 C N O K (jc.fr a b c d e f g j q) h nx =
 K (jc.fr a b c d e (I 0) g j q) h nx:=by kernel_rfl
theorem jc.pu:IR.run jc.t3 C N O K (jc.fr a b c d e f g j q) h nx =
 sLen a λv1=>zb .sub .int v1 (I 1) λv2=>K (jc.fr a b c d e f v2 j q) h nx:=by kernel_rfl
theorem jc.fG:IR.run jc.t4 C N O K (jc.fr a b c d e f g j q) h nx =
 zb .geq .int g (I 0) λv1=>K (jc.fr a b c d e f g j v1) h nx:=by kernel_rfl
theorem jc.v8:Arg.ev (.t (.of 8)) ⟨(jc.fr a b c d e f g j q),[]⟩=q:=by kernel_rfl
theorem jc.fe:IR.run jc.t7 C N O K (jc.fr a b c d e f g j q) h nx =
 zb .mul .int f (I 1000000000) λv1=>zK 1 a g λv2=>zH v2 h λv3=>zb .add .int v1 v3 λv4=>K (jc.fr a b c d e f g v4 q) h nx:=by kernel_rfl
theorem jc.fE:IR.run jc.t8 C N O K (jc.fr a b c d e f g j q) h nx =
 zb .quo .int j b λv1=>zK 1 e g λv2=>zS 1 v2 v1 h nx λv3 h4 n5=>K (jc.fr a b c d e f g j q) h4 n5:=by kernel_rfl
theorem jc.nP:IR.run jc.t9 C N O K (jc.fr a b c d e f g j q) h nx =
 zb .rem .int j b λv1=>K (jc.fr a b c d e v1 g j q) h nx:=by kernel_rfl
theorem jc.nS:IR.run jc.t13 C N O K (jc.fr a b c d e f g j q) h nx =
 zb .sub .int g (I 1) λv1=>K (jc.fr a b c d e f v1 j q) h nx:=by kernel_rfl
theorem jc.zcn (Inv:Nat->AV->AV->T Blk->Pa->Prop) {m:Nat} (hm:m<N) (hi:Inv m f g h nx)
  (step:∀ (m:Nat) (z5 z6 z7 z8:AV) (h:T Blk) (nx:Pa) (R:Ks Prop),Inv m z5 z6 h nx->(∀ (m':Nat) (w5 w6 w7 w8:AV) (h':T Blk) (nx':Pa),m'<m->Inv m' w5 w6 h' nx'->R (jc.fr a b c d e w5 w6 w7 w8) h' nx'=.ok True)->IR.run jc.t15 C N O R (jc.fr a b c d e z5 z6 z7 z8) h nx=.ok True) :
  IR.run jc.t16 C N O K (jc.fr a b c d e f g j q) h nx=.ok True:=by
 rw [jc.t16];refine yC (λm tm h nx=>∃ z5 z6 z7 z8,tm=(jc.fr a b c d e z5 z6 z7 z8)/\Inv m z5 z6 h nx) ?_ hm ⟨_,_,_,_,rfl,hi⟩;rintro m tm h nx R ⟨z5,z6,z7,z8,rfl,hi⟩ hR;exact step m z5 z6 z7 z8 h nx R hi λm' w5 w6 w7 w8 h' nx' hlt hi'=>hR m' _ h' nx' hlt ⟨_,_,_,_,rfl,hi'⟩
theorem jc.rH:IR.run jc.t19 C N O K (jc.fr a b c d e f g j q) h nx =
 C.fn 269 (.of 269) [e] h nx λv1 h2 n3=>K (jc.fr a b v1 f e f g j q) h2 n3:=by kernel_rfl
theorem jc.go:zR tbl N C (.of 268) [a0,a1] h nx K0=IR.run jc.t24 C N (fnO jc.res K0) (zi jc.res K0) (jc.fr a0 a1 .u .u .u .u .u .u .u) h nx:=yE (F:=jc) (by kernel_rfl) (λ_=>by kernel_rfl) (by kernel_rfl)
theorem jc.ret:zi jc.res K0 (jc.fr a b c d e f g j q) h nx=K0 (.tup [c,d]) h nx:=by kernel_rfl
theorem kg.zw:IR.run kg.t0 C N O K (kg.fr a b c d e f g j q s i l p o u v w y z A B D E G H L M P Q) h nx =
 K (kg.fr a b .za .za e f g j q s i l p o u v w y z A B D E G H L M P Q) h nx:=by kernel_rfl
theorem kg.zu:IR.run kg.t1 C N O K (kg.fr a b c d e f g j q s i l p o u v w y z A B D E G H L M P Q) h nx =
 C.fn 216 (.of 216) [a,b] h nx λv1 h2 n3=>zb .lss .int v1 (I 0) λv4=>K (kg.fr a b c d e f g j q s i l p o u v w y z A B v4 E G H L M P Q) h2 n3:=by kernel_rfl
theorem kg.jd:IR.run kg.t2 C N O K (kg.fr a b c d e f g j q s i l p o u v w y z A B D E G H L M P Q) h nx =
 K (kg.fr a b .za a e f g j q s i l p o u v w y z A B D E G H L M P Q) h nx:=by kernel_rfl
theorem kg.v21:Arg.ev (.t (.of 21)) ⟨(kg.fr a b c d e f g j q s i l p o u v w y z A B D E G H L M P Q),[]⟩=D:=by kernel_rfl
theorem kg.ku:IR.run kg.t6 C N O K (kg.fr a b c d e f g j q s i l p o u v w y z A B D E G H L M P Q) h nx =
 sLen b λv1=>zb .eql .int v1 (I 1) λv2=>K (kg.fr a b c d e f g j q s i l p o u v w y z A B D v2 G H L M P Q) h nx:=by kernel_rfl
theorem kg.fe:IR.run kg.t7 C N O K (kg.fr a b c d e f g j q s i l p o u v w y z A B D E G H L M P Q) h nx =
 zK 1 b (I 0) λv1=>zH v1 h λv2=>C.fn 268 (.of 268) [a,v2] h nx λv3 h4 n5=>fw 0 v3 λv6=>fw 1 v3 λv7=>K (kg.fr a b c d v6 v7 g j q s i l p o u v w y z A B D E G H L M P Q) h4 n5:=by kernel_rfl
theorem kg.fE:IR.run kg.t8 C N O K (kg.fr a b c d e f g j q s i l p o u v w y z A B D E G H L M P Q) h nx =
 yV 1 1 [(I 0)] [(0,1,f)] h nx λv1 h2 n3=>C.fn 269 (.of 269) [v1] h2 n3 λv4 h5 n6=>K (kg.fr a b e v4 e f g j q s i l p o u v w y z A B D E G H L M P Q) h5 n6:=by kernel_rfl
theorem kg.v22:Arg.ev (.t (.of 22)) ⟨(kg.fr a b c d e f g j q s i l p o u v w y z A B D E G H L M P Q),[]⟩=E:=by kernel_rfl
theorem kg.go:zR tbl N C (.of 213) [a0,a1] h nx K0=IR.run kg.t109 C N (fnO kg.res K0) (zi kg.res K0) (kg.fr a0 a1 .u .u .u .u .u .u .u .u .u .u .u .u .u .u .u .u .u .u .u .u .u .u .u .u .u .u .u) h nx:=yE (F:=kg) (by kernel_rfl) (λ_=>by kernel_rfl) (by kernel_rfl)
theorem kg.ret:zi kg.res K0 (kg.fr a b c d e f g j q s i l p o u v w y z A B D E G H L M P Q) h nx=K0 (.tup [c,d]) h nx:=by kernel_rfl
theorem fP.zw:IR.run fP.t0 C N O K (fP.fr a b c) h nx =
 dw a h nx λv1 h2 n3=>yW [(.bool false),.za] h2 n3 λv4 h5 n6=>K (fP.fr a v1 v4) h5 n6:=by kernel_rfl
theorem fP.zu:IR.run fP.t1 C N O K (fP.fr a b c) h nx =
 zL 0 b λv1=>zH v1 h λv2=>sNot v2 λv3=>zL 1 b λv4=>zH v4 h λv5=>C.fn 214 (.of 214) [v3,v5] h nx λv6 h7 n8=>zS 2 c v6 h7 n8 λv9 hC nD=>K (fP.fr a b c) hC nD:=by kernel_rfl
theorem fP.go:zR tbl N C (.of 212) [a0] h nx K0=IR.run fP.t3 C N (fnO fP.res K0) (zi fP.res K0) (fP.fr a0 .u .u) h nx:=yE (F:=fP) (by kernel_rfl) (λ_=>by kernel_rfl) (by kernel_rfl)
theorem fP.ret:zi fP.res K0 (fP.fr a b c) h nx=zJ 2 c h λv1=>K0 v1 h nx:=by kernel_rfl
theorem uj.zw:IR.run uj.t0 C N O K (uj.fr a b c d e) h nx =
 K (uj.fr a b .za d e) h nx:=by kernel_rfl
theorem uj.zu:IR.run uj.t1 C N O K (uj.fr a b c d e) h nx =
 sLen b λv1=>zb .gtr .int v1 (I 0) λv2=>K (uj.fr a b c d v2) h nx:=by kernel_rfl
theorem uj.v4:Arg.ev (.t (.of 4)) ⟨(uj.fr a b c d e),[]⟩=e:=by kernel_rfl
theorem uj.fG:IR.run uj.t4 C N O K (uj.fr a b c d e) h nx =
 C.fn 213 (.of 213) [a,b] h nx λv1 h2 n3=>fw 0 v1 λv4=>fw 1 v1 λv5=>K (uj.fr a b c v5 e) h2 n3:=by kernel_rfl
theorem uj.ny:IR.run uj.t5 C N O K (uj.fr a b c d e) h nx =
 K (uj.fr b d c d e) h nx:=by kernel_rfl
theorem uj.t9_L (Inv:Nat->AV->AV->T Blk->Pa->Prop) {m:Nat} (hm:m<N) (hi:Inv m a b h nx)
  (step:∀ (m:Nat) (z0 z1 z3 z4:AV) (h:T Blk) (nx:Pa) (R:Ks Prop),Inv m z0 z1 h nx->(∀ (m':Nat) (w0 w1 w3 w4:AV) (h':T Blk) (nx':Pa),m'<m->Inv m' w0 w1 h' nx'->R (uj.fr w0 w1 c w3 w4) h' nx'=.ok True)->IR.run uj.t8 C N O R (uj.fr z0 z1 c z3 z4) h nx=.ok True) :
  IR.run uj.t9 C N O K (uj.fr a b c d e) h nx=.ok True:=by
 rw [uj.t9];refine yC (λm tm h nx=>∃ z0 z1 z3 z4,tm=(uj.fr z0 z1 c z3 z4)/\Inv m z0 z1 h nx) ?_ hm ⟨_,_,_,_,rfl,hi⟩;rintro m tm h nx R ⟨z0,z1,z3,z4,rfl,hi⟩ hR;exact step m z0 z1 z3 z4 h nx R hi λm' w0 w1 w3 w4 h' nx' hlt hi'=>hR m' _ h' nx' hlt ⟨_,_,_,_,rfl,hi'⟩
theorem uj.dx:IR.run uj.t11 C N O K (uj.fr a b c d e) h nx =
 K (uj.fr a b a d e) h nx:=by kernel_rfl
theorem uj.go:zR tbl N C (.of 208) [a0,a1] h nx K0=IR.run uj.t14 C N (fnO uj.res K0) (zi uj.res K0) (uj.fr a0 a1 .u .u .u) h nx:=yE (F:=uj) (by kernel_rfl) (λ_=>by kernel_rfl) (by kernel_rfl)
theorem uj.ret:zi uj.res K0 (uj.fr a b c d e) h nx=K0 c h nx:=by kernel_rfl
theorem qc.zw:IR.run qc.t0 C N O K (qc.fr a b c d) h nx =
 K (qc.fr a b (I 0) d) h nx:=by kernel_rfl
theorem qc.zu:IR.run qc.t1 C N O K (qc.fr a b c d) h nx =
 zb .gtr .int b (I 0) λv1=>K (qc.fr a b c v1) h nx:=by kernel_rfl
theorem qc.v3:Arg.ev (.t (.of 3)) ⟨(qc.fr a b c d),[]⟩=d:=by kernel_rfl
theorem qc.fG:IR.run qc.t4 C N O K (qc.fr a b c d) h nx =
 zb .rem .int a b λv1=>K (qc.fr b v1 c d) h nx:=by kernel_rfl
theorem qc.t7_L (Inv:Nat->AV->AV->T Blk->Pa->Prop) {m:Nat} (hm:m<N) (hi:Inv m a b h nx)
  (step:∀ (m:Nat) (z0 z1 z3:AV) (h:T Blk) (nx:Pa) (R:Ks Prop),Inv m z0 z1 h nx->(∀ (m':Nat) (w0 w1 w3:AV) (h':T Blk) (nx':Pa),m'<m->Inv m' w0 w1 h' nx'->R (qc.fr w0 w1 c w3) h' nx'=.ok True)->IR.run qc.t6 C N O R (qc.fr z0 z1 c z3) h nx=.ok True) :
  IR.run qc.t7 C N O K (qc.fr a b c d) h nx=.ok True:=by
 rw [qc.t7];refine yC (λm tm h nx=>∃ z0 z1 z3,tm=(qc.fr z0 z1 c z3)/\Inv m z0 z1 h nx) ?_ hm ⟨_,_,_,rfl,hi⟩;rintro m tm h nx R ⟨z0,z1,z3,rfl,hi⟩ hR;exact step m z0 z1 z3 h nx R hi λm' w0 w1 w3 h' nx' hlt hi'=>hR m' _ h' nx' hlt ⟨_,_,_,rfl,hi'⟩
theorem qc.nP:IR.run qc.t9 C N O K (qc.fr a b c d) h nx =
 K (qc.fr a b a d) h nx:=by kernel_rfl
theorem qc.go:zR tbl N C (.of 210) [a0,a1] h nx K0=IR.run qc.t12 C N (fnO qc.res K0) (zi qc.res K0) (qc.fr a0 a1 .u .u) h nx:=yE (F:=qc) (by kernel_rfl) (λ_=>by kernel_rfl) (by kernel_rfl)
theorem qc.ret:zi qc.res K0 (qc.fr a b c d) h nx=K0 c h nx:=by kernel_rfl
theorem yt.zw:IR.run yt.t0 C N O K (yt.fr a b c d e f g) h nx =
 yW [(.bool false),.za] h nx λv1 h2 n3=>K (yt.fr a v1 c d e f g) h2 n3:=by kernel_rfl
theorem yt.zu:IR.run yt.t1 C N O K (yt.fr a b c d e f g) h nx =
 K (yt.fr a b .za d e f g) h nx:=by kernel_rfl
theorem yt.jd:IR.run yt.t2 C N O K (yt.fr a b c d e f g) h nx =
 zb .lss .int a (I 0) λv1=>K (yt.fr a b c v1 e f g) h nx:=by kernel_rfl
theorem yt.pu:IR.run yt.t3 C N O K (yt.fr a b c d e f g) h nx =
 zb .neq .int a (I 0) λv1=>K (yt.fr a b c d e v1 g) h nx:=by kernel_rfl
theorem yt.v5:Arg.ev (.t (.of 5)) ⟨(yt.fr a b c d e f g),[]⟩=f:=by kernel_rfl
theorem yt.ku:IR.run yt.t6 C N O K (yt.fr a b c d e f g) h nx =
 zb .rem .int a (I 1000000000) λv1=>K (yt.fr a b c d v1 f g) h nx:=by kernel_rfl
theorem yt.fe:IR.run yt.t7 C N O K (yt.fr a b c d e f g) h nx =
 zb .lss .int e (I 0) λv1=>K (yt.fr a b c d e f v1) h nx:=by kernel_rfl
theorem yt.fE:IR.run yt.t8 C N O K (yt.fr a b c d e f g) h nx =
 zb .sub .int (I 0) e λv1=>K (yt.fr a b c d v1 f g) h nx:=by kernel_rfl
theorem yt.v6:Arg.ev (.t (.of 6)) ⟨(yt.fr a b c d e f g),[]⟩=g:=by kernel_rfl
theorem yt.dx:IR.run yt.t11 C N O K (yt.fr a b c d e f g) h nx =
 yV 1 1 [(I 0)] [(0,1,e)] h nx λv1 h2 n3=>rJ 1 8 c v1 h2 n3 λv4 h5 n6=>K (yt.fr a b v4 d e f g) h5 n6:=by kernel_rfl
theorem yt.rF:IR.run yt.t12 C N O K (yt.fr a b c d e f g) h nx =
 zb .quo .int a (I 1000000000) λv1=>K (yt.fr v1 b c d e f g) h nx:=by kernel_rfl
theorem yt.zxm (Inv:Nat->AV->AV->T Blk->Pa->Prop) {m:Nat} (hm:m<N) (hi:Inv m a c h nx)
  (step:∀ (m:Nat) (z0 z2 z4 z5 z6:AV) (h:T Blk) (nx:Pa) (R:Ks Prop),Inv m z0 z2 h nx->(∀ (m':Nat) (w0 w2 w4 w5 w6:AV) (h':T Blk) (nx':Pa),m'<m->Inv m' w0 w2 h' nx'->R (yt.fr w0 b w2 d w4 w5 w6) h' nx'=.ok True)->IR.run yt.t17 C N O R (yt.fr z0 b z2 d z4 z5 z6) h nx=.ok True) :
  IR.run yt.t18 C N O K (yt.fr a b c d e f g) h nx=.ok True:=by
 rw [yt.t18];refine yC (λm tm h nx=>∃ z0 z2 z4 z5 z6,tm=(yt.fr z0 b z2 d z4 z5 z6)/\Inv m z0 z2 h nx) ?_ hm ⟨_,_,_,_,_,rfl,hi⟩;rintro m tm h nx R ⟨z0,z2,z4,z5,z6,rfl,hi⟩ hR;exact step m z0 z2 z4 z5 z6 h nx R hi λm' w0 w2 w4 w5 w6 h' nx' hlt hi'=>hR m' _ h' nx' hlt ⟨_,_,_,_,_,rfl,hi'⟩
theorem yt.sQ:IR.run yt.t20 C N O K (yt.fr a b c d e f g) h nx =
 C.fn 214 (.of 214) [d,c] h nx λv1 h2 n3=>zS 2 b v1 h2 n3 λv4 h5 n6=>K (yt.fr a b c d e f g) h5 n6:=by kernel_rfl
theorem yt.go:zR tbl N C (.of 134) [a0] h nx K0=IR.run yt.t25 C N (fnO yt.res K0) (zi yt.res K0) (yt.fr a0 .u .u .u .u .u .u) h nx:=yE (F:=yt) (by kernel_rfl) (λ_=>by kernel_rfl) (by kernel_rfl)
theorem yt.ret:zi yt.res K0 (yt.fr a b c d e f g) h nx=zJ 2 b h λv1=>K0 v1 h nx:=by kernel_rfl
theorem ja.zw:IR.run ja.t0 C N O K (ja.fr a b c d e) h nx =
 K (ja.fr a b (.str []) d e) h nx:=by kernel_rfl
theorem ja.zu:IR.run ja.t1 C N O K (ja.fr a b c d e) h nx =
 K (ja.fr a b c (.str []) e) h nx:=by kernel_rfl
theorem ja.jd:IR.run ja.t2 C N O K tm h nx=yB ja.r2_0 C ⟨tm,[]⟩ h nx (λtm h nx=>K tm.v h nx):=gI ..
theorem ja.zu8:yB (ja.ztf []) C ⟨(ja.fr a b c d e),[]⟩ h nx Kt =
 zb .gtr .int a (I 0) λv1=>sG v1 false (λk=>k d) λv2=>sG v1 false (λk=>kV v2 k) λv3=>sG v1 false (λk=>k b) λv4=>sG v1 false (λk=>zb .lss .int v3 v4 k) λv5=>yZ v1 (.bool true) v5 λv6=>Kt ⟨(ja.fr a b c d v6),v5::v4::v3::v2::v1::v1::a::[]⟩ h nx:=by kernel_rfl
theorem ja.v4:Arg.ev (.t (.of 4)) ⟨(ja.fr a b c d e),[]⟩=e:=by kernel_rfl
theorem ja.ny:IR.run ja.t5 C N O K (ja.fr a b c d e) h nx =
 zb .rem .int a (I 10) λv1=>zb .rem .int a (I 10) λv2=>zb .add .int v2 (I 1) λv3=>gJ (.str [48,49,50,51,52,53,54,55,56,57]) (some v1) (some v3) λv4=>zb .add .str v4 d λv5=>K (ja.fr a b c v5 e) h nx:=by kernel_rfl
theorem ja.ku:IR.run ja.t6 C N O K (ja.fr a b c d e) h nx =
 zb .quo .int a (I 10) λv1=>K (ja.fr v1 b c d e) h nx:=by kernel_rfl
theorem ja.zmu (Inv:Nat->AV->AV->T Blk->Pa->Prop) {m:Nat} (hm:m<N) (hi:Inv m a d h nx)
  (step:∀ (m:Nat) (z0 z3 z4:AV) (h:T Blk) (nx:Pa) (R:Ks Prop),Inv m z0 z3 h nx->(∀ (m':Nat) (w0 w3 w4:AV) (h':T Blk) (nx':Pa),m'<m->Inv m' w0 w3 h' nx'->R (ja.fr w0 b c w3 w4) h' nx'=.ok True)->IR.run ja.t9 C N O R (ja.fr z0 b c z3 z4) h nx=.ok True) :
  IR.run ja.t10 C N O K (ja.fr a b c d e) h nx=.ok True:=by
 rw [ja.t10];refine yC (λm tm h nx=>∃ z0 z3 z4,tm=(ja.fr z0 b c z3 z4)/\Inv m z0 z3 h nx) ?_ hm ⟨_,_,_,rfl,hi⟩;rintro m tm h nx R ⟨z0,z3,z4,rfl,hi⟩ hR;exact step m z0 z3 z4 h nx R hi λm' w0 w3 w4 h' nx' hlt hi'=>hR m' _ h' nx' hlt ⟨_,_,_,rfl,hi'⟩
theorem ja.rF:IR.run ja.t12 C N O K (ja.fr a b c d e) h nx =
 K (ja.fr a b d d e) h nx:=by kernel_rfl
theorem ja.go:zR tbl N C (.of 211) [a0,a1] h nx K0=IR.run ja.t16 C N (fnO ja.res K0) (zi ja.res K0) (ja.fr a0 a1 .u .u .u) h nx:=yE (F:=ja) (by kernel_rfl) (λ_=>by kernel_rfl) (by kernel_rfl)
theorem ja.ret:zi ja.res K0 (ja.fr a b c d e) h nx=K0 c h nx:=by kernel_rfl
theorem yu.zw:IR.run yu.t0 C N O K (yu.fr a b c d e f g j) h nx =
 dw a h nx λv1 h2 n3=>K (yu.fr a v1 (.str []) d e f g j) h2 n3:=by kernel_rfl
theorem yu.zu:IR.run yu.t1 C N O K (yu.fr a b c d e f g j) h nx =
 zL 1 b λv1=>zH v1 h λv2=>sLen v2 λv3=>zb .eql .int v3 (I 0) λv4=>K (yu.fr a b c d e v4 g j) h nx:=by kernel_rfl
theorem yu.jd:IR.run yu.t2 C N O K (yu.fr a b c d e f g j) h nx =
 K (yu.fr a b (.str [48]) d e f g j) h nx:=by kernel_rfl
theorem yu.v5:Arg.ev (.t (.of 5)) ⟨(yu.fr a b c d e f g j),[]⟩=f:=by kernel_rfl
theorem yu.ku:IR.run yu.t6 C N O K (yu.fr a b c d e f g j) h nx =
 zL 1 b λv1=>zH v1 h λv2=>zL 1 b λv3=>zH v3 h λv4=>sLen v4 λv5=>zb .sub .int v5 (I 1) λv6=>zK 1 v2 v6 λv7=>zH v7 h λv8=>C.fn 211 (.of 211) [v8,(I 1)] h nx λv9 hC nD=>K (yu.fr a b c v9 e f g j) hC nD:=by kernel_rfl
theorem yu.fe:IR.run yu.t7 C N O K (yu.fr a b c d e f g j) h nx =
 zL 1 b λv1=>zH v1 h λv2=>sLen v2 λv3=>zb .sub .int v3 (I 2) λv4=>K (yu.fr a b c d v4 f g j) h nx:=by kernel_rfl
theorem yu.fE:IR.run yu.t8 C N O K (yu.fr a b c d e f g j) h nx =
 zb .geq .int e (I 0) λv1=>K (yu.fr a b c d e f v1 j) h nx:=by kernel_rfl
theorem yu.v6:Arg.ev (.t (.of 6)) ⟨(yu.fr a b c d e f g j),[]⟩=g:=by kernel_rfl
theorem yu.dx:IR.run yu.t11 C N O K (yu.fr a b c d e f g j) h nx =
 zL 1 b λv1=>zH v1 h λv2=>zK 1 v2 e λv3=>zH v3 h λv4=>C.fn 211 (.of 211) [v4,(I 9)] h nx λv5 h6 n7=>zb .add .str d v5 λv8=>K (yu.fr a b c v8 e f g j) h6 n7:=by kernel_rfl
theorem yu.nS:IR.run yu.t13 C N O K (yu.fr a b c d e f g j) h nx =
 zb .sub .int e (I 1) λv1=>K (yu.fr a b c d v1 f g j) h nx:=by kernel_rfl
theorem yu.zcn (Inv:Nat->AV->AV->T Blk->Pa->Prop) {m:Nat} (hm:m<N) (hi:Inv m d e h nx)
  (step:∀ (m:Nat) (z3 z4 z6:AV) (h:T Blk) (nx:Pa) (R:Ks Prop),Inv m z3 z4 h nx->(∀ (m':Nat) (w3 w4 w6:AV) (h':T Blk) (nx':Pa),m'<m->Inv m' w3 w4 h' nx'->R (yu.fr a b c w3 w4 f w6 j) h' nx'=.ok True)->IR.run yu.t15 C N O R (yu.fr a b c z3 z4 f z6 j) h nx=.ok True) :
  IR.run yu.t16 C N O K (yu.fr a b c d e f g j) h nx=.ok True:=by
 rw [yu.t16];refine yC (λm tm h nx=>∃ z3 z4 z6,tm=(yu.fr a b c z3 z4 f z6 j)/\Inv m z3 z4 h nx) ?_ hm ⟨_,_,_,rfl,hi⟩;rintro m tm h nx R ⟨z3,z4,z6,rfl,hi⟩ hR;exact step m z3 z4 z6 h nx R hi λm' w3 w4 w6 h' nx' hlt hi'=>hR m' _ h' nx' hlt ⟨_,_,_,rfl,hi'⟩
theorem yu.rH:IR.run yu.t19 C N O K (yu.fr a b c d e f g j) h nx =
 zL 0 b λv1=>zH v1 h λv2=>K (yu.fr a b c d e f g v2) h nx:=by kernel_rfl
theorem yu.sQ:IR.run yu.t20 C N O K (yu.fr a b c d e f g j) h nx =
 zb .add .str (.str [45]) d λv1=>K (yu.fr a b v1 d e f g j) h nx:=by kernel_rfl
theorem yu.v7:Arg.ev (.t (.of 7)) ⟨(yu.fr a b c d e f g j),[]⟩=j:=by kernel_rfl
theorem yu.zmw:IR.run yu.t24 C N O K (yu.fr a b c d e f g j) h nx =
 K (yu.fr a b d d e f g j) h nx:=by kernel_rfl
theorem yu.go:zR tbl N C (.of 133) [a0] h nx K0=IR.run yu.t30 C N (fnO yu.res K0) (zi yu.res K0) (yu.fr a0 .u .u .u .u .u .u .u) h nx:=yE (F:=yu) (by kernel_rfl) (λ_=>by kernel_rfl) (by kernel_rfl)
theorem yu.ret:zi yu.res K0 (yu.fr a b c d e f g j) h nx=K0 c h nx:=by kernel_rfl
theorem gq.zw:IR.run gq.t0 C N O K (gq.fr a b c d e) h nx =
 K (gq.fr a (I 0) c d e) h nx:=by kernel_rfl
theorem gq.zu:IR.run gq.t1 C N O K (gq.fr a b c d e) h nx =
 K (gq.fr a b (I 0) d e) h nx:=by kernel_rfl
theorem gq.jd:IR.run gq.t2 C N O K (gq.fr a b c d e) h nx =
 K (gq.fr a b c (I 0) e) h nx:=by kernel_rfl
theorem gq.pu:IR.run gq.t3 C N O K (gq.fr a b c d e) h nx =
 kV a λv1=>zb .lss .int d v1 λv2=>K (gq.fr a b c d v2) h nx:=by kernel_rfl
theorem gq.v4:Arg.ev (.t (.of 4)) ⟨(gq.fr a b c d e),[]⟩=e:=by kernel_rfl
theorem gq.ku:IR.run gq.t6 C N O K (gq.fr a b c d e) h nx =
 zb .mul .int (I 10) c λv1=>j0 a d λv2=>kI .i64 v2 λv3=>zb .add .int v1 v3 λv4=>zb .sub .int v4 (I 48) λv5=>K (gq.fr a b v5 d e) h nx:=by kernel_rfl
theorem gq.fE:IR.run gq.t8 C N O K (gq.fr a b c d e) h nx =
 zb .add .int d (I 1) λv1=>K (gq.fr a b c v1 e) h nx:=by kernel_rfl
theorem gq.oN (Inv:Nat->AV->AV->T Blk->Pa->Prop) {m:Nat} (hm:m<N) (hi:Inv m c d h nx)
  (step:∀ (m:Nat) (z2 z3 z4:AV) (h:T Blk) (nx:Pa) (R:Ks Prop),Inv m z2 z3 h nx->(∀ (m':Nat) (w2 w3 w4:AV) (h':T Blk) (nx':Pa),m'<m->Inv m' w2 w3 h' nx'->R (gq.fr a b w2 w3 w4) h' nx'=.ok True)->IR.run gq.t10 C N O R (gq.fr a b z2 z3 z4) h nx=.ok True) :
  IR.run gq.t11 C N O K (gq.fr a b c d e) h nx=.ok True:=by
 rw [gq.t11];refine yC (λm tm h nx=>∃ z2 z3 z4,tm=(gq.fr a b z2 z3 z4)/\Inv m z2 z3 h nx) ?_ hm ⟨_,_,_,rfl,hi⟩;rintro m tm h nx R ⟨z2,z3,z4,rfl,hi⟩ hR;exact step m z2 z3 z4 h nx R hi λm' w2 w3 w4 h' nx' hlt hi'=>hR m' _ h' nx' hlt ⟨_,_,_,rfl,hi'⟩
theorem gq.nT:IR.run gq.t14 C N O K (gq.fr a b c d e) h nx =
 K (gq.fr a c c d e) h nx:=by kernel_rfl
theorem gq.go:zR tbl N C (.of 209) [a0] h nx K0=IR.run gq.t18 C N (fnO gq.res K0) (zi gq.res K0) (gq.fr a0 .u .u .u .u) h nx:=yE (F:=gq) (by kernel_rfl) (λ_=>by kernel_rfl) (by kernel_rfl)
theorem gq.ret:zi gq.res K0 (gq.fr a b c d e) h nx=K0 b h nx:=by kernel_rfl
theorem yw.zw:IR.run yw.t0 C N O K (yw.fr a b c d e f) h nx =
 yW [(.bool false),.za] h nx λv1 h2 n3=>K (yw.fr a v1 c d e f) h2 n3:=by kernel_rfl
theorem yw.zu:IR.run yw.t1 C N O K (yw.fr a b c d e f) h nx =
 kV a λv1=>zb .gtr .int v1 (I 0) λv2=>sG v2 true (λk=>k a) λv3=>sG v2 true (λk=>j0 v3 (I 0) k) λv4=>sG v2 true (λk=>zb .eql .int v4 (.int .u8 45) k) λv5=>yZ v2 v5 (.bool false) λv6=>K (yw.fr a b v6 d e f) h nx:=by kernel_rfl
theorem yw.jd:IR.run yw.t2 C N O K (yw.fr a b c d e f) h nx =
 K (yw.fr a b c d c f) h nx:=by kernel_rfl
theorem yw.pu:IR.run yw.t3 C N O K (yw.fr a b c d e f) h nx =
 gJ a (some (I 1)) none λv1=>K (yw.fr v1 b c d e f) h nx:=by kernel_rfl
theorem yw.v4:Arg.ev (.t (.of 4)) ⟨(yw.fr a b c d e f),[]⟩=e:=by kernel_rfl
theorem yw.ku:IR.run yw.t6 C N O K (yw.fr a b c d e f) h nx =
 K (yw.fr a b c .za e f) h nx:=by kernel_rfl
theorem yw.fe:IR.run yw.t7 C N O K (yw.fr a b c d e f) h nx =
 kV a λv1=>zb .gtr .int v1 (I 9) λv2=>K (yw.fr a b c d e v2) h nx:=by kernel_rfl
theorem yw.v5:Arg.ev (.t (.of 5)) ⟨(yw.fr a b c d e f),[]⟩=f:=by kernel_rfl
theorem yw.nX:IR.run yw.t10 C N O K (yw.fr a b c d e f) h nx =
 kV a λv1=>zb .sub .int v1 (I 9) λv2=>gJ a (some v2) none λv3=>C.fn 209 (.of 209) [v3] h nx λv4 h5 n6=>yV 1 1 [(I 0)] [(0,1,v4)] h5 n6 λv7 h8 n9=>rJ 1 8 d v7 h8 n9 λvF hB nC=>K (yw.fr a b c vF e f) hB nC:=by kernel_rfl
theorem yw.dx:IR.run yw.t11 C N O K (yw.fr a b c d e f) h nx =
 kV a λv1=>zb .sub .int v1 (I 9) λv2=>gJ a none (some v2) λv3=>K (yw.fr v3 b c d e f) h nx:=by kernel_rfl
theorem yw.zfb (Inv:Nat->AV->AV->T Blk->Pa->Prop) {m:Nat} (hm:m<N) (hi:Inv m a d h nx)
  (step:∀ (m:Nat) (z0 z3 z5:AV) (h:T Blk) (nx:Pa) (R:Ks Prop),Inv m z0 z3 h nx->(∀ (m':Nat) (w0 w3 w5:AV) (h':T Blk) (nx':Pa),m'<m->Inv m' w0 w3 h' nx'->R (yw.fr w0 b c w3 e w5) h' nx'=.ok True)->IR.run yw.t14 C N O R (yw.fr z0 b c z3 e z5) h nx=.ok True) :
  IR.run yw.t15 C N O K (yw.fr a b c d e f) h nx=.ok True:=by
 rw [yw.t15];refine yC (λm tm h nx=>∃ z0 z3 z5,tm=(yw.fr z0 b c z3 e z5)/\Inv m z0 z3 h nx) ?_ hm ⟨_,_,_,rfl,hi⟩;rintro m tm h nx R ⟨z0,z3,z5,rfl,hi⟩ hR;exact step m z0 z3 z5 h nx R hi λm' w0 w3 w5 h' nx' hlt hi'=>hR m' _ h' nx' hlt ⟨_,_,_,rfl,hi'⟩
theorem yw.tT:IR.run yw.t17 C N O K (yw.fr a b c d e f) h nx =
 C.fn 209 (.of 209) [a] h nx λv1 h2 n3=>yV 1 1 [(I 0)] [(0,1,v1)] h2 n3 λv4 h5 n6=>rJ 1 8 d v4 h5 n6 λv7 h8 n9=>C.fn 214 (.of 214) [c,v7] h8 n9 λvF hB nC=>zS 2 b vF hB nC λvH hI nJ=>K (yw.fr a b c d e f) hI nJ:=by kernel_rfl
theorem yw.go:zR tbl N C (.of 205) [a0] h nx K0=IR.run yw.t23 C N (fnO yw.res K0) (zi yw.res K0) (yw.fr a0 .u .u .u .u .u) h nx:=yE (F:=yw) (by kernel_rfl) (λ_=>by kernel_rfl) (by kernel_rfl)
theorem yw.ret:zi yw.res K0 (yw.fr a b c d e f) h nx=zJ 2 b h λv1=>K0 v1 h nx:=by kernel_rfl
theorem jl.zw:IR.run jl.t0 C N O K (jl.fr a b c d e) h nx =
 K (jl.fr a (I 0) c d e) h nx:=by kernel_rfl
theorem jl.zu:IR.run jl.t1 C N O K (jl.fr a b c d e) h nx =
 K (jl.fr a b (I 0) d e) h nx:=by kernel_rfl
theorem jl.jd:IR.run jl.t2 C N O K (jl.fr a b c d e) h nx =
 kV a λv1=>zb .lss .int c v1 λv2=>K (jl.fr a b c v2 e) h nx:=by kernel_rfl
theorem jl.v3:Arg.ev (.t (.of 3)) ⟨(jl.fr a b c d e),[]⟩=d:=by kernel_rfl
theorem jl.ny:IR.run jl.t5 C N O K (jl.fr a b c d e) h nx =
 j0 a c λv1=>zb .eql .int v1 (.int .u8 47) λv2=>K (jl.fr a b c d v2) h nx:=by kernel_rfl
theorem jl.ku:IR.run jl.t6 C N O K (jl.fr a b c d e) h nx =
 K (jl.fr a c c d e) h nx:=by kernel_rfl
theorem jl.v4:Arg.ev (.t (.of 4)) ⟨(jl.fr a b c d e),[]⟩=e:=by kernel_rfl
theorem jl.dx:IR.run jl.t11 C N O K (jl.fr a b c d e) h nx =
 zb .add .int c (I 1) λv1=>K (jl.fr a b v1 d e) h nx:=by kernel_rfl
theorem jl.zmx (Inv:Nat->AV->T Blk->Pa->Prop) {m:Nat} (hm:m<N) (hi:Inv m c h nx)
  (step:∀ (m:Nat) (z1 z2 z3 z4:AV) (h:T Blk) (nx:Pa) (R:Ks Prop),Inv m z2 h nx->(∀ (m':Nat) (w1 w2 w3 w4:AV) (h':T Blk) (nx':Pa),m'<m->Inv m' w2 h' nx'->R (jl.fr a w1 w2 w3 w4) h' nx'=.ok True)->IR.run jl.t13 C N O R (jl.fr a z1 z2 z3 z4) h nx=.ok True) :
  IR.run jl.t14 C N O K (jl.fr a b c d e) h nx=.ok True:=by
 rw [jl.t14];refine yC (λm tm h nx=>∃ z1 z2 z3 z4,tm=(jl.fr a z1 z2 z3 z4)/\Inv m z2 h nx) ?_ hm ⟨_,_,_,_,rfl,hi⟩;rintro m tm h nx R ⟨z1,z2,z3,z4,rfl,hi⟩ hR;exact step m z1 z2 z3 z4 h nx R hi λm' w1 w2 w3 w4 h' nx' hlt hi'=>hR m' _ h' nx' hlt ⟨_,_,_,_,rfl,hi'⟩
theorem jl.tT:IR.run jl.t17 C N O K (jl.fr a b c d e) h nx =
 kV a λv1=>K (jl.fr a v1 c d e) h nx:=by kernel_rfl
theorem jl.go:zR tbl N C (.of 206) [a0] h nx K0=IR.run jl.t20 C N (fnO jl.res K0) (zi jl.res K0) (jl.fr a0 .u .u .u .u) h nx:=yE (F:=jl) (by kernel_rfl) (λ_=>by kernel_rfl) (by kernel_rfl)
theorem jl.ret:zi jl.res K0 (jl.fr a b c d e) h nx=K0 b h nx:=by kernel_rfl
theorem kz.zw:IR.run kz.t0 C N O K (kz.fr a b c d e f) h nx =
 yW [(.bool false),.za] h nx λv1 h2 n3=>yW [(.bool false),.za] h2 n3 λv4 h5 n6=>K (kz.fr a v1 v4 d e f) h5 n6:=by kernel_rfl
theorem kz.zu:IR.run kz.t1 C N O K (kz.fr a b c d e f) h nx =
 K (kz.fr a b c a e f) h nx:=by kernel_rfl
theorem kz.jd:IR.run kz.t2 C N O K (kz.fr a b c d e f) h nx =
 C.fn 206 (.of 206) [d] h nx λv1 h2 n3=>K (kz.fr a b c d v1 f) h2 n3:=by kernel_rfl
theorem kz.pu:IR.run kz.t3 C N O K (kz.fr a b c d e f) h nx =
 kV d λv1=>zb .eql .int e v1 λv2=>K (kz.fr a b c d e v2) h nx:=by kernel_rfl
theorem kz.fG:IR.run kz.t4 C N O K (kz.fr a b c d e f) h nx =
 C.fn 205 (.of 205) [d] h nx λv1 h2 n3=>C.fn 134 (.of 134) [(I 1)] h2 n3 λv4 h5 n6=>zS 2 b v1 h5 n6 λv7 h8 n9=>zS 2 c v4 h8 n9 λvF hB nC=>K (kz.fr a b c d e f) hB nC:=by kernel_rfl
theorem kz.v5:Arg.ev (.t (.of 5)) ⟨(kz.fr a b c d e f),[]⟩=f:=by kernel_rfl
theorem kz.fE:IR.run kz.t8 C N O K (kz.fr a b c d e f) h nx =
 gJ d none (some e) λv1=>zb .add .int e (I 1) λv2=>gJ d (some v2) none λv3=>C.fn 205 (.of 205) [v1] h nx λv4 h5 n6=>(gJ d (some v2) none λvA=>zO vA v3 ((zb .add .int e (I 1) λvB=>zO vB v2 (zO e e (zO d d (C.fn 205 (.of 205) [v3] h5 n6 λv7 h8 n9=>zS 2 b v4 h8 n9 λvF hB nC=>zS 2 c v7 hB nC λvH hI nJ=>K (kz.fr a b c d e f) hI nJ)))))):=by kernel_rfl
theorem kz.go:zR tbl N C (.of 129) [a0] h nx K0=IR.run kz.t13 C N (fnO kz.res K0) (zi kz.res K0) (kz.fr a0 .u .u .u .u .u) h nx:=yE (F:=kz) (by kernel_rfl) (λ_=>by kernel_rfl) (by kernel_rfl)
theorem kz.ret:zi kz.res K0 (kz.fr a b c d e f) h nx=zJ 2 b h λv1=>zJ 2 c h λv2=>K0 (.tup [v1,v2]) h nx:=by kernel_rfl
theorem zo.zw:IR.run zo.t0 C N O K (zo.fr a b c d e f g j q s i l p o) h nx =
 K (zo.fr a (I 0) (I 0) (.bool false) e f g j q s i l p o) h nx:=by kernel_rfl
theorem zo.zu:IR.run zo.t1 C N O K (zo.fr a b c d e f g j q s i l p o) h nx =
 K (zo.fr a b c d a f g j q s i l p o) h nx:=by kernel_rfl
theorem zo.jd:IR.run zo.t2 C N O K (zo.fr a b c d e f g j q s i l p o) h nx =
 kV e λv1=>zb .gtr .int v1 (I 20) λv2=>K (zo.fr a b c d e f g j q v2 i l p o) h nx:=by kernel_rfl
theorem zo.v9:Arg.ev (.t (.of 9)) ⟨(zo.fr a b c d e f g j q s i l p o),[]⟩=s:=by kernel_rfl
theorem zo.fe:IR.run zo.t7 C N O K (zo.fr a b c d e f g j q s i l p o) h nx =
 kV e λv1=>zb .gtr .int v1 (I 0) λv2=>sG v2 true (λk=>k e) λv3=>sG v2 true (λk=>j0 v3 (I 0) k) λv4=>sG v2 true (λk=>zb .eql .int v4 (.int .u8 45) k) λv5=>yZ v2 v5 (.bool false) λv6=>K (zo.fr a b c d e v6 g j q s i l p o) h nx:=by kernel_rfl
theorem zo.fE:IR.run zo.t8 C N O K (zo.fr a b c d e f g j q s i l p o) h nx =
 K (zo.fr a b c d e f g j q s f l p o) h nx:=by kernel_rfl
theorem zo.nP:IR.run zo.t9 C N O K (zo.fr a b c d e f g j q s i l p o) h nx =
 gJ e (some (I 1)) none λv1=>K (zo.fr a b c d v1 f g j q s i l p o) h nx:=by kernel_rfl
theorem zo.v10:Arg.ev (.t (.of 10)) ⟨(zo.fr a b c d e f g j q s i l p o),[]⟩=i:=by kernel_rfl
theorem zo.rF:IR.run zo.t12 C N O K (zo.fr a b c d e f g j q s i l p o) h nx =
 C.fn 206 (.of 206) [e] h nx λv1 h2 n3=>K (zo.fr a b c d e f v1 j q s i l p o) h2 n3:=by kernel_rfl
theorem zo.nS:IR.run zo.t13 C N O K tm h nx=yB zo.r8_0 C ⟨tm,[]⟩ h nx (λtm h nx=>K tm.v h nx):=gI ..
theorem zo.zhy:yB (zo.zfd r) C ⟨(zo.fr a b c d e f g j q s i l p o),[]⟩ h nx Kt =
 zb .gtr .int g (I 9) λv1=>sG v1 false (λk=>k e) λv2=>sG v1 false (λk=>kV v2 k) λv3=>sG v1 false (λk=>k g) λv4=>sG v1 false (λk=>zb .sub .int v3 v4 k) λv5=>sG v1 false (λk=>zb .gtr .int v5 (I 10) k) λv6=>yB r C ⟨(zo.fr a b c d e f g j q s i l p o),v6::v5::v4::v3::v2::v1::v1::g::[]⟩ h nx Kt:=by kernel_rfl
theorem zo.zhz:yB (zo.zfe []) C ⟨(zo.fr a b c d e f g j q s i l p o),s0::s1::s2::s3::s4::s5::sT⟩ h nx Kt =
 yZ s5 (.bool true) s0 λv1=>Kt ⟨(zo.fr a b c d e f g j q s i v1 p o),s0::s1::s2::s3::s4::s5::sT⟩ h nx:=by kernel_rfl
theorem zo.v11:Arg.ev (.t (.of 11)) ⟨(zo.fr a b c d e f g j q s i l p o),[]⟩=l:=by kernel_rfl
theorem zo.aT:IR.run zo.t18 C N O K (zo.fr a b c d e f g j q s i l p o) h nx =
 gJ e none (some g) λv1=>C.fn 209 (.of 209) [v1] h nx λv2 h3 n4=>K (zo.fr a b c d e f g v2 (I 1) s i l p o) h3 n4:=by kernel_rfl
theorem zo.rH:IR.run zo.t19 C N O K (zo.fr a b c d e f g j q s i l p o) h nx =
 kV e λv1=>zb .lss .int g v1 λv2=>K (zo.fr a b c d e f g j q s i l v2 o) h nx:=by kernel_rfl
theorem zo.sQ:IR.run zo.t20 C N O K (zo.fr a b c d e f g j q s i l p o) h nx =
 zb .add .int g (I 1) λv1=>gJ e (some v1) none λv2=>C.fn 209 (.of 209) [v2] h nx λv3 h4 n5=>K (zo.fr a b c d e f g j v3 s i l p o) h4 n5:=by kernel_rfl
theorem zo.v12:Arg.ev (.t (.of 12)) ⟨(zo.fr a b c d e f g j q s i l p o),[]⟩=p:=by kernel_rfl
theorem zo.zff:IR.run zo.t23 C N O K (zo.fr a b c d e f g j q s i l p o) h nx =
 K (zo.fr a b c d e f g j q s i l p f) h nx:=by kernel_rfl
theorem zo.zmw:IR.run zo.t24 C N O K (zo.fr a b c d e f g j q s i l p o) h nx =
 zb .sub .int (I 0) j λv1=>K (zo.fr a b c d e f g v1 q s i l p o) h nx:=by kernel_rfl
theorem zo.v13:Arg.ev (.t (.of 13)) ⟨(zo.fr a b c d e f g j q s i l p o),[]⟩=o:=by kernel_rfl
theorem zo.zjm:IR.run zo.t27 C N O K (zo.fr a b c d e f g j q s i l p o) h nx =
 K (zo.fr a j q (.bool true) e f g j q s i l p o) h nx:=by kernel_rfl
theorem zo.go:zR tbl N C (.of 127) [a0] h nx K0=IR.run zo.t38 C N (fnO zo.res K0) (zi zo.res K0) (zo.fr a0 .u .u .u .u .u .u .u .u .u .u .u .u .u) h nx:=yE (F:=zo) (by kernel_rfl) (λ_=>by kernel_rfl) (by kernel_rfl)
theorem zo.ret:zi zo.res K0 (zo.fr a b c d e f g j q s i l p o) h nx=K0 (.tup [b,c,d]) h nx:=by kernel_rfl
theorem zx.zw:IR.run zx.t0 C N O K (zx.fr a b c d e f g j q) h nx =
 K (zx.fr a b (.str []) d e f g j q) h nx:=by kernel_rfl
theorem zx.zu:IR.run zx.t1 C N O K tm h nx=yB zx.sD C ⟨tm,[]⟩ h nx (λtm h nx=>K tm.v h nx):=gI ..
theorem zx.sF:yB (zx.rP r) C ⟨(zx.fr a b c d e f g j q),[]⟩ h nx Kt =
 zb .lss .int a (I (-4000000000000000000)) λv1=>sG v1 false (λk=>k a) λv2=>sG v1 false (λk=>zb .gtr .int v2 (I 4000000000000000000) k) λv3=>yZ v1 (.bool true) v3 λv4=>sG v4 false (λk=>k b) λv5=>yB r C ⟨(zx.fr a b c d e f g j q),v5::v4::v4::v3::v2::v1::v1::a::[]⟩ h nx Kt:=by kernel_rfl
theorem zx.rU:yB (zx.rQ []) C ⟨(zx.fr a b c d e f g j q),s0::s1::sT⟩ h nx Kt =
 sG s1 false (λk=>zb .lss .int s0 (I (-4000000000000000000)) k) λv1=>yZ s1 (.bool true) v1 λv2=>sG v2 false (λk=>k b) λv3=>sG v2 false (λk=>zb .gtr .int v3 (I 4000000000000000000) k) λv4=>yZ v2 (.bool true) v4 λv5=>Kt ⟨(zx.fr a b c d e v5 g j q),v4::v3::v2::v2::v1::s0::s1::sT⟩ h nx:=by kernel_rfl
theorem zx.v5:Arg.ev (.t (.of 5)) ⟨(zx.fr a b c d e f g j q),[]⟩=f:=by kernel_rfl
theorem zx.ku:IR.run zx.t6 C N O K (zx.fr a b c d e f g j q) h nx =
 zb .lss .int b (I 0) λv1=>K (zx.fr a b c d e f v1 j q) h nx:=by kernel_rfl
theorem zx.v6:Arg.ev (.t (.of 6)) ⟨(zx.fr a b c d e f g j q),[]⟩=g:=by kernel_rfl
theorem zx.nX:IR.run zx.t10 C N O K (zx.fr a b c d e f g j q) h nx =
 zb .sub .int (I 0) a λv1=>sMin true a [v1] λv2=>C.fn 210 (.of 210) [v2,b] h nx λv3 h4 n5=>K (zx.fr a b c v3 e f g j q) h4 n5:=by kernel_rfl
theorem zx.dx:IR.run zx.t11 C N O K (zx.fr a b c d e f g j q) h nx =
 zb .quo .int a d λv1=>zb .quo .int b d λv2=>K (zx.fr v1 v2 c d e f g j q) h nx:=by kernel_rfl
theorem zx.rF:IR.run zx.t12 C N O K (zx.fr a b c d e f g j q) h nx =
 K (zx.fr a b c d (.str []) f g j q) h nx:=by kernel_rfl
theorem zx.nS:IR.run zx.t13 C N O K (zx.fr a b c d e f g j q) h nx =
 zb .lss .int a (I 0) λv1=>K (zx.fr a b c d e f g v1 q) h nx:=by kernel_rfl
theorem zx.nT:IR.run zx.t14 C N O K (zx.fr a b c d e f g j q) h nx =
 K (zx.fr a b c d (.str [45]) f g j q) h nx:=by kernel_rfl
theorem zx.v7:Arg.ev (.t (.of 7)) ⟨(zx.fr a b c d e f g j q),[]⟩=j:=by kernel_rfl
theorem zx.tT:IR.run zx.t17 C N O K (zx.fr a b c d e f g j q) h nx =
 zb .sub .int (I 0) a λv1=>sMin true a [v1] λv2=>C.fn 211 (.of 211) [v2,(I 1)] h nx λv3 h4 n5=>zb .add .str e v3 λv6=>K (zx.fr a b c d v6 f g j q) h4 n5:=by kernel_rfl
theorem zx.aT:IR.run zx.t18 C N O K (zx.fr a b c d e f g j q) h nx =
 zb .gtr .int b (I 1) λv1=>K (zx.fr a b c d e f g j v1) h nx:=by kernel_rfl
theorem zx.rH:IR.run zx.t19 C N O K (zx.fr a b c d e f g j q) h nx =
 zb .add .str e (.str [47]) λv1=>C.fn 211 (.of 211) [b,(I 1)] h nx λv2 h3 n4=>zb .add .str v1 v2 λv5=>K (zx.fr a b c d v5 f g j q) h3 n4:=by kernel_rfl
theorem zx.v8:Arg.ev (.t (.of 8)) ⟨(zx.fr a b c d e f g j q),[]⟩=q:=by kernel_rfl
theorem zx.rW:IR.run zx.t22 C N O K (zx.fr a b c d e f g j q) h nx =
 K (zx.fr a b e d e f g j q) h nx:=by kernel_rfl
theorem zx.go:zR tbl N C (.of 128) [a0,a1] h nx K0=IR.run zx.t32 C N (fnO zx.res K0) (zi zx.res K0) (zx.fr a0 a1 .u .u .u .u .u .u .u) h nx:=yE (F:=zx) (by kernel_rfl) (λ_=>by kernel_rfl) (by kernel_rfl)
theorem zx.ret:zi zx.res K0 (zx.fr a b c d e f g j q) h nx=K0 c h nx:=by kernel_rfl
theorem F40.zw:IR.run F40.t0 C N O K (F40.fr a b c d e f g j q s i l p o) h nx =
 K (F40.fr a b (.str []) d e f g j q s i l p o) h nx:=by kernel_rfl
theorem F40.zu:IR.run F40.t1 C N O K (F40.fr a b c d e f g j q s i l p o) h nx =
 C.fn 127 (.of 127) [a] h nx λv1 h2 n3=>fw 0 v1 λv4=>fw 1 v1 λv5=>fw 2 v1 λv6=>K (F40.fr a b c v4 v5 v6 g j q s i l p o) h2 n3:=by kernel_rfl
theorem F40.jd:IR.run F40.t2 C N O K (F40.fr a b c d e f g j q s i l p o) h nx =
 C.fn 127 (.of 127) [b] h nx λv1 h2 n3=>fw 0 v1 λv4=>fw 1 v1 λv5=>fw 2 v1 λv6=>K (F40.fr a b c d e f v4 v5 v6 s i l p o) h2 n3:=by kernel_rfl
theorem F40.pu:IR.run F40.t3 C N O K (F40.fr a b c d e f g j q s i l p o) h nx =
 sG f true (λk=>k q) λv1=>yZ f v1 (.bool false) λv2=>K (F40.fr a b c d e f g j q s i l p v2) h nx:=by kernel_rfl
theorem F40.fG:IR.run F40.t4 C N O K (F40.fr a b c d e f g j q s i l p o) h nx =
 zb .mul .int d j λv1=>zb .mul .int g e λv2=>zb .add .int v1 v2 λv3=>zb .mul .int e j λv4=>C.fn 128 (.of 128) [v3,v4] h nx λv5 h6 n7=>K (F40.fr a b v5 d e f g j q s i l p o) h6 n7:=by kernel_rfl
theorem F40.v13:Arg.ev (.t (.of 13)) ⟨(F40.fr a b c d e f g j q s i l p o),[]⟩=o:=by kernel_rfl
theorem F40.go:zR tbl N C (.of 40) [a0,a1] h nx K0=IR.run F40.t17 C N (fnO F40.res K0) (zi F40.res K0) (F40.fr a0 a1 .u .u .u .u .u .u .u .u .u .u .u .u) h nx:=yE (F:=F40) (by kernel_rfl) (λ_=>by kernel_rfl) (by kernel_rfl)
theorem F40.ret:zi F40.res K0 (F40.fr a b c d e f g j q s i l p o) h nx=K0 c h nx:=by kernel_rfl
theorem F41.zw:IR.run F41.t0 C N O K (F41.fr a b c d e f g j q s i l p o) h nx =
 K (F41.fr a b (.str []) d e f g j q s i l p o) h nx:=by kernel_rfl
theorem F41.zu:IR.run F41.t1 C N O K (F41.fr a b c d e f g j q s i l p o) h nx =
 C.fn 127 (.of 127) [a] h nx λv1 h2 n3=>fw 0 v1 λv4=>fw 1 v1 λv5=>fw 2 v1 λv6=>K (F41.fr a b c v4 v5 v6 g j q s i l p o) h2 n3:=by kernel_rfl
theorem F41.jd:IR.run F41.t2 C N O K (F41.fr a b c d e f g j q s i l p o) h nx =
 C.fn 127 (.of 127) [b] h nx λv1 h2 n3=>fw 0 v1 λv4=>fw 1 v1 λv5=>fw 2 v1 λv6=>K (F41.fr a b c d e f v4 v5 v6 s i l p o) h2 n3:=by kernel_rfl
theorem F41.pu:IR.run F41.t3 C N O K (F41.fr a b c d e f g j q s i l p o) h nx =
 sG f true (λk=>k q) λv1=>yZ f v1 (.bool false) λv2=>K (F41.fr a b c d e f g j q s i l p v2) h nx:=by kernel_rfl
theorem F41.fG:IR.run F41.t4 C N O K (F41.fr a b c d e f g j q s i l p o) h nx =
 zb .mul .int d g λv1=>zb .mul .int e j λv2=>C.fn 128 (.of 128) [v1,v2] h nx λv3 h4 n5=>K (F41.fr a b v3 d e f g j q s i l p o) h4 n5:=by kernel_rfl
theorem F41.v13:Arg.ev (.t (.of 13)) ⟨(F41.fr a b c d e f g j q s i l p o),[]⟩=o:=by kernel_rfl
theorem F41.go:zR tbl N C (.of 41) [a0,a1] h nx K0=IR.run F41.t17 C N (fnO F41.res K0) (zi F41.res K0) (F41.fr a0 a1 .u .u .u .u .u .u .u .u .u .u .u .u) h nx:=yE (F:=F41) (by kernel_rfl) (λ_=>by kernel_rfl) (by kernel_rfl)
theorem F41.ret:zi F41.res K0 (F41.fr a b c d e f g j q s i l p o) h nx=K0 c h nx:=by kernel_rfl
theorem yg.zw:IR.run yg.t0 C N O K (yg.fr a b c d e f g j q s i) h nx =
 dw a h nx λv1 h2 n3=>dw b h2 n3 λv4 h5 n6=>K (yg.fr a b v1 v4 (.str []) f g j q s i) h5 n6:=by kernel_rfl
theorem yg.zu:IR.run yg.t1 C N O K (yg.fr a b c d e f g j q s i) h nx =
 zL 0 d λv1=>zH v1 h λv2=>K (yg.fr a b c d e f g j q v2 i) h nx:=by kernel_rfl
theorem yg.jd:IR.run yg.t2 C N O K (yg.fr a b c d e f g j q s i) h nx =
 zJ 2 c h λv1=>zJ 2 d h λv2=>C.fn 212 (.of 212) [v1] h nx λv3 h4 n5=>(zJ 2 d h4 λvE=>zO vE v2 (C.fn 212 (.of 212) [v2] h4 n5 λv6 h7 n8=>zS 2 c v3 h7 n8 λv9 hC nD=>zS 2 d v6 hC nD λvG hD nE=>K (yg.fr a b c d e f g j q s i) hD nE)):=by kernel_rfl
theorem yg.v9:Arg.ev (.t (.of 9)) ⟨(yg.fr a b c d e f g j q s i),[]⟩=s:=by kernel_rfl
theorem yg.ny:IR.run yg.t5 C N O K (yg.fr a b c d e f g j q s i) h nx =
 zL 1 c λv1=>zH v1 h λv2=>zL 1 d λv3=>zH v3 h λv4=>C.fn 208 (.of 208) [v2,v4] h nx λv5 h6 n7=>K (yg.fr a b c d e v5 g j q s i) h6 n7:=by kernel_rfl
theorem yg.ku:IR.run yg.t6 C N O K (yg.fr a b c d e f g j q s i) h nx =
 zL 1 c λv1=>zH v1 h λv2=>C.fn 213 (.of 213) [v2,f] h nx λv3 h4 n5=>fw 0 v3 λv6=>fw 1 v3 λv7=>K (yg.fr a b c d e f v6 j q s i) h4 n5:=by kernel_rfl
theorem yg.fe:IR.run yg.t7 C N O K (yg.fr a b c d e f g j q s i) h nx =
 zL 1 d λv1=>zH v1 h λv2=>C.fn 213 (.of 213) [v2,f] h nx λv3 h4 n5=>fw 0 v3 λv6=>fw 1 v3 λv7=>K (yg.fr a b c d e f g v6 q s i) h4 n5:=by kernel_rfl
theorem yg.fE:IR.run yg.t8 C N O K (yg.fr a b c d e f g j q s i) h nx =
 zL 0 c λv1=>zH v1 h λv2=>C.fn 214 (.of 214) [v2,g] h nx λv3 h4 n5=>C.fn 133 (.of 133) [v3] h4 n5 λv6 h7 n8=>K (yg.fr a b c d e f g j v6 s i) h7 n8:=by kernel_rfl
theorem yg.nP:IR.run yg.t9 C N O K tm h nx=yB yg.om C ⟨tm,[]⟩ h nx (λtm h nx=>K tm.v h nx):=gI ..
theorem yg.eD:yB (yg.eU r) C ⟨(yg.fr a b c d e f g j q s i),[]⟩ h nx Kt =
 sLen j λv1=>zb .eql .int v1 (I 1) λv2=>sG v2 true (λk=>k j) λv3=>sG v2 true (λk=>zK 1 v3 (I 0) k) λv4=>sG v2 true (λk=>zH v4 h k) λv5=>sG v2 true (λk=>zb .eql .int v5 (I 1) k) λv6=>yB r C ⟨(yg.fr a b c d e f g j q s i),v6::v5::v4::v3::v2::v2::v1::j::[]⟩ h nx Kt:=by kernel_rfl
theorem yg.tV:yB (yg.eX []) C ⟨(yg.fr a b c d e f g j q s i),s0::s1::s2::s3::s4::sT⟩ h nx Kt =
 yZ s4 s0 (.bool false) λv1=>Kt ⟨(yg.fr a b c d e f g j q s v1),s0::s1::s2::s3::s4::sT⟩ h nx:=by kernel_rfl
theorem yg.nX:IR.run yg.t10 C N O K (yg.fr a b c d e f g j q s i) h nx =
 K (yg.fr a b c d q f g j q s i) h nx:=by kernel_rfl
theorem yg.v10:Arg.ev (.t (.of 10)) ⟨(yg.fr a b c d e f g j q s i),[]⟩=i:=by kernel_rfl
theorem yg.nT:IR.run yg.t14 C N O K (yg.fr a b c d e f g j q s i) h nx =
 zb .add .str q (.str [47]) λv1=>C.fn 214 (.of 214) [(.bool false),j] h nx λv2 h3 n4=>C.fn 133 (.of 133) [v2] h3 n4 λv5 h6 n7=>zb .add .str v1 v5 λv8=>K (yg.fr a b c d v8 f g j q s i) h6 n7:=by kernel_rfl
theorem yg.go:zR tbl N C (.of 130) [a0,a1] h nx K0=IR.run yg.t22 C N (fnO yg.res K0) (zi yg.res K0) (yg.fr a0 a1 .u .u .u .u .u .u .u .u .u) h nx:=yE (F:=yg) (by kernel_rfl) (λ_=>by kernel_rfl) (by kernel_rfl)
theorem yg.ret:zi yg.res K0 (yg.fr a b c d e f g j q s i) h nx=K0 e h nx:=by kernel_rfl
theorem F99.zw:IR.run F99.t0 C N O K (F99.fr a b c) h nx =
 K (F99.fr a b (.str [])) h nx:=by kernel_rfl
theorem F99.zu:IR.run F99.t1 C N O K (F99.fr a b c) h nx =
 C.fn 189 (.of 189) [b] h nx λv1 h2 n3=>C.fn 40 (.of 40) [a,v1] h2 n3 λv4 h5 n6=>K (F99.fr a b v4) h5 n6:=by kernel_rfl
theorem F99.go:zR tbl N C (.of 99) [a0,a1] h nx K0=IR.run F99.t3 C N (fnO F99.res K0) (zi F99.res K0) (F99.fr a0 a1 .u) h nx:=yE (F:=F99) (by kernel_rfl) (λ_=>by kernel_rfl) (by kernel_rfl)
theorem F99.ret:zi F99.res K0 (F99.fr a b c) h nx=K0 c h nx:=by kernel_rfl
theorem uw.zw:IR.run uw.t0 C N O K (uw.fr a b c d) h nx =
 K (uw.fr a (.str []) c d) h nx:=by kernel_rfl
theorem uw.zu:IR.run uw.t1 C N O K (uw.fr a b c d) h nx =
 C.fn 255 (.of 255) [a] h nx λv1 h2 n3=>zb .lss .int v1 (I 0) λv4=>K (uw.fr a b v4 d) h2 n3:=by kernel_rfl
theorem uw.jd:IR.run uw.t2 C N O K (uw.fr a b c d) h nx =
 gJ a (some (I 1)) none λv1=>K (uw.fr a v1 c d) h nx:=by kernel_rfl
theorem uw.v2:Arg.ev (.t (.of 2)) ⟨(uw.fr a b c d),[]⟩=c:=by kernel_rfl
theorem uw.ku:IR.run uw.t6 C N O K (uw.fr a b c d) h nx =
 C.fn 255 (.of 255) [a] h nx λv1 h2 n3=>zb .eql .int v1 (I 0) λv4=>K (uw.fr a b c v4) h2 n3:=by kernel_rfl
theorem uw.fe:IR.run uw.t7 C N O K (uw.fr a b c d) h nx =
 K (uw.fr a a c d) h nx:=by kernel_rfl
theorem uw.v3:Arg.ev (.t (.of 3)) ⟨(uw.fr a b c d),[]⟩=d:=by kernel_rfl
theorem uw.dx:IR.run uw.t11 C N O K (uw.fr a b c d) h nx =
 zb .add .str (.str [45]) a λv1=>K (uw.fr a v1 c d) h nx:=by kernel_rfl
theorem uw.go:zR tbl N C (.of 189) [a0] h nx K0=IR.run uw.t15 C N (fnO uw.res K0) (zi uw.res K0) (uw.fr a0 .u .u .u) h nx:=yE (F:=uw) (by kernel_rfl) (λ_=>by kernel_rfl) (by kernel_rfl)
theorem uw.ret:zi uw.res K0 (uw.fr a b c d) h nx=K0 b h nx:=by kernel_rfl
theorem cO.zw:IR.run cO.t0 C N O K (cO.fr a b c d) h nx =
 K (cO.fr a (.str []) c d) h nx:=by kernel_rfl
theorem cO.zu:IR.run cO.t1 C N O K (cO.fr a b c d) h nx =
 C.fn 129 (.of 129) [a] h nx λv1 h2 n3=>fw 0 v1 λv4=>fw 1 v1 λv5=>yW [(.bool false),.za] h2 n3 λv6 h7 n8=>yW [(.bool false),.za] h7 n8 λv9 hC nD=>zS 2 v6 v4 hC nD λvG hD nE=>zS 2 v9 v5 hD nE λvE hG nH=>K (cO.fr a b v6 v9) hG nH:=by kernel_rfl
theorem cO.jd:IR.run cO.t2 C N O K (cO.fr a b c d) h nx =
 zJ 2 d h λv1=>zJ 2 c h λv2=>C.fn 130 (.of 130) [v1,v2] h nx λv3 h4 n5=>K (cO.fr a v3 c d) h4 n5:=by kernel_rfl
theorem cO.go:zR tbl N C (.of 203) [a0] h nx K0=IR.run cO.t5 C N (fnO cO.res K0) (zi cO.res K0) (cO.fr a0 .u .u .u) h nx:=yE (F:=cO) (by kernel_rfl) (λ_=>by kernel_rfl) (by kernel_rfl)
theorem cO.ret:zi cO.res K0 (cO.fr a b c d) h nx=K0 b h nx:=by kernel_rfl
theorem uq.zw:IR.run uq.t0 C N O K (uq.fr a b c d) h nx =
 K (uq.fr a (I 0) c d) h nx:=by kernel_rfl
theorem uq.zu:IR.run uq.t1 C N O K (uq.fr a b c d) h nx =
 zb .eql .str a (.str [48]) λv1=>K (uq.fr a b v1 d) h nx:=by kernel_rfl
theorem uq.jd:IR.run uq.t2 C N O K (uq.fr a b c d) h nx =
 K (uq.fr a (I 0) c d) h nx:=by kernel_rfl
theorem uq.v2:Arg.ev (.t (.of 2)) ⟨(uq.fr a b c d),[]⟩=c:=by kernel_rfl
theorem uq.ku:IR.run uq.t6 C N O K (uq.fr a b c d) h nx =
 kV a λv1=>zb .gtr .int v1 (I 0) λv2=>sG v2 true (λk=>k a) λv3=>sG v2 true (λk=>j0 v3 (I 0) k) λv4=>sG v2 true (λk=>zb .eql .int v4 (.int .u8 45) k) λv5=>yZ v2 v5 (.bool false) λv6=>K (uq.fr a b c v6) h nx:=by kernel_rfl
theorem uq.fe:IR.run uq.t7 C N O K (uq.fr a b c d) h nx =
 K (uq.fr a (I (-1)) c d) h nx:=by kernel_rfl
theorem uq.v3:Arg.ev (.t (.of 3)) ⟨(uq.fr a b c d),[]⟩=d:=by kernel_rfl
theorem uq.dx:IR.run uq.t11 C N O K (uq.fr a b c d) h nx =
 K (uq.fr a (I 1) c d) h nx:=by kernel_rfl
theorem uq.go:zR tbl N C (.of 255) [a0] h nx K0=IR.run uq.t15 C N (fnO uq.res K0) (zi uq.res K0) (uq.fr a0 .u .u .u) h nx:=yE (F:=uq) (by kernel_rfl) (λ_=>by kernel_rfl) (by kernel_rfl)
theorem uq.ret:zi uq.res K0 (uq.fr a b c d) h nx=K0 b h nx:=by kernel_rfl
theorem F39.zw:IR.run F39.t0 C N O K (F39.fr a b) h nx =
 K (F39.fr a (.bool false)) h nx:=by kernel_rfl
theorem F39.zu:IR.run F39.t1 C N O K (F39.fr a b) h nx =
 zb .eql .str a (.str [48]) λv1=>K (F39.fr a v1) h nx:=by kernel_rfl
theorem F39.go:zR tbl N C (.of 39) [a0] h nx K0=IR.run F39.t3 C N (fnO F39.res K0) (zi F39.res K0) (F39.fr a0 .u) h nx:=yE (F:=F39) (by kernel_rfl) (λ_=>by kernel_rfl) (by kernel_rfl)
theorem F39.ret:zi F39.res K0 (F39.fr a b) h nx=K0 b h nx:=by kernel_rfl
theorem gu.zw:IR.run gu.t0 C N O K (gu.fr a b c d e) h nx =
 K (gu.fr a .za c d e) h nx:=by kernel_rfl
theorem gu.zu:IR.run gu.t1 C N O K (gu.fr a b c d e) h nx =
 K (gu.fr a b .za d e) h nx:=by kernel_rfl
theorem gu.jd:IR.run gu.t2 C N O K (gu.fr a b c d e) h nx =
 K (gu.fr a b c (I 0) e) h nx:=by kernel_rfl
theorem gu.pu:IR.run gu.t3 C N O K (gu.fr a b c d e) h nx =
 sLen a λv1=>zb .lss .int d v1 λv2=>K (gu.fr a b c d v2) h nx:=by kernel_rfl
theorem gu.v4:Arg.ev (.t (.of 4)) ⟨(gu.fr a b c d e),[]⟩=e:=by kernel_rfl
theorem gu.ku:IR.run gu.t6 C N O K (gu.fr a b c d e) h nx =
 yV 1 0 [(.str [])] [] h nx λv1 h2 n3=>zK 1 a d λv4=>zH v4 h2 λv5=>rJ 1 16 v1 v5 h2 n3 λv6 h7 n8=>yV 1 1 [.za] [(0,1,v6)] h7 n8 λv9 hC nD=>rJ 1 24 c v9 hC nD λvG hD nE=>K (gu.fr a b vG d e) hD nE:=by kernel_rfl
theorem gu.fE:IR.run gu.t8 C N O K (gu.fr a b c d e) h nx =
 zb .add .int d (I 1) λv1=>K (gu.fr a b c v1 e) h nx:=by kernel_rfl
theorem gu.oN (Inv:Nat->AV->AV->T Blk->Pa->Prop) {m:Nat} (hm:m<N) (hi:Inv m c d h nx)
  (step:∀ (m:Nat) (z2 z3 z4:AV) (h:T Blk) (nx:Pa) (R:Ks Prop),Inv m z2 z3 h nx->(∀ (m':Nat) (w2 w3 w4:AV) (h':T Blk) (nx':Pa),m'<m->Inv m' w2 w3 h' nx'->R (gu.fr a b w2 w3 w4) h' nx'=.ok True)->IR.run gu.t10 C N O R (gu.fr a b z2 z3 z4) h nx=.ok True) :
  IR.run gu.t11 C N O K (gu.fr a b c d e) h nx=.ok True:=by
 rw [gu.t11];refine yC (λm tm h nx=>∃ z2 z3 z4,tm=(gu.fr a b z2 z3 z4)/\Inv m z2 z3 h nx) ?_ hm ⟨_,_,_,rfl,hi⟩;rintro m tm h nx R ⟨z2,z3,z4,rfl,hi⟩ hR;exact step m z2 z3 z4 h nx R hi λm' w2 w3 w4 h' nx' hlt hi'=>hR m' _ h' nx' hlt ⟨_,_,_,rfl,hi'⟩
theorem gu.nT:IR.run gu.t14 C N O K (gu.fr a b c d e) h nx =
 K (gu.fr a c c d e) h nx:=by kernel_rfl
theorem gu.go:zR tbl N C (.of 256) [a0] h nx K0=IR.run gu.t18 C N (fnO gu.res K0) (zi gu.res K0) (gu.fr a0 .u .u .u .u) h nx:=yE (F:=gu) (by kernel_rfl) (λ_=>by kernel_rfl) (by kernel_rfl)
theorem gu.ret:zi gu.res K0 (gu.fr a b c d e) h nx=K0 b h nx:=by kernel_rfl
theorem vz.zw:IR.run vz.t0 C N O K (vz.fr a b c) h nx =
 K (vz.fr a (I 0) c) h nx:=by kernel_rfl
theorem vz.zu:IR.run vz.t1 C N O K (vz.fr a b c) h nx =
 sLen a λv1=>zb .eql .int v1 (I 0) λv2=>K (vz.fr a b v2) h nx:=by kernel_rfl
theorem vz.v2:Arg.ev (.t (.of 2)) ⟨(vz.fr a b c),[]⟩=c:=by kernel_rfl
theorem vz.ku:IR.run vz.t6 C N O K (vz.fr a b c) h nx =
 zK 1 a (I 0) λv1=>zH v1 h λv2=>sLen v2 λv3=>K (vz.fr a v3 c) h nx:=by kernel_rfl
theorem vz.go:zR tbl N C (.of 196) [a0] h nx K0=IR.run vz.t9 C N (fnO vz.res K0) (zi vz.res K0) (vz.fr a0 .u .u) h nx:=yE (F:=vz) (by kernel_rfl) (λ_=>by kernel_rfl) (by kernel_rfl)
theorem vz.ret:zi vz.res K0 (vz.fr a b c) h nx=K0 b h nx:=by kernel_rfl
theorem F29.zw:IR.run F29.t0 C N O K (F29.fr a b c d e f g) h nx =
 K (F29.fr a b (.bool false) d e f g) h nx:=by kernel_rfl
theorem F29.zu:IR.run F29.t1 C N O K (F29.fr a b c d e f g) h nx =
 sLen a λv1=>sLen b λv2=>zb .neq .int v1 v2 λv3=>K (F29.fr a b c d v3 f g) h nx:=by kernel_rfl
theorem F29.jd:IR.run F29.t2 C N O K (F29.fr a b c d e f g) h nx =
 K (F29.fr a b (.bool false) d e f g) h nx:=by kernel_rfl
theorem F29.v4:Arg.ev (.t (.of 4)) ⟨(F29.fr a b c d e f g),[]⟩=e:=by kernel_rfl
theorem F29.ku:IR.run F29.t6 C N O K (F29.fr a b c d e f g) h nx =
 K (F29.fr a b c (I 0) e f g) h nx:=by kernel_rfl
theorem F29.fe:IR.run F29.t7 C N O K (F29.fr a b c d e f g) h nx =
 sLen a λv1=>zb .lss .int d v1 λv2=>K (F29.fr a b c d e v2 g) h nx:=by kernel_rfl
theorem F29.v5:Arg.ev (.t (.of 5)) ⟨(F29.fr a b c d e f g),[]⟩=f:=by kernel_rfl
theorem F29.nX:IR.run F29.t10 C N O K (F29.fr a b c d e f g) h nx =
 zK 1 a d λv1=>zH v1 h λv2=>zK 1 b d λv3=>zH v3 h λv4=>zb .neq .str v2 v4 λv5=>K (F29.fr a b c d e f v5) h nx:=by kernel_rfl
theorem F29.dx:IR.run F29.t11 C N O K (F29.fr a b c d e f g) h nx =
 K (F29.fr a b (.bool false) d e f g) h nx:=by kernel_rfl
theorem F29.v6:Arg.ev (.t (.of 6)) ⟨(F29.fr a b c d e f g),[]⟩=g:=by kernel_rfl
theorem F29.rG:IR.run F29.t16 C N O K (F29.fr a b c d e f g) h nx =
 zb .add .int d (I 1) λv1=>K (F29.fr a b c v1 e f g) h nx:=by kernel_rfl
theorem F29.zmy (Inv:Nat->AV->T Blk->Pa->Prop) {m:Nat} (hm:m<N) (hi:Inv m d h nx)
  (step:∀ (m:Nat) (z2 z3 z5 z6:AV) (h:T Blk) (nx:Pa) (R:Ks Prop),Inv m z3 h nx->(∀ (m':Nat) (w2 w3 w5 w6:AV) (h':T Blk) (nx':Pa),m'<m->Inv m' w3 h' nx'->R (F29.fr a b w2 w3 e w5 w6) h' nx'=.ok True)->IR.run F29.t18 C N O R (F29.fr a b z2 z3 e z5 z6) h nx=.ok True) :
  IR.run F29.t19 C N O K (F29.fr a b c d e f g) h nx=.ok True:=by
 rw [F29.t19];refine yC (λm tm h nx=>∃ z2 z3 z5 z6,tm=(F29.fr a b z2 z3 e z5 z6)/\Inv m z3 h nx) ?_ hm ⟨_,_,_,_,rfl,hi⟩;rintro m tm h nx R ⟨z2,z3,z5,z6,rfl,hi⟩ hR;exact step m z2 z3 z5 z6 h nx R hi λm' w2 w3 w5 w6 h' nx' hlt hi'=>hR m' _ h' nx' hlt ⟨_,_,_,_,rfl,hi'⟩
theorem F29.rW:IR.run F29.t22 C N O K (F29.fr a b c d e f g) h nx =
 K (F29.fr a b (.bool true) d e f g) h nx:=by kernel_rfl
theorem F29.go:zR tbl N C (.of 29) [a0,a1] h nx K0=IR.run F29.t26 C N (fnO F29.res K0) (zi F29.res K0) (F29.fr a0 a1 .u .u .u .u .u) h nx:=yE (F:=F29) (by kernel_rfl) (λ_=>by kernel_rfl) (by kernel_rfl)
theorem F29.ret:zi F29.res K0 (F29.fr a b c d e f g) h nx=K0 c h nx:=by kernel_rfl
theorem ze.zw:IR.run ze.t0 C N O K (ze.fr a b c d e f g j q s i l p o u v w y z) h nx =
 K (ze.fr a .za .za d e f g j q s i l p o u v w y z) h nx:=by kernel_rfl
theorem ze.zu:IR.run ze.t1 C N O K (ze.fr a b c d e f g j q s i l p o u v w y z) h nx =
 C.fn 256 (.of 256) [a] h nx λv1 h2 n3=>K (ze.fr v1 b c d e f g j q s i l p o u v w y z) h2 n3:=by kernel_rfl
theorem ze.jd:IR.run ze.t2 C N O K (ze.fr a b c d e f g j q s i l p o u v w y z) h nx =
 K (ze.fr a b c .za e f g j q s i l p o u v w y z) h nx:=by kernel_rfl
theorem ze.pu:IR.run ze.t3 C N O K (ze.fr a b c d e f g j q s i l p o u v w y z) h nx =
 K (ze.fr a b c d (I 0) f g j q s i l p o u v w y z) h nx:=by kernel_rfl
theorem ze.fG:IR.run ze.t4 C N O K tm h nx=yB ze.r4_0 C ⟨tm,[]⟩ h nx (λtm h nx=>K tm.v h nx):=gI ..
theorem ze.zh0:yB (ze.zfg r) C ⟨(ze.fr a b c d e f g j q s i l p o u v w y z),[]⟩ h nx Kt =
 C.fn 196 (.of 196) [a] h nx λv1 h2 n3=>yB r C ⟨(ze.fr a b c d e f g j q s i l p o u v w y z),v1::a::e::[]⟩ h2 n3 Kt:=by kernel_rfl
theorem ze.zh1:yB (ze.zfh []) C ⟨(ze.fr a b c d e f g j q s i l p o u v w y z),s0::s1::s2::[]⟩ h nx Kt =
 zb .lss .int s2 s0 λv1=>sG v1 true (λk=>k d) λv2=>sG v1 true (λk=>sLen v2 k) λv3=>sG v1 true (λk=>k a) λv4=>sG v1 true (λk=>sLen v4 k) λv5=>sG v1 true (λk=>zb .lss .int v3 v5 k) λv6=>yZ v1 v6 (.bool false) λv7=>Kt ⟨(ze.fr a b c d e f g j q s i l v7 o u v w y z),v6::v5::v4::v3::v2::v1::v1::s0::s1::s2::[]⟩ h nx:=by kernel_rfl
theorem ze.v12:Arg.ev (.t (.of 12)) ⟨(ze.fr a b c d e f g j q s i l p o u v w y z),[]⟩=p:=by kernel_rfl
theorem ze.fe:IR.run ze.t7 C N O K (ze.fr a b c d e f g j q s i l p o u v w y z) h nx =
 sLen d λv1=>K (ze.fr a b c d e v1 g j q s i l p o u v w y z) h nx:=by kernel_rfl
theorem ze.fE:IR.run ze.t8 C N O K tm h nx=yB ze.om C ⟨tm,[]⟩ h nx (λtm h nx=>K tm.v h nx):=gI ..
theorem ze.eD:yB (ze.eU r) C ⟨(ze.fr a b c d e f g j q s i l p o u v w y z),[]⟩ h nx Kt =
 sLen a λv1=>zb .lss .int f v1 λv2=>sG v2 true (λk=>k a) λv3=>sG v2 true (λk=>k f) λv4=>sG v2 true (λk=>zK 1 v3 v4 k) λv5=>yB r C ⟨(ze.fr a b c d e f g j q s i l p o u v w y z),v5::v4::v3::v2::v2::v1::a::f::[]⟩ h nx Kt:=by kernel_rfl
theorem ze.tV:yB (ze.eX r) C ⟨(ze.fr a b c d e f g j q s i l p o u v w y z),s0::s1::s2::s3::sT⟩ h nx Kt =
 sG s3 true (λk=>zH s0 h k) λv1=>sG s3 true (λk=>k e) λv2=>sG s3 true (λk=>zK 1 v1 v2 k) λv3=>sG s3 true (λk=>zH v3 h k) λv4=>sGW s3 true (λk=>C.fn 39 (.of 39) [v4] h nx k) h nx λv5 h6 n7=>yB r C ⟨(ze.fr a b c d e f g j q s i l p o u v w y z),v5::v4::v3::v2::v1::s0::s1::s2::s3::sT⟩ h6 n7 Kt:=by kernel_rfl
theorem ze.zdp:yB (ze.zfi []) C ⟨(ze.fr a b c d e f g j q s i l p o u v w y z),s0::s1::s2::s3::s4::s5::s6::s7::s8::sT⟩ h nx Kt =
 yZ s8 s0 (.bool false) λv1=>Kt ⟨(ze.fr a b c d e f g j q s i l p v1 u v w y z),s0::s1::s2::s3::s4::s5::s6::s7::s8::sT⟩ h nx:=by kernel_rfl
theorem ze.v13:Arg.ev (.t (.of 13)) ⟨(ze.fr a b c d e f g j q s i l p o u v w y z),[]⟩=o:=by kernel_rfl
theorem ze.dx:IR.run ze.t11 C N O K (ze.fr a b c d e f g j q s i l p o u v w y z) h nx =
 zb .add .int f (I 1) λv1=>K (ze.fr a b c d e v1 g j q s i l p o u v w y z) h nx:=by kernel_rfl
theorem ze.zmx (Inv:Nat->AV->T Blk->Pa->Prop) {m:Nat} (hm:m<N) (hi:Inv m f h nx)
  (step:∀ (m:Nat) (z5 zD:AV) (h:T Blk) (nx:Pa) (R:Ks Prop),Inv m z5 h nx->(∀ (m':Nat) (w5 wD:AV) (h':T Blk) (nx':Pa),m'<m->Inv m' w5 h' nx'->R (ze.fr a b c d e w5 g j q s i l p wD u v w y z) h' nx'=.ok True)->IR.run ze.t13 C N O R (ze.fr a b c d e z5 g j q s i l p zD u v w y z) h nx=.ok True) :
  IR.run ze.t14 C N O K (ze.fr a b c d e f g j q s i l p o u v w y z) h nx=.ok True:=by
 rw [ze.t14];refine yC (λm tm h nx=>∃ z5 zD,tm=(ze.fr a b c d e z5 g j q s i l p zD u v w y z)/\Inv m z5 h nx) ?_ hm ⟨_,_,rfl,hi⟩;rintro m tm h nx R ⟨z5,zD,rfl,hi⟩ hR;exact step m z5 zD h nx R hi λm' w5 wD h' nx' hlt hi'=>hR m' _ h' nx' hlt ⟨_,_,rfl,hi'⟩
theorem ze.rG:IR.run ze.t16 C N O K (ze.fr a b c d e f g j q s i l p o u v w y z) h nx =
 sLen a λv1=>zb .eql .int f v1 λv2=>K (ze.fr a b c d e f g j q s i l p o v2 v w y z) h nx:=by kernel_rfl
theorem ze.v14:Arg.ev (.t (.of 14)) ⟨(ze.fr a b c d e f g j q s i l p o u v w y z),[]⟩=u:=by kernel_rfl
theorem ze.rH:IR.run ze.t19 C N O K (ze.fr a b c d e f g j q s i l p o u v w y z) h nx =
 sLen d λv1=>K (ze.fr a b c d e f v1 j q s i l p o u v w y z) h nx:=by kernel_rfl
theorem ze.sQ:IR.run ze.t20 C N O K (ze.fr a b c d e f g j q s i l p o u v w y z) h nx =
 zK 1 a g λv1=>zH v1 h λv2=>zK 1 a f λv3=>zH v3 h λv4=>zK 1 a f λv5=>zS 1 v5 v2 h nx λv6 h7 n8=>zO g g (zO a a (zK 1 a g λv9=>zS 1 v9 v4 h7 n8 λvF hB nC=>K (ze.fr a b c d e f g j q s i l p o u v w y z) hB nC)):=by kernel_rfl
theorem ze.oM:IR.run ze.t21 C N O K (ze.fr a b c d e f g j q s i l p o u v w y z) h nx =
 zK 1 a g λv1=>zH v1 h λv2=>zK 1 v2 e λv3=>zH v3 h λv4=>C.fn 203 (.of 203) [v4] h nx λv5 h6 n7=>K (ze.fr a b c d e f g v5 q s i l p o u v w y z) h6 n7:=by kernel_rfl
theorem ze.rW:IR.run ze.t22 C N O K (ze.fr a b c d e f g j q s i l p o u v w y z) h nx =
 K (ze.fr a b c d e f g j (I 0) s i l p o u v w y z) h nx:=by kernel_rfl
theorem ze.zff:IR.run ze.t23 C N O K (ze.fr a b c d e f g j q s i l p o u v w y z) h nx =
 zK 1 a g λv1=>zH v1 h λv2=>sLen v2 λv3=>zb .lss .int q v3 λv4=>K (ze.fr a b c d e f g j q s i l p o u v4 w y z) h nx:=by kernel_rfl
theorem ze.v15:Arg.ev (.t (.of 15)) ⟨(ze.fr a b c d e f g j q s i l p o u v w y z),[]⟩=v:=by kernel_rfl
theorem ze.eY:IR.run ze.t26 C N O K (ze.fr a b c d e f g j q s i l p o u v w y z) h nx =
 zK 1 a g λv1=>zH v1 h λv2=>zK 1 a g λv3=>zH v3 h λv4=>zK 1 v4 q λv5=>zH v5 h λv6=>C.fn 41 (.of 41) [v6,j] h nx λv7 h8 n9=>zO q q ((zH v1 h8 λvE=>zO vE v2 ((zK 1 a g λvD=>zO vD v1 (zO g g (zO a a (zK 1 v2 q λvF=>zS 1 vF v7 h8 n9 λvC hA nB=>K (ze.fr a b c d e f g j q s i l p o u v w y z) hA nB))))))):=by kernel_rfl
theorem ze.zfc:IR.run ze.t28 C N O K (ze.fr a b c d e f g j q s i l p o u v w y z) h nx =
 zb .add .int q (I 1) λv1=>K (ze.fr a b c d e f g j v1 s i l p o u v w y z) h nx:=by kernel_rfl
theorem ze.zmv (Inv:Nat->AV->T Blk->Pa->Prop) {m:Nat} (hm:m<N) (hi:Inv m q h nx)
  (step:∀ (m:Nat) (z8 zE:AV) (h:T Blk) (nx:Pa) (R:Ks Prop),Inv m z8 h nx->(∀ (m':Nat) (w8 wE:AV) (h':T Blk) (nx':Pa),m'<m->Inv m' w8 h' nx'->R (ze.fr a b c d e f g j w8 s i l p o u wE w y z) h' nx'=.ok True)->IR.run ze.t30 C N O R (ze.fr a b c d e f g j z8 s i l p o u zE w y z) h nx=.ok True) :
  IR.run ze.t31 C N O K (ze.fr a b c d e f g j q s i l p o u v w y z) h nx=.ok True:=by
 rw [ze.t31];refine yC (λm tm h nx=>∃ z8 zE,tm=(ze.fr a b c d e f g j z8 s i l p o u zE w y z)/\Inv m z8 h nx) ?_ hm ⟨_,_,rfl,hi⟩;rintro m tm h nx R ⟨z8,zE,rfl,hi⟩ hR;exact step m z8 zE h nx R hi λm' w8 wE h' nx' hlt hi'=>hR m' _ h' nx' hlt ⟨_,_,rfl,hi'⟩
theorem ze.eT:IR.run ze.t34 C N O K (ze.fr a b c d e f g j q s i l p o u v w y z) h nx =
 K (ze.fr a b c d e f g j q (I 0) i l p o u v w y z) h nx:=by kernel_rfl
theorem ze.zfj:IR.run ze.t35 C N O K (ze.fr a b c d e f g j q s i l p o u v w y z) h nx =
 sLen a λv1=>zb .lss .int s v1 λv2=>K (ze.fr a b c d e f g j q s i l p o u v v2 y z) h nx:=by kernel_rfl
theorem ze.v16:Arg.ev (.t (.of 16)) ⟨(ze.fr a b c d e f g j q s i l p o u v w y z),[]⟩=w:=by kernel_rfl
theorem ze.zxn:IR.run ze.t38 C N O K (ze.fr a b c d e f g j q s i l p o u v w y z) h nx =
 zK 1 a s λv1=>zH v1 h λv2=>zK 1 v2 e λv3=>zH v3 h λv4=>K (ze.fr a b c d e f g j q s v4 l p o u v w y z) h nx:=by kernel_rfl
theorem ze.zxo:IR.run ze.t39 C N O K (ze.fr a b c d e f g j q s i l p o u v w y z) h nx =
 zb .eql .int s g λv1=>sG v1 false (λk=>k i) λv2=>sGW v1 false (λk=>C.fn 39 (.of 39) [v2] h nx k) h nx λv3 h4 n5=>yZ v1 (.bool true) v3 λv6=>K (ze.fr a b c d e f g j q s i l p o u v w v6 z) h4 n5:=by kernel_rfl
theorem ze.v17:Arg.ev (.t (.of 17)) ⟨(ze.fr a b c d e f g j q s i l p o u v w y z),[]⟩=y:=by kernel_rfl
theorem ze.zco:IR.run ze.t42 C N O K (ze.fr a b c d e f g j q s i l p o u v w y z) h nx =
 K (ze.fr a b c d e f g j q s i (I 0) p o u v w y z) h nx:=by kernel_rfl
theorem ze.zfk:IR.run ze.t43 C N O K (ze.fr a b c d e f g j q s i l p o u v w y z) h nx =
 zK 1 a s λv1=>zH v1 h λv2=>sLen v2 λv3=>zb .lss .int l v3 λv4=>K (ze.fr a b c d e f g j q s i l p o u v w y v4) h nx:=by kernel_rfl
theorem ze.v18:Arg.ev (.t (.of 18)) ⟨(ze.fr a b c d e f g j q s i l p o u v w y z),[]⟩=z:=by kernel_rfl
theorem ze.zmz:IR.run ze.t46 C N O K (ze.fr a b c d e f g j q s i l p o u v w y z) h nx =
 zK 1 a s λv1=>zH v1 h λv2=>zK 1 a s λv3=>zH v3 h λv4=>zK 1 v4 l λv5=>zH v5 h λv6=>zK 1 a g λv7=>zH v7 h λv8=>zK 1 v8 l λv9=>zH v9 h λvF=>C.fn 41 (.of 41) [i,vF] h nx λvC hA nB=>(zH v5 hA λv28=>zO v28 v6 ((zK 1 v4 l λv27=>zO v27 v5 (zO l l ((zH v3 hA λv26=>zO v26 v4 ((zK 1 a s λv25=>zO v25 v3 (zO s s (zO a a (zO l l ((zH v1 hA λvI=>zO vI v2 ((zK 1 a s λvJ=>zO vJ v1 (zO s s (zO a a (C.fn 99 (.of 99) [v6,vC] hA nB λvD hE nF=>zO l l ((zH v1 hE λvK=>zO vK v2 ((zK 1 a s λvL=>zO vL v1 (zO s s (zO a a (zK 1 v2 l λvA=>zS 1 vA vD hE nF λvM hH nI=>K (ze.fr a b c d e f g j q s i l p o u v w y z) hH nI))))))))))))))))))))))))):=by kernel_rfl
theorem ze.zfl:IR.run ze.t48 C N O K (ze.fr a b c d e f g j q s i l p o u v w y z) h nx =
 zb .add .int l (I 1) λv1=>K (ze.fr a b c d e f g j q s i v1 p o u v w y z) h nx:=by kernel_rfl
theorem ze.zxp (Inv:Nat->AV->T Blk->Pa->Prop) {m:Nat} (hm:m<N) (hi:Inv m l h nx)
  (step:∀ (m:Nat) (zB zF:AV) (h:T Blk) (nx:Pa) (R:Ks Prop),Inv m zB h nx->(∀ (m':Nat) (wB wF:AV) (h':T Blk) (nx':Pa),m'<m->Inv m' wB h' nx'->R (ze.fr a b c d e f g j q s i wB p o u v w y wF) h' nx'=.ok True)->IR.run ze.t50 C N O R (ze.fr a b c d e f g j q s i zB p o u v w y zF) h nx=.ok True) :
  IR.run ze.t51 C N O K (ze.fr a b c d e f g j q s i l p o u v w y z) h nx=.ok True:=by
 rw [ze.t51];refine yC (λm tm h nx=>∃ zB zF,tm=(ze.fr a b c d e f g j q s i zB p o u v w y zF)/\Inv m zB h nx) ?_ hm ⟨_,_,rfl,hi⟩;rintro m tm h nx R ⟨zB,zF,rfl,hi⟩ hR;exact step m zB zF h nx R hi λm' wB wF h' nx' hlt hi'=>hR m' _ h' nx' hlt ⟨_,_,rfl,hi'⟩
theorem ze.zxq:IR.run ze.t57 C N O K (ze.fr a b c d e f g j q s i l p o u v w y z) h nx =
 zb .add .int s (I 1) λv1=>K (ze.fr a b c d e f g j q v1 i l p o u v w y z) h nx:=by kernel_rfl
theorem ze.zxr (Inv:Nat->AV->T Blk->Pa->Prop) {m:Nat} (hm:m<N) (hi:Inv m s h nx)
  (step:∀ (m:Nat) (z9 zA zB zG zI zF:AV) (h:T Blk) (nx:Pa) (R:Ks Prop),Inv m z9 h nx->(∀ (m':Nat) (w9 wA wB wG wH wF:AV) (h':T Blk) (nx':Pa),m'<m->Inv m' w9 h' nx'->R (ze.fr a b c d e f g j q w9 wA wB p o u v wG wH wF) h' nx'=.ok True)->IR.run ze.t59 C N O R (ze.fr a b c d e f g j q z9 zA zB p o u v zG zI zF) h nx=.ok True) :
  IR.run ze.t60 C N O K (ze.fr a b c d e f g j q s i l p o u v w y z) h nx=.ok True:=by
 rw [ze.t60];refine yC (λm tm h nx=>∃ z9 zA zB zG zI zF,tm=(ze.fr a b c d e f g j q z9 zA zB p o u v zG zI zF)/\Inv m z9 h nx) ?_ hm ⟨_,_,_,_,_,_,rfl,hi⟩;rintro m tm h nx R ⟨z9,zA,zB,zG,zI,zF,rfl,hi⟩ hR;exact step m z9 zA zB zG zI zF h nx R hi λm' w9 wA wB wG wH wF h' nx' hlt hi'=>hR m' _ h' nx' hlt ⟨_,_,_,_,_,_,rfl,hi'⟩
theorem ze.zxs:IR.run ze.t63 C N O K (ze.fr a b c d e f g j q s i l p o u v w y z) h nx =
 yV 1 1 [(I 0)] [(0,1,e)] h nx λv1 h2 n3=>rJ 1 8 d v1 h2 n3 λv4 h5 n6=>K (ze.fr a b c v4 e f g j q s i l p o u v w y z) h5 n6:=by kernel_rfl
theorem ze.ztg:IR.run ze.t73 C N O K (ze.fr a b c d e f g j q s i l p o u v w y z) h nx =
 zb .add .int e (I 1) λv1=>K (ze.fr a b c d v1 f g j q s i l p o u v w y z) h nx:=by kernel_rfl
theorem ze.zxt (Inv:Nat->AV->AV->T Blk->Pa->Prop) {m:Nat} (hm:m<N) (hi:Inv m d e h nx)
  (step:∀ (m:Nat) (z3 z4 z5 z6 z7 z8 z9 zA zB zC zD zM zE zG zI zF:AV) (h:T Blk) (nx:Pa) (R:Ks Prop),Inv m z3 z4 h nx->(∀ (m':Nat) (w3 w4 w5 w6 w7 w8 w9 wA wB wC wD wI wE wG wH wF:AV) (h':T Blk) (nx':Pa),m'<m->Inv m' w3 w4 h' nx'->R (ze.fr a b c w3 w4 w5 w6 w7 w8 w9 wA wB wC wD wI wE wG wH wF) h' nx'=.ok True)->IR.run ze.t75 C N O R (ze.fr a b c z3 z4 z5 z6 z7 z8 z9 zA zB zC zD zM zE zG zI zF) h nx=.ok True) :
  IR.run ze.t76 C N O K (ze.fr a b c d e f g j q s i l p o u v w y z) h nx=.ok True:=by
 rw [ze.t76];refine yC (λm tm h nx=>∃ z3 z4 z5 z6 z7 z8 z9 zA zB zC zD zM zE zG zI zF,tm=(ze.fr a b c z3 z4 z5 z6 z7 z8 z9 zA zB zC zD zM zE zG zI zF)/\Inv m z3 z4 h nx) ?_ hm ⟨_,_,_,_,_,_,_,_,_,_,_,_,_,_,_,_,rfl,hi⟩;rintro m tm h nx R ⟨z3,z4,z5,z6,z7,z8,z9,zA,zB,zC,zD,zM,zE,zG,zI,zF,rfl,hi⟩ hR;exact step m z3 z4 z5 z6 z7 z8 z9 zA zB zC zD zM zE zG zI zF h nx R hi λm' w3 w4 w5 w6 w7 w8 w9 wA wB wC wD wI wE wG wH wF h' nx' hlt hi'=>hR m' _ h' nx' hlt ⟨_,_,_,_,_,_,_,_,_,_,_,_,_,_,_,_,rfl,hi'⟩
theorem ze.zxu:IR.run ze.t79 C N O K (ze.fr a b c d e f g j q s i l p o u v w y z) h nx =
 sLen d λv1=>qP 1 a none (some v1) none λv2=>K (ze.fr a v2 d d e f g j q s i l p o u v w y z) h nx:=by kernel_rfl
theorem ze.go:zR tbl N C (.of 190) [a0] h nx K0=IR.run ze.t84 C N (fnO ze.res K0) (zi ze.res K0) (ze.fr a0 .u .u .u .u .u .u .u .u .u .u .u .u .u .u .u .u .u .u) h nx:=yE (F:=ze) (by kernel_rfl) (λ_=>by kernel_rfl) (by kernel_rfl)
theorem ze.ret:zi ze.res K0 (ze.fr a b c d e f g j q s i l p o u v w y z) h nx=K0 (.tup [b,c]) h nx:=by kernel_rfl
theorem cZ.zw:IR.run cZ.t0 C N O K (cZ.fr a b c) h nx =
 K (cZ.fr a (I 0) c) h nx:=by kernel_rfl
theorem cZ.zu:IR.run cZ.t1 C N O K (cZ.fr a b c) h nx =
 C.fn 312 (.of 312) [a] h nx λv1 h2 n3=>C.fn 329 (.of 329) [v1] h2 n3 λv4 h5 n6=>K (cZ.fr a b v4) h5 n6:=by kernel_rfl
theorem cZ.jd:IR.run cZ.t2 C N O K (cZ.fr a b c) h nx =
 oO 1 20 (.fp (oo 2)) c λv1=>zH v1 h λv2=>zb .geq .int a v2 λv3=>C.fn 330 (.of 330) [v3] h nx λv4 h5 n6=>zb .add .int c v4 λv7=>K (cZ.fr a v7 c) h5 n6:=by kernel_rfl
theorem cZ.go:zR tbl N C (.of 316) [a0] h nx K0=IR.run cZ.t5 C N (fnO cZ.res K0) (zi cZ.res K0) (cZ.fr a0 .u .u) h nx:=yE (F:=cZ) (by kernel_rfl) (λ_=>by kernel_rfl) (by kernel_rfl)
theorem cZ.ret:zi cZ.res K0 (cZ.fr a b c) h nx=K0 b h nx:=by kernel_rfl
theorem fQ.zw:IR.run fQ.t0 C N O K (fQ.fr a b) h nx =
 K (fQ.fr a (I 0)) h nx:=by kernel_rfl
theorem fQ.zu:IR.run fQ.t1 C N O K (fQ.fr a b) h nx =
 zb .mul .int a (I 78913) λv1=>zb .shr .int v1 (.int .u64 18) λv2=>K (fQ.fr a v2) h nx:=by kernel_rfl
theorem fQ.go:zR tbl N C (.of 329) [a0] h nx K0=IR.run fQ.t3 C N (fnO fQ.res K0) (zi fQ.res K0) (fQ.fr a0 .u) h nx:=yE (F:=fQ) (by kernel_rfl) (λ_=>by kernel_rfl) (by kernel_rfl)
theorem fQ.ret:zi fQ.res K0 (fQ.fr a b) h nx=K0 b h nx:=by kernel_rfl
theorem vk.zw:IR.run vk.t0 C N O K (vk.fr a b c) h nx =
 K (vk.fr a (I 0) c) h nx:=by kernel_rfl
theorem vk.zu:IR.run vk.t1 C N O K (vk.fr a b c) h nx =
 K (vk.fr a b a) h nx:=by kernel_rfl
theorem vk.jd:IR.run vk.t2 C N O K (vk.fr a b c) h nx =
 K (vk.fr a (I 1) c) h nx:=by kernel_rfl
theorem vk.v2:Arg.ev (.t (.of 2)) ⟨(vk.fr a b c),[]⟩=c:=by kernel_rfl
theorem vk.ku:IR.run vk.t6 C N O K (vk.fr a b c) h nx =
 K (vk.fr a (I 0) c) h nx:=by kernel_rfl
theorem vk.go:zR tbl N C (.of 330) [a0] h nx K0=IR.run vk.t9 C N (fnO vk.res K0) (zi vk.res K0) (vk.fr a0 .u .u) h nx:=yE (F:=vk) (by kernel_rfl) (λ_=>by kernel_rfl) (by kernel_rfl)
theorem vk.ret:zi vk.res K0 (vk.fr a b c) h nx=K0 b h nx:=by kernel_rfl
end
end Go.Ev
