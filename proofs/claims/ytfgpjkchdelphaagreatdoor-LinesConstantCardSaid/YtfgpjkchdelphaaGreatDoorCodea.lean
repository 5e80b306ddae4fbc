import Derived.Test.YtfgpjkchdelphaaGreatDoorIrT
import Derived.Test.YtfgpjkchdelphaaGreatDoorEvD
import Derived.KernelRfl
set_option linter.unusedSimpArgs false
set_option linter.unusedVariables false
namespace Go.Ev
open Go Go.Proofs
set_option maxRecDepth 100000
section
variable {N:Nat} {C:Calls Prop} {K0:Kw Prop} {K R:Ks Prop} {h:T Blk} {nx:Pa} {a b c d e f g j q s i l a0 a1 s0 s1 s2 s3 s4 s5 s6 s7 s8 s9 s10 s11 s12 s13 s14 s15 s16 s17 s18 s19 s20 s21 s22 s23 s24 s25 s26 s27 s28 s29 s30 s31 s32 s33 s34 s35 s36 s37 s38 s39 s40 s41 s42 s43 s44 s45 s46 s47 s48 s49 s50 s51 s52 s53 s54 s55 s56 s57 s58 s59 p o u v w y z A B D E a2 G H L M P Q:AV} {O:fQ Prop} {tm:T AV} {Kt:KTm} {r:List RO} {sT:List AV}
theorem jf.zy:IR.run jf.t0 C N O K (jf.fr a b c d e f g j q s i l) h nx =
 K (jf.fr a b (.int .u64 0) (.int .u64 0) e f g j q s i l) h nx:=by kernel_rfl
theorem jf.zx:IR.run jf.t1 C N O K (jf.fr a b c d e f g j q s i l) h nx =
 ze .and .int a (.int .u64 4294967295) λv1=>K (jf.fr a b c d v1 f g j q s i l) h nx:=by kernel_rfl
theorem jf.jb:IR.run jf.t2 C N O K (jf.fr a b c d e f g j q s i l) h nx =
 ze .shr .int a (.int .u64 32) λv1=>K (jf.fr a b c d e v1 g j q s i l) h nx:=by kernel_rfl
theorem jf.dw:IR.run jf.t3 C N O K (jf.fr a b c d e f g j q s i l) h nx =
 ze .and .int b (.int .u64 4294967295) λv1=>K (jf.fr a b c d e f v1 j q s i l) h nx:=by kernel_rfl
theorem jf.rD:IR.run jf.t4 C N O K (jf.fr a b c d e f g j q s i l) h nx =
 ze .shr .int b (.int .u64 32) λv1=>K (jf.fr a b c d e f g v1 q s i l) h nx:=by kernel_rfl
theorem jf.rE:IR.run jf.t5 C N O K (jf.fr a b c d e f g j q s i l) h nx =
 ze .mul .int e g λv1=>K (jf.fr a b c d e f g j v1 s i l) h nx:=by kernel_rfl
theorem jf.qg:IR.run jf.t6 C N O K (jf.fr a b c d e f g j q s i l) h nx =
 ze .mul .int f g λv1=>ze .shr .int q (.int .u64 32) λv2=>ze .add .int v1 v2 λv3=>K (jf.fr a b c d e f g j q v3 i l) h nx:=by kernel_rfl
theorem jf.fU:IR.run jf.t7 C N O K (jf.fr a b c d e f g j q s i l) h nx =
 ze .and .int s (.int .u64 4294967295) λv1=>K (jf.fr a b c d e f g j q s v1 l) h nx:=by kernel_rfl
theorem jf.fE:IR.run jf.t8 C N O K (jf.fr a b c d e f g j q s i l) h nx =
 ze .shr .int s (.int .u64 32) λv1=>K (jf.fr a b c d e f g j q s i v1) h nx:=by kernel_rfl
theorem jf.rF:IR.run jf.t9 C N O K (jf.fr a b c d e f g j q s i l) h nx =
 ze .mul .int e j λv1=>ze .add .int i v1 λv2=>K (jf.fr a b c d e f g j q s v2 l) h nx:=by kernel_rfl
theorem jf.sV:IR.run jf.t10 C N O K (jf.fr a b c d e f g j q s i l) h nx =
 ze .mul .int f j λv1=>ze .add .int v1 l λv2=>ze .shr .int i (.int .u64 32) λv3=>ze .add .int v2 v3 λv4=>K (jf.fr a b v4 d e f g j q s i l) h nx:=by kernel_rfl
theorem jf.pu:IR.run jf.t11 C N O K (jf.fr a b c d e f g j q s i l) h nx =
 ze .mul .int a b λv1=>K (jf.fr a b c v1 e f g j q s i l) h nx:=by kernel_rfl
theorem jf.go:zS tbl N C (.of 263) [a0,a1] h nx K0=IR.run jf.t23 C N (fnO jf.res K0) (zo jf.res K0) (jf.fr a0 a1 .u .u .u .u .u .u .u .u .u .u) h nx:=yE (F:=jf) (by kernel_rfl) (λ_=>by kernel_rfl) (by kernel_rfl)
theorem jf.ret:zo jf.res K0 (jf.fr a b c d e f g j q s i l) h nx=K0 (.tup [c,d]) h nx:=by kernel_rfl
theorem vo.zy:IR.run vo.t0 C N O K (vo.fr a b c) h nx =
 K (vo.fr a (.int .u64 0) c) h nx:=by kernel_rfl
theorem vo.zx:IR.run vo.t1 C N O K (vo.fr a b c) h nx =
 ze .lss .int a (I 0) λv1=>K (vo.fr a b v1) h nx:=by kernel_rfl
theorem vo.jb:IR.run vo.t2 C N O K (vo.fr a b c) h nx =
 sNeg a λv1=>mE .u64 v1 λv2=>K (vo.fr a v2 c) h nx:=by kernel_rfl
theorem vo.v2:Arg.ev (.t (.of 2)) ⟨(vo.fr a b c),[]⟩=c:=by kernel_rfl
theorem vo.qg:IR.run vo.t6 C N O K (vo.fr a b c) h nx =
 mE .u64 a λv1=>K (vo.fr a v1 c) h nx:=by kernel_rfl
theorem vo.go:zS tbl N C (.of 264) [a0] h nx K0=IR.run vo.t9 C N (fnO vo.res K0) (zo vo.res K0) (vo.fr a0 .u .u) h nx:=yE (F:=vo) (by kernel_rfl) (λ_=>by kernel_rfl) (by kernel_rfl)
theorem vo.ret:zo vo.res K0 (vo.fr a b c) h nx=K0 b h nx:=by kernel_rfl
theorem fK.zy:IR.run fK.t0 C N O K (fK.fr a b) h nx =
 yN [(I 0),.za] h nx λv1 h2 n3=>K (fK.fr a v1) h2 n3:=by kernel_rfl
theorem fK.zx:IR.run fK.t1 C N O K (fK.fr a b) h nx =
 gU [(I 0),.za] [(0,1,a)] λv1=>zX 2 b v1 h nx λv2 h3 n4=>K (fK.fr a b) h3 n4:=by kernel_rfl
theorem fK.go:zS tbl N C (.of 187) [a0] h nx K0=IR.run fK.t3 C N (fnO fK.res K0) (zo fK.res K0) (fK.fr a0 .u) h nx:=yE (F:=fK) (by kernel_rfl) (λ_=>by kernel_rfl) (by kernel_rfl)
theorem fK.ret:zo fK.res K0 (fK.fr a b) h nx=zF 2 b h λv1=>K0 v1 h nx:=by kernel_rfl
theorem ng.zy:IR.run ng.t0 C N O K (ng.fr a b c) h nx =
 wz a h nx λv1 h2 n3=>K (ng.fr a v1 (I 0)) h2 n3:=by kernel_rfl
theorem ng.zx:IR.run ng.t1 C N O K (ng.fr a b c) h nx =
 zK 0 b λv1=>zI v1 h λv2=>sMin false (I 1) [v2] λv3=>sMin true (I (-1)) [v3] λv4=>K (ng.fr a b v4) h nx:=by kernel_rfl
theorem ng.go:zS tbl N C (.of 194) [a0] h nx K0=IR.run ng.t3 C N (fnO ng.res K0) (zo ng.res K0) (ng.fr a0 .u .u) h nx:=yE (F:=ng) (by kernel_rfl) (λ_=>by kernel_rfl) (by kernel_rfl)
theorem ng.ret:zo ng.res K0 (ng.fr a b c) h nx=K0 c h nx:=by kernel_rfl
theorem bf.zy:IR.run bf.t0 C N O K (bf.fr a b c d e f) h nx =
 wz a h nx λv1 h2 n3=>yN [(I 0),.za] h2 n3 λv4 h5 n6=>K (bf.fr a v1 v4 d e f) h5 n6:=by kernel_rfl
theorem bf.zx:IR.run bf.t1 C N O K (bf.fr a b c d e f) h nx =
 zK 1 b λv1=>zI v1 h λv2=>ze .eql (.nil .sl) v2 .za λv3=>sG v3 true (λk=>zK 0 b k) λv4=>sG v3 true (λk=>zI v4 h k) λv5=>sG v3 true (λk=>ze .neq .int v5 (I (-9223372036854775808)) k) λv6=>yS v3 v6 (.bool false) λv7=>K (bf.fr a b c d e v7) h nx:=by kernel_rfl
theorem bf.jb:IR.run bf.t2 C N O K (bf.fr a b c d e f) h nx =
 zK 0 b λv1=>zI v1 h λv2=>sNeg v2 λv3=>gU [(I 0),.za] [(0,1,v3)] λv4=>zX 2 c v4 h nx λv5 h6 n7=>K (bf.fr a b c d e f) h6 n7:=by kernel_rfl
theorem bf.v5:Arg.ev (.t (.of 5)) ⟨(bf.fr a b c d e f),[]⟩=f:=by kernel_rfl
theorem bf.go:zS tbl N C (.of 193) [a0] h nx K0=IR.run bf.t11 C N (fnO bf.res K0) (zo bf.res K0) (bf.fr a0 .u .u .u .u .u) h nx:=yE (F:=bf) (by kernel_rfl) (λ_=>by kernel_rfl) (by kernel_rfl)
theorem bf.ret:zo bf.res K0 (bf.fr a b c d e f) h nx=zF 2 c h λv1=>K0 v1 h nx:=by kernel_rfl
theorem gq.zy:IR.run gq.t0 C N O K (gq.fr a b c) h nx =
 K (gq.fr a .za c) h nx:=by kernel_rfl
theorem gq.zx:IR.run gq.t1 C N O K tm h nx=yG gq.tX C ⟨tm,[]⟩ h nx (λtm h nx=>K tm.v h nx):=gD ..
theorem gq.tY:yG (gq.tF r) C ⟨(gq.fr a b c),[]⟩ h nx Kt =
 sLen a λv1=>ze .gtr .int v1 (I 0) λv2=>sG v2 true (λk=>k a) λv3=>sG v2 true (λk=>k a) λv4=>sG v2 true (λk=>sLen v4 k) λv5=>sG v2 true (λk=>ze .sub .int v5 (I 1) k) λv6=>yG r C ⟨(gq.fr a b c),v6::v5::v4::v3::v2::v2::v1::a::[]⟩ h nx Kt:=by kernel_rfl
theorem gq.tK:yG (gq.tH []) C ⟨(gq.fr a b c),s0::s1::s2::s3::s4::sT⟩ h nx Kt =
 sG s4 true (λk=>zL 1 s3 s0 k) λv1=>sG s4 true (λk=>zI v1 h k) λv2=>sG s4 true (λk=>ze .eql .int v2 (I 0) k) λv3=>yS s4 v3 (.bool false) λv4=>Kt ⟨(gq.fr a b v4),v3::v2::v1::s0::s1::s2::s3::s4::sT⟩ h nx:=by kernel_rfl
theorem gq.v2:Arg.ev (.t (.of 2)) ⟨(gq.fr a b c),[]⟩=c:=by kernel_rfl
theorem gq.rD:IR.run gq.t4 C N O K (gq.fr a b c) h nx =
 sLen a λv1=>ze .sub .int v1 (I 1) λv2=>wV 1 a none (some v2) none λv3=>K (gq.fr v3 b c) h nx:=by kernel_rfl
theorem gq.t7_L (Inv:Nat->AV->T Blk->Pa->Prop) {m:Nat} (hm:m<N) (hi:Inv m a h nx)
  (step:∀ (m:Nat) (z0 z2:AV) (h:T Blk) (nx:Pa) (R:Ks Prop),Inv m z0 h nx->(∀ (m':Nat) (w0 w2:AV) (h':T Blk) (nx':Pa),m'<m->Inv m' w0 h' nx'->R (gq.fr w0 b w2) h' nx'=.ok True)->IR.run gq.t6 C N O R (gq.fr z0 b z2) h nx=.ok True) :
  IR.run gq.t7 C N O K (gq.fr a b c) h nx=.ok True:=by
 rw [gq.t7];refine yB (λm tm h nx=>∃ z0 z2,tm=(gq.fr z0 b z2)/\Inv m z0 h nx) ?_ hm ⟨_,_,rfl,hi⟩;rintro m tm h nx R ⟨z0,z2,rfl,hi⟩ hR;exact step m z0 z2 h nx R hi λm' w0 w2 h' nx' hlt hi'=>hR m' _ h' nx' hlt ⟨_,_,rfl,hi'⟩
theorem gq.rF:IR.run gq.t9 C N O K (gq.fr a b c) h nx =
 K (gq.fr a a c) h nx:=by kernel_rfl
theorem gq.go:zS tbl N C (.of 269) [a0] h nx K0=IR.run gq.t12 C N (fnO gq.res K0) (zo gq.res K0) (gq.fr a0 .u .u) h nx:=yE (F:=gq) (by kernel_rfl) (λ_=>by kernel_rfl) (by kernel_rfl)
theorem gq.ret:zo gq.res K0 (gq.fr a b c) h nx=K0 b h nx:=by kernel_rfl
theorem bq.zy:IR.run bq.t0 C N O K (bq.fr a b c) h nx =
 yN [(.bool false),.za] h nx λv1 h2 n3=>K (bq.fr a b v1) h2 n3:=by kernel_rfl
theorem bq.zx:IR.run bq.t1 C N O K (bq.fr a b c) h nx =
 C.fn 269 (.of 269) [b] h nx λv1 h2 n3=>K (bq.fr a v1 c) h2 n3:=by kernel_rfl
theorem bq.jb:IR.run bq.t2 C N O K (bq.fr a b c) h nx =
 sG a true (λk=>k b) λv1=>sG a true (λk=>sLen v1 k) λv2=>sG a true (λk=>ze .gtr .int v2 (I 0) k) λv3=>yS a v3 (.bool false) λv4=>gU [(.bool false),.za] [(0,1,v4),(1,1,b)] λv5=>zX 2 c v5 h nx λv6 h7 n8=>K (bq.fr a b c) h7 n8:=by kernel_rfl
theorem bq.go:zS tbl N C (.of 214) [a0,a1] h nx K0=IR.run bq.t5 C N (fnO bq.res K0) (zo bq.res K0) (bq.fr a0 a1 .u) h nx:=yE (F:=bq) (by kernel_rfl) (λ_=>by kernel_rfl) (by kernel_rfl)
theorem bq.ret:zo bq.res K0 (bq.fr a b c) h nx=zF 2 c h λv1=>K0 v1 h nx:=by kernel_rfl
theorem yh.zy:IR.run yh.t0 C N O K (yh.fr a b c d e f g j q) h nx =
 K (yh.fr a b (I 0) d e f g j q) h nx:=by kernel_rfl
theorem yh.zx:IR.run yh.t1 C N O K (yh.fr a b c d e f g j q) h nx =
 sLen a λv1=>sLen b λv2=>ze .neq .int v1 v2 λv3=>K (yh.fr a b c d v3 f g j q) h nx:=by kernel_rfl
theorem yh.jb:IR.run yh.t2 C N O K (yh.fr a b c d e f g j q) h nx =
 sLen a λv1=>sLen b λv2=>ze .lss .int v1 v2 λv3=>K (yh.fr a b c d e v3 g j q) h nx:=by kernel_rfl
theorem yh.dw:IR.run yh.t3 C N O K (yh.fr a b c d e f g j q) h nx =
 K (yh.fr a b (I (-1)) d e f g j q) h nx:=by kernel_rfl
theorem yh.v5:Arg.ev (.t (.of 5)) ⟨(yh.fr a b c d e f g j q),[]⟩=f:=by kernel_rfl
theorem yh.fU:IR.run yh.t7 C N O K (yh.fr a b c d e f g j q) h nx =
 K (yh.fr a b (I 1) d e f g j q) h nx:=by kernel_rfl
theorem yh.v4:Arg.ev (.t (.of 4)) ⟨(yh.fr a b c d e f g j q),[]⟩=e:=by kernel_rfl
theorem yh.ni:IR.run yh.t12 C N O K (yh.fr a b c d e f g j q) h nx =
 sLen a λv1=>ze .sub .int v1 (I 1) λv2=>K (yh.fr a b c v2 e f g j q) h nx:=by kernel_rfl
theorem yh.rM:IR.run yh.t13 C N O K (yh.fr a b c d e f g j q) h nx =
 ze .geq .int d (I 0) λv1=>K (yh.fr a b c d e f v1 j q) h nx:=by kernel_rfl
theorem yh.v6:Arg.ev (.t (.of 6)) ⟨(yh.fr a b c d e f g j q),[]⟩=g:=by kernel_rfl
theorem yh.au:IR.run yh.t16 C N O K (yh.fr a b c d e f g j q) h nx =
 zL 1 a d λv1=>zI v1 h λv2=>zL 1 b d λv3=>zI v3 h λv4=>ze .lss .int v2 v4 λv5=>K (yh.fr a b c d e f g v5 q) h nx:=by kernel_rfl
theorem yh.sW:IR.run yh.t17 C N O K (yh.fr a b c d e f g j q) h nx =
 K (yh.fr a b (I (-1)) d e f g j q) h nx:=by kernel_rfl
theorem yh.v7:Arg.ev (.t (.of 7)) ⟨(yh.fr a b c d e f g j q),[]⟩=j:=by kernel_rfl
theorem yh.zfh:IR.run yh.t21 C N O K (yh.fr a b c d e f g j q) h nx =
 zL 1 a d λv1=>zI v1 h λv2=>zL 1 b d λv3=>zI v3 h λv4=>ze .gtr .int v2 v4 λv5=>K (yh.fr a b c d e f g j v5) h nx:=by kernel_rfl
theorem yh.aQ:IR.run yh.t22 C N O K (yh.fr a b c d e f g j q) h nx =
 K (yh.fr a b (I 1) d e f g j q) h nx:=by kernel_rfl
theorem yh.v8:Arg.ev (.t (.of 8)) ⟨(yh.fr a b c d e f g j q),[]⟩=q:=by kernel_rfl
theorem yh.zaa:IR.run yh.t28 C N O K (yh.fr a b c d e f g j q) h nx =
 ze .sub .int d (I 1) λv1=>K (yh.fr a b c v1 e f g j q) h nx:=by kernel_rfl
theorem yh.zfi (Inv:Nat->AV->T Blk->Pa->Prop) {m:Nat} (hm:m<N) (hi:Inv m d h nx)
  (step:∀ (m:Nat) (z2 z3 z6 z7 z8:AV) (h:T Blk) (nx:Pa) (R:Ks Prop),Inv m z3 h nx->(∀ (m':Nat) (w2 w3 w6 w7 w8:AV) (h':T Blk) (nx':Pa),m'<m->Inv m' w3 h' nx'->R (yh.fr a b w2 w3 e f w6 w7 w8) h' nx'=.ok True)->IR.run yh.t30 C N O R (yh.fr a b z2 z3 e f z6 z7 z8) h nx=.ok True) :
  IR.run yh.t31 C N O K (yh.fr a b c d e f g j q) h nx=.ok True:=by
 rw [yh.t31];refine yB (λm tm h nx=>∃ z2 z3 z6 z7 z8,tm=(yh.fr a b z2 z3 e f z6 z7 z8)/\Inv m z3 h nx) ?_ hm ⟨_,_,_,_,_,rfl,hi⟩;rintro m tm h nx R ⟨z2,z3,z6,z7,z8,rfl,hi⟩ hR;exact step m z2 z3 z6 z7 z8 h nx R hi λm' w2 w3 w6 w7 w8 h' nx' hlt hi'=>hR m' _ h' nx' hlt ⟨_,_,_,_,_,rfl,hi'⟩
theorem yh.zfj:IR.run yh.t34 C N O K (yh.fr a b c d e f g j q) h nx =
 K (yh.fr a b (I 0) d e f g j q) h nx:=by kernel_rfl
theorem yh.go:zS tbl N C (.of 216) [a0,a1] h nx K0=IR.run yh.t38 C N (fnO yh.res K0) (zo yh.res K0) (yh.fr a0 a1 .u .u .u .u .u .u .u) h nx:=yE (F:=yh) (by kernel_rfl) (λ_=>by kernel_rfl) (by kernel_rfl)
theorem yh.ret:zo yh.res K0 (yh.fr a b c d e f g j q) h nx=K0 c h nx:=by kernel_rfl
theorem jd.zy:IR.run jd.t0 C N O K (jd.fr a b c d e f g j q) h nx =
 K (jd.fr a b .za (I 0) e f g j q) h nx:=by kernel_rfl
theorem jd.zx:IR.run jd.t1 C N O K (jd.fr a b c d e f g j q) h nx =
 sLen a λv1=>xJ 1 8 [(I 0)] v1 v1 h nx λv2 h3 n4=>K (jd.fr a b c d v2 f g j q) h3 n4:=by kernel_rfl
theorem jd.jb:IR.run jd.t2 C N O K (jd.fr a b c d e f g j q) h nx =
 K (jd.fr a b c d e (I 0) g j q) h nx:=by kernel_rfl
theorem jd.dw:IR.run jd.t3 C N O K (jd.fr a b c d e f g j q) h nx =
 sLen a λv1=>ze .sub .int v1 (I 1) λv2=>K (jd.fr a b c d e f v2 j q) h nx:=by kernel_rfl
theorem jd.rD:IR.run jd.t4 C N O K (jd.fr a b c d e f g j q) h nx =
 ze .geq .int g (I 0) λv1=>K (jd.fr a b c d e f g j v1) h nx:=by kernel_rfl
theorem jd.v8:Arg.ev (.t (.of 8)) ⟨(jd.fr a b c d e f g j q),[]⟩=q:=by kernel_rfl
theorem jd.fU:IR.run jd.t7 C N O K (jd.fr a b c d e f g j q) h nx =
 ze .mul .int f (I 1000000000) λv1=>zL 1 a g λv2=>zI v2 h λv3=>ze .add .int v1 v3 λv4=>K (jd.fr a b c d e f g v4 q) h nx:=by kernel_rfl
theorem jd.fE:IR.run jd.t8 C N O K (jd.fr a b c d e f g j q) h nx =
 ze .quo .int j b λv1=>zL 1 e g λv2=>zX 1 v2 v1 h nx λv3 h4 n5=>K (jd.fr a b c d e f g j q) h4 n5:=by kernel_rfl
theorem jd.rF:IR.run jd.t9 C N O K (jd.fr a b c d e f g j q) h nx =
 ze .rem .int j b λv1=>K (jd.fr a b c d e v1 g j q) h nx:=by kernel_rfl
theorem jd.rM:IR.run jd.t13 C N O K (jd.fr a b c d e f g j q) h nx =
 ze .sub .int g (I 1) λv1=>K (jd.fr a b c d e f v1 j q) h nx:=by kernel_rfl
theorem jd.zab (Inv:Nat->AV->AV->T Blk->Pa->Prop) {m:Nat} (hm:m<N) (hi:Inv m f g h nx)
  (step:∀ (m:Nat) (z5 z6 z7 z8:AV) (h:T Blk) (nx:Pa) (R:Ks Prop),Inv m z5 z6 h nx->(∀ (m':Nat) (w5 w6 w7 w8:AV) (h':T Blk) (nx':Pa),m'<m->Inv m' w5 w6 h' nx'->R (jd.fr a b c d e w5 w6 w7 w8) h' nx'=.ok True)->IR.run jd.t15 C N O R (jd.fr a b c d e z5 z6 z7 z8) h nx=.ok True) :
  IR.run jd.t16 C N O K (jd.fr a b c d e f g j q) h nx=.ok True:=by
 rw [jd.t16];refine yB (λm tm h nx=>∃ z5 z6 z7 z8,tm=(jd.fr a b c d e z5 z6 z7 z8)/\Inv m z5 z6 h nx) ?_ hm ⟨_,_,_,_,rfl,hi⟩;rintro m tm h nx R ⟨z5,z6,z7,z8,rfl,hi⟩ hR;exact step m z5 z6 z7 z8 h nx R hi λm' w5 w6 w7 w8 h' nx' hlt hi'=>hR m' _ h' nx' hlt ⟨_,_,_,_,rfl,hi'⟩
theorem jd.rX:IR.run jd.t19 C N O K (jd.fr a b c d e f g j q) h nx =
 C.fn 269 (.of 269) [e] h nx λv1 h2 n3=>K (jd.fr a b v1 f e f g j q) h2 n3:=by kernel_rfl
theorem jd.go:zS tbl N C (.of 268) [a0,a1] h nx K0=IR.run jd.t24 C N (fnO jd.res K0) (zo jd.res K0) (jd.fr a0 a1 .u .u .u .u .u .u .u) h nx:=yE (F:=jd) (by kernel_rfl) (λ_=>by kernel_rfl) (by kernel_rfl)
theorem jd.ret:zo jd.res K0 (jd.fr a b c d e f g j q) h nx=K0 (.tup [c,d]) h nx:=by kernel_rfl
theorem qz.zy:IR.run qz.t0 C N O K (qz.fr a b c d e f g j q s i l p o) h nx =
 wz a h nx λv1 h2 n3=>wz b h2 n3 λv4 h5 n6=>yN [(I 0),.za] h5 n6 λv7 h8 n9=>K (qz.fr a b v1 v4 v7 f g j q s i l p o) h8 n9:=by kernel_rfl
theorem qz.zx:IR.run qz.t1 C N O K (qz.fr a b c d e f g j q s i l p o) h nx =
 zK 1 c λv1=>zI v1 h λv2=>ze .eql (.nil .sl) v2 .za λv3=>sG v3 true (λk=>zK 1 d k) λv4=>sG v3 true (λk=>zI v4 h k) λv5=>sG v3 true (λk=>ze .eql (.nil .sl) v5 .za k) λv6=>yS v3 v6 (.bool false) λv7=>K (qz.fr a b c d e f g j q s v7 l p o) h nx:=by kernel_rfl
theorem qz.jb:IR.run qz.t2 C N O K (qz.fr a b c d e f g j q s i l p o) h nx =
 zK 0 c λv1=>zI v1 h λv2=>zK 0 d λv3=>zI v3 h λv4=>ze .add .int v2 v4 λv5=>K (qz.fr a b c d e v5 g j q s i l p o) h nx:=by kernel_rfl
theorem qz.dw:IR.run qz.t3 C N O K (qz.fr a b c d e f g j q s i l p o) h nx =
 zK 0 c λv1=>zI v1 h λv2=>ze .gtr .int f v2 λv3=>zK 0 d λv4=>zI v4 h λv5=>ze .gtr .int v5 (I 0) λv6=>ze .eql .bool v3 v6 λv7=>K (qz.fr a b c d e f g j q s i v7 p o) h nx:=by kernel_rfl
theorem qz.rD:IR.run qz.t4 C N O K (qz.fr a b c d e f g j q s i l p o) h nx =
 gU [(I 0),.za] [(0,1,f)] λv1=>zX 2 e v1 h nx λv2 h3 n4=>K (qz.fr a b c d e f g j q s i l p o) h3 n4:=by kernel_rfl
theorem qz.v11:Arg.ev (.t (.of 11)) ⟨(qz.fr a b c d e f g j q s i l p o),[]⟩=l:=by kernel_rfl
theorem qz.v10:Arg.ev (.t (.of 10)) ⟨(qz.fr a b c d e f g j q s i l p o),[]⟩=i:=by kernel_rfl
theorem qz.go:zS tbl N C (.of 197) [a0,a1] h nx K0=IR.run qz.t30 C N (fnO qz.res K0) (zo qz.res K0) (qz.fr a0 a1 .u .u .u .u .u .u .u .u .u .u .u .u) h nx:=yE (F:=qz) (by kernel_rfl) (λ_=>by kernel_rfl) (by kernel_rfl)
theorem qz.ret:zo qz.res K0 (qz.fr a b c d e f g j q s i l p o) h nx=zF 2 e h λv1=>K0 v1 h nx:=by kernel_rfl
theorem uj.zy:IR.run uj.t0 C N O K (uj.fr a b c d e f g j q s i l p o) h nx =
 wz a h nx λv1 h2 n3=>wz b h2 n3 λv4 h5 n6=>yN [(I 0),.za] h5 n6 λv7 h8 n9=>K (uj.fr a b v1 v4 v7 f g j q s i l p o) h8 n9:=by kernel_rfl
theorem uj.zx:IR.run uj.t1 C N O K (uj.fr a b c d e f g j q s i l p o) h nx =
 zK 1 c λv1=>zI v1 h λv2=>ze .eql (.nil .sl) v2 .za λv3=>sG v3 true (λk=>zK 1 d k) λv4=>sG v3 true (λk=>zI v4 h k) λv5=>sG v3 true (λk=>ze .eql (.nil .sl) v5 .za k) λv6=>yS v3 v6 (.bool false) λv7=>K (uj.fr a b c d e f g j q s i v7 p o) h nx:=by kernel_rfl
theorem uj.jb:IR.run uj.t2 C N O K (uj.fr a b c d e f g j q s i l p o) h nx =
 zK 0 c λv1=>zI v1 h λv2=>zK 0 d λv3=>zI v3 h λv4=>C.fn 264 (.of 264) [v2] h nx λv5 h6 n7=>(zI v3 h6 λvA=>zQ vA v4 ((zK 0 d λvB=>zQ vB v3 (C.fn 264 (.of 264) [v4] h6 n7 λv8 h9 nA=>C.fn 263 (.of 263) [v5,v8] h9 nA λvC hA nB=>mg 0 vC λvD=>mg 1 vC λvE=>K (uj.fr a b c d e vD vE j q s i l p o) hA nB)))):=by kernel_rfl
theorem uj.dw:IR.run uj.t3 C N O K (uj.fr a b c d e f g j q s i l p o) h nx =
 ze .eql .int f (.int .u64 0) λv1=>sG v1 true (λk=>k g) λv2=>sG v1 true (λk=>ze .leq .int v2 (.int .u64 9223372036854775807) k) λv3=>yS v1 v3 (.bool false) λv4=>K (uj.fr a b c d e f g j q s i l v4 o) h nx:=by kernel_rfl
theorem uj.rD:IR.run uj.t4 C N O K (uj.fr a b c d e f g j q s i l p o) h nx =
 zK 0 c λv1=>zI v1 h λv2=>ze .lss .int v2 (I 0) λv3=>zK 0 d λv4=>zI v4 h λv5=>ze .lss .int v5 (I 0) λv6=>ze .neq .bool v3 v6 λv7=>K (uj.fr a b c d e f g j q s i l p v7) h nx:=by kernel_rfl
theorem uj.rE:IR.run uj.t5 C N O K (uj.fr a b c d e f g j q s i l p o) h nx =
 mE .i64 g λv1=>sNeg v1 λv2=>gU [(I 0),.za] [(0,1,v2)] λv3=>zX 2 e v3 h nx λv4 h5 n6=>K (uj.fr a b c d e f g j q s i l p o) h5 n6:=by kernel_rfl
theorem uj.v13:Arg.ev (.t (.of 13)) ⟨(uj.fr a b c d e f g j q s i l p o),[]⟩=o:=by kernel_rfl
theorem uj.rF:IR.run uj.t9 C N O K (uj.fr a b c d e f g j q s i l p o) h nx =
 mE .i64 g λv1=>gU [(I 0),.za] [(0,1,v1)] λv2=>zX 2 e v2 h nx λv3 h4 n5=>K (uj.fr a b c d e f g j q s i l p o) h4 n5:=by kernel_rfl
theorem uj.v12:Arg.ev (.t (.of 12)) ⟨(uj.fr a b c d e f g j q s i l p o),[]⟩=p:=by kernel_rfl
theorem uj.v11:Arg.ev (.t (.of 11)) ⟨(uj.fr a b c d e f g j q s i l p o),[]⟩=l:=by kernel_rfl
theorem uj.go:zS tbl N C (.of 198) [a0,a1] h nx K0=IR.run uj.t24 C N (fnO uj.res K0) (zo uj.res K0) (uj.fr a0 a1 .u .u .u .u .u .u .u .u .u .u .u .u) h nx:=yE (F:=uj) (by kernel_rfl) (λ_=>by kernel_rfl) (by kernel_rfl)
theorem uj.ret:zo uj.res K0 (uj.fr a b c d e f g j q s i l p o) h nx=zF 2 e h λv1=>K0 v1 h nx:=by kernel_rfl
theorem ul.zy:IR.run ul.t0 C N O K (ul.fr a b c d e f g j) h nx =
 wz a h nx λv1 h2 n3=>wz b h2 n3 λv4 h5 n6=>K (ul.fr a b v1 v4 (I 0) f g j) h5 n6:=by kernel_rfl
theorem ul.zx:IR.run ul.t1 C N O K (ul.fr a b c d e f g j) h nx =
 zK 1 c λv1=>zI v1 h λv2=>ze .eql (.nil .sl) v2 .za λv3=>sG v3 true (λk=>zK 1 d k) λv4=>sG v3 true (λk=>zI v4 h k) λv5=>sG v3 true (λk=>ze .eql (.nil .sl) v5 .za k) λv6=>yS v3 v6 (.bool false) λv7=>K (ul.fr a b c d e v7 g j) h nx:=by kernel_rfl
theorem ul.jb:IR.run ul.t2 C N O K (ul.fr a b c d e f g j) h nx =
 zK 0 c λv1=>zI v1 h λv2=>zK 0 d λv3=>zI v3 h λv4=>ze .lss .int v2 v4 λv5=>K (ul.fr a b c d e f v5 j) h nx:=by kernel_rfl
theorem ul.dw:IR.run ul.t3 C N O K (ul.fr a b c d e f g j) h nx =
 K (ul.fr a b c d (I (-1)) f g j) h nx:=by kernel_rfl
theorem ul.rE:IR.run ul.t5 C N O K (ul.fr a b c d e f g j) h nx =
 zK 0 c λv1=>zI v1 h λv2=>zK 0 d λv3=>zI v3 h λv4=>ze .gtr .int v2 v4 λv5=>K (ul.fr a b c d e f g v5) h nx:=by kernel_rfl
theorem ul.qg:IR.run ul.t6 C N O K (ul.fr a b c d e f g j) h nx =
 K (ul.fr a b c d (I 1) f g j) h nx:=by kernel_rfl
theorem ul.v7:Arg.ev (.t (.of 7)) ⟨(ul.fr a b c d e f g j),[]⟩=j:=by kernel_rfl
theorem ul.v6:Arg.ev (.t (.of 6)) ⟨(ul.fr a b c d e f g j),[]⟩=g:=by kernel_rfl
theorem ul.rM:IR.run ul.t13 C N O K (ul.fr a b c d e f g j) h nx =
 K (ul.fr a b c d (I 0) f g j) h nx:=by kernel_rfl
theorem ul.v5:Arg.ev (.t (.of 5)) ⟨(ul.fr a b c d e f g j),[]⟩=f:=by kernel_rfl
theorem ul.go:zS tbl N C (.of 229) [a0,a1] h nx K0=IR.run ul.t21 C N (fnO ul.res K0) (zo ul.res K0) (ul.fr a0 a1 .u .u .u .u .u .u) h nx:=yE (F:=ul) (by kernel_rfl) (λ_=>by kernel_rfl) (by kernel_rfl)
theorem ul.ret:zo ul.res K0 (ul.fr a b c d e f g j) h nx=K0 e h nx:=by kernel_rfl
theorem gu.zy:IR.run gu.t0 C N O K (gu.fr a b c d e f g j q s i l p o u v w y) h nx =
 wz a h nx λv1 h2 n3=>wz b h2 n3 λv4 h5 n6=>yN [(I 0),.za] h5 n6 λv7 h8 n9=>yN [(I 0),.za] h8 n9 λvF hB nC=>K (gu.fr a b v1 v4 v7 vF g j q s i l p o u v w y) hB nC:=by kernel_rfl
theorem gu.zx:IR.run gu.t1 C N O K tm h nx=yG gu.tX C ⟨tm,[]⟩ h nx (λtm h nx=>K tm.v h nx):=gD ..
theorem gu.tY:yG (gu.tF r) C ⟨(gu.fr a b c d e f g j q s i l p o u v w y),[]⟩ h nx Kt =
 zK 1 c λv1=>zI v1 h λv2=>ze .eql (.nil .sl) v2 .za λv3=>sG v3 true (λk=>zK 1 d k) λv4=>sG v3 true (λk=>zI v4 h k) λv5=>sG v3 true (λk=>ze .eql (.nil .sl) v5 .za k) λv6=>yS v3 v6 (.bool false) λv7=>yG r C ⟨(gu.fr a b c d e f g j q s i l p o u v w y),v7::v6::v5::v4::v3::v3::v2::v1::[]⟩ h nx Kt:=by kernel_rfl
theorem gu.tK:yG (gu.tH []) C ⟨(gu.fr a b c d e f g j q s i l p o u v w y),s0::sT⟩ h nx Kt =
 sG s0 true (λk=>zK 0 c k) λv1=>sG s0 true (λk=>zI v1 h k) λv2=>sG s0 true (λk=>ze .neq .int v2 (I (-9223372036854775808)) k) λv3=>yS s0 v3 (.bool false) λv4=>Kt ⟨(gu.fr a b c d e f g j q s i l p o u v4 w y),v3::v2::v1::s0::s0::sT⟩ h nx:=by kernel_rfl
theorem gu.jb:IR.run gu.t2 C N O K (gu.fr a b c d e f g j q s i l p o u v w y) h nx =
 zK 0 c λv1=>zI v1 h λv2=>zK 0 d λv3=>zI v3 h λv4=>ze .quo .int v2 v4 λv5=>zK 0 c λv6=>zI v6 h λv7=>zK 0 d λv8=>zI v8 h λv9=>ze .rem .int v7 v9 λvF=>K (gu.fr a b c d e f v5 vF q s i l p o u v w y) h nx:=by kernel_rfl
theorem gu.dw:IR.run gu.t3 C N O K (gu.fr a b c d e f g j q s i l p o u v w y) h nx =
 ze .lss .int j (I 0) λv1=>K (gu.fr a b c d e f g j q s i l p o u v v1 y) h nx:=by kernel_rfl
theorem gu.rD:IR.run gu.t4 C N O K (gu.fr a b c d e f g j q s i l p o u v w y) h nx =
 ze .sub .int g (I 1) λv1=>zK 0 d λv2=>zI v2 h λv3=>ze .add .int j v3 λv4=>K (gu.fr a b c d e f v1 v4 q s i l p o u v w y) h nx:=by kernel_rfl
theorem gu.v16:Arg.ev (.t (.of 16)) ⟨(gu.fr a b c d e f g j q s i l p o u v w y),[]⟩=w:=by kernel_rfl
theorem gu.fU:IR.run gu.t7 C N O K (gu.fr a b c d e f g j q s i l p o u v w y) h nx =
 gU [(I 0),.za] [(0,1,g)] λv1=>gU [(I 0),.za] [(0,1,j)] λv2=>zX 2 e v1 h nx λv3 h4 n5=>zX 2 f v2 h4 n5 λv6 h7 n8=>K (gu.fr a b c d e f g j q s i l p o u v w y) h7 n8:=by kernel_rfl
theorem gu.v15:Arg.ev (.t (.of 15)) ⟨(gu.fr a b c d e f g j q s i l p o u v w y),[]⟩=v:=by kernel_rfl
theorem gu.go:zS tbl N C (.of 201) [a0,a1] h nx K0=IR.run gu.t29 C N (fnO gu.res K0) (zo gu.res K0) (gu.fr a0 a1 .u .u .u .u .u .u .u .u .u .u .u .u .u .u .u .u) h nx:=yE (F:=gu) (by kernel_rfl) (λ_=>by kernel_rfl) (by kernel_rfl)
theorem gu.ret:zo gu.res K0 (gu.fr a b c d e f g j q s i l p o u v w y) h nx=zF 2 e h λv1=>zF 2 f h λv2=>K0 (.tup [v1,v2]) h nx:=by kernel_rfl
theorem qw.zy:IR.run qw.t0 C N O K (qw.fr a b c d e f g) h nx =
 wz a h nx λv1 h2 n3=>wz b h2 n3 λv4 h5 n6=>yN [(I 0),.za] h5 n6 λv7 h8 n9=>K (qw.fr a b v1 v4 v7 f g) h8 n9:=by kernel_rfl
theorem qw.zx:IR.run qw.t1 C N O K (qw.fr a b c d e f g) h nx =
 zF 2 d h λv1=>C.fn 194 (.of 194) [v1] h nx λv2 h3 n4=>ze .lss .int v2 (I 0) λv5=>K (qw.fr a b c d e f v5) h3 n4:=by kernel_rfl
theorem qw.jb:IR.run qw.t2 C N O K (qw.fr a b c d e f g) h nx =
 zF 2 c h λv1=>zF 2 d h λv2=>C.fn 193 (.of 193) [v1] h nx λv3 h4 n5=>(zF 2 d h4 λvE=>zQ vE v2 (C.fn 193 (.of 193) [v2] h4 n5 λv6 h7 n8=>zX 2 c v3 h7 n8 λv9 hC nD=>zX 2 d v6 hC nD λvG hD nE=>K (qw.fr a b c d e f g) hD nE)):=by kernel_rfl
theorem qw.v6:Arg.ev (.t (.of 6)) ⟨(qw.fr a b c d e f g),[]⟩=g:=by kernel_rfl
theorem qw.rE:IR.run qw.t5 C N O K (qw.fr a b c d e f g) h nx =
 zF 2 c h λv1=>zF 2 d h λv2=>C.fn 201 (.of 201) [v1,v2] h nx λv3 h4 n5=>mg 0 v3 λv6=>mg 1 v3 λv7=>yN [(I 0),.za] h4 n5 λv8 h9 nA=>yN [(I 0),.za] h9 nA λvC hA nB=>zX 2 v8 v6 hA nB λvD hE nF=>zX 2 vC v7 hE nF λvA hF nG=>K (qw.fr a b c d e v8 g) hF nG:=by kernel_rfl
theorem qw.qg:IR.run qw.t6 C N O K (qw.fr a b c d e f g) h nx =
 zF 2 f h λv1=>zX 2 e v1 h nx λv2 h3 n4=>K (qw.fr a b c d e f g) h3 n4:=by kernel_rfl
theorem qw.go:zS tbl N C (.of 259) [a0,a1] h nx K0=IR.run qw.t10 C N (fnO qw.res K0) (zo qw.res K0) (qw.fr a0 a1 .u .u .u .u .u) h nx:=yE (F:=qw) (by kernel_rfl) (λ_=>by kernel_rfl) (by kernel_rfl)
theorem qw.ret:zo qw.res K0 (qw.fr a b c d e f g) h nx=zF 2 e h λv1=>K0 v1 h nx:=by kernel_rfl
theorem qh.zy:IR.run qh.t0 C N O K (qh.fr a b c d e f g j q s i l p o u v w y z A B D E G H L M P Q) h nx =
 K (qh.fr a b .za .za e f g j q s i l p o u v w y z A B D E G H L M P Q) h nx:=by kernel_rfl
theorem qh.zx:IR.run qh.t1 C N O K (qh.fr a b c d e f g j q s i l p o u v w y z A B D E G H L M P Q) h nx =
 C.fn 216 (.of 216) [a,b] h nx λv1 h2 n3=>ze .lss .int v1 (I 0) λv4=>K (qh.fr a b c d e f g j q s i l p o u v w y z A B v4 E G H L M P Q) h2 n3:=by kernel_rfl
theorem qh.jb:IR.run qh.t2 C N O K (qh.fr a b c d e f g j q s i l p o u v w y z A B D E G H L M P Q) h nx =
 K (qh.fr a b .za a e f g j q s i l p o u v w y z A B D E G H L M P Q) h nx:=by kernel_rfl
theorem qh.v21:Arg.ev (.t (.of 21)) ⟨(qh.fr a b c d e f g j q s i l p o u v w y z A B D E G H L M P Q),[]⟩=D:=by kernel_rfl
theorem qh.qg:IR.run qh.t6 C N O K (qh.fr a b c d e f g j q s i l p o u v w y z A B D E G H L M P Q) h nx =
 sLen b λv1=>ze .eql .int v1 (I 1) λv2=>K (qh.fr a b c d e f g j q s i l p o u v w y z A B D v2 G H L M P Q) h nx:=by kernel_rfl
theorem qh.fU:IR.run qh.t7 C N O K (qh.fr a b c d e f g j q s i l p o u v w y z A B D E G H L M P Q) h nx =
 zL 1 b (I 0) λv1=>zI v1 h λv2=>C.fn 268 (.of 268) [a,v2] h nx λv3 h4 n5=>mg 0 v3 λv6=>mg 1 v3 λv7=>K (qh.fr a b c d v6 v7 g j q s i l p o u v w y z A B D E G H L M P Q) h4 n5:=by kernel_rfl
theorem qh.fE:IR.run qh.t8 C N O K (qh.fr a b c d e f g j q s i l p o u v w y z A B D E G H L M P Q) h nx =
 jI 1 1 [(I 0)] [(0,1,f)] h nx λv1 h2 n3=>C.fn 269 (.of 269) [v1] h2 n3 λv4 h5 n6=>K (qh.fr a b e v4 e f g j q s i l p o u v w y z A B D E G H L M P Q) h5 n6:=by kernel_rfl
theorem qh.v22:Arg.ev (.t (.of 22)) ⟨(qh.fr a b c d e f g j q s i l p o u v w y z A B D E G H L M P Q),[]⟩=E:=by kernel_rfl
theorem qh.go:zS tbl N C (.of 213) [a0,a1] h nx K0=IR.run qh.t109 C N (fnO qh.res K0) (zo qh.res K0) (qh.fr a0 a1 .u .u .u .u .u .u .u .u .u .u .u .u .u .u .u .u .u .u .u .u .u .u .u .u .u .u .u) h nx:=yE (F:=qh) (by kernel_rfl) (λ_=>by kernel_rfl) (by kernel_rfl)
theorem qh.ret:zo qh.res K0 (qh.fr a b c d e f g j q s i l p o u v w y z A B D E G H L M P Q) h nx=K0 (.tup [c,d]) h nx:=by kernel_rfl
theorem nk.zy:IR.run nk.t0 C N O K (nk.fr a b c) h nx =
 wz a h nx λv1 h2 n3=>yN [(.bool false),.za] h2 n3 λv4 h5 n6=>K (nk.fr a v1 v4) h5 n6:=by kernel_rfl
theorem nk.zx:IR.run nk.t1 C N O K (nk.fr a b c) h nx =
 zK 0 b λv1=>zI v1 h λv2=>eX v2 λv3=>zK 1 b λv4=>zI v4 h λv5=>C.fn 214 (.of 214) [v3,v5] h nx λv6 h7 n8=>zX 2 c v6 h7 n8 λv9 hC nD=>K (nk.fr a b c) hC nD:=by kernel_rfl
theorem nk.go:zS tbl N C (.of 212) [a0] h nx K0=IR.run nk.t3 C N (fnO nk.res K0) (zo nk.res K0) (nk.fr a0 .u .u) h nx:=yE (F:=nk) (by kernel_rfl) (λ_=>by kernel_rfl) (by kernel_rfl)
theorem nk.ret:zo nk.res K0 (nk.fr a b c) h nx=zF 2 c h λv1=>K0 v1 h nx:=by kernel_rfl
theorem kz.zy:IR.run kz.t0 C N O K (kz.fr a b c d e) h nx =
 K (kz.fr a b .za d e) h nx:=by kernel_rfl
theorem kz.zx:IR.run kz.t1 C N O K (kz.fr a b c d e) h nx =
 sLen b λv1=>ze .gtr .int v1 (I 0) λv2=>K (kz.fr a b c d v2) h nx:=by kernel_rfl
theorem kz.v4:Arg.ev (.t (.of 4)) ⟨(kz.fr a b c d e),[]⟩=e:=by kernel_rfl
theorem kz.rD:IR.run kz.t4 C N O K (kz.fr a b c d e) h nx =
 C.fn 213 (.of 213) [a,b] h nx λv1 h2 n3=>mg 0 v1 λv4=>mg 1 v1 λv5=>K (kz.fr a b c v5 e) h2 n3:=by kernel_rfl
theorem kz.rE:IR.run kz.t5 C N O K (kz.fr a b c d e) h nx =
 K (kz.fr b d c d e) h nx:=by kernel_rfl
theorem kz.t9_L (Inv:Nat->AV->AV->T Blk->Pa->Prop) {m:Nat} (hm:m<N) (hi:Inv m a b h nx)
  (step:∀ (m:Nat) (z0 z1 z3 z4:AV) (h:T Blk) (nx:Pa) (R:Ks Prop),Inv m z0 z1 h nx->(∀ (m':Nat) (w0 w1 w3 w4:AV) (h':T Blk) (nx':Pa),m'<m->Inv m' w0 w1 h' nx'->R (kz.fr w0 w1 c w3 w4) h' nx'=.ok True)->IR.run kz.t8 C N O R (kz.fr z0 z1 c z3 z4) h nx=.ok True) :
  IR.run kz.t9 C N O K (kz.fr a b c d e) h nx=.ok True:=by
 rw [kz.t9];refine yB (λm tm h nx=>∃ z0 z1 z3 z4,tm=(kz.fr z0 z1 c z3 z4)/\Inv m z0 z1 h nx) ?_ hm ⟨_,_,_,_,rfl,hi⟩;rintro m tm h nx R ⟨z0,z1,z3,z4,rfl,hi⟩ hR;exact step m z0 z1 z3 z4 h nx R hi λm' w0 w1 w3 w4 h' nx' hlt hi'=>hR m' _ h' nx' hlt ⟨_,_,_,_,rfl,hi'⟩
theorem kz.pu:IR.run kz.t11 C N O K (kz.fr a b c d e) h nx =
 K (kz.fr a b a d e) h nx:=by kernel_rfl
theorem kz.go:zS tbl N C (.of 208) [a0,a1] h nx K0=IR.run kz.t14 C N (fnO kz.res K0) (zo kz.res K0) (kz.fr a0 a1 .u .u .u) h nx:=yE (F:=kz) (by kernel_rfl) (λ_=>by kernel_rfl) (by kernel_rfl)
theorem kz.ret:zo kz.res K0 (kz.fr a b c d e) h nx=K0 c h nx:=by kernel_rfl
theorem qp.zy:IR.run qp.t0 C N O K (qp.fr a b c d) h nx =
 K (qp.fr a b (I 0) d) h nx:=by kernel_rfl
theorem qp.zx:IR.run qp.t1 C N O K (qp.fr a b c d) h nx =
 ze .gtr .int b (I 0) λv1=>K (qp.fr a b c v1) h nx:=by kernel_rfl
theorem qp.v3:Arg.ev (.t (.of 3)) ⟨(qp.fr a b c d),[]⟩=d:=by kernel_rfl
theorem qp.rD:IR.run qp.t4 C N O K (qp.fr a b c d) h nx =
 ze .rem .int a b λv1=>K (qp.fr b v1 c d) h nx:=by kernel_rfl
theorem qp.t7_L (Inv:Nat->AV->AV->T Blk->Pa->Prop) {m:Nat} (hm:m<N) (hi:Inv m a b h nx)
  (step:∀ (m:Nat) (z0 z1 z3:AV) (h:T Blk) (nx:Pa) (R:Ks Prop),Inv m z0 z1 h nx->(∀ (m':Nat) (w0 w1 w3:AV) (h':T Blk) (nx':Pa),m'<m->Inv m' w0 w1 h' nx'->R (qp.fr w0 w1 c w3) h' nx'=.ok True)->IR.run qp.t6 C N O R (qp.fr z0 z1 c z3) h nx=.ok True) :
  IR.run qp.t7 C N O K (qp.fr a b c d) h nx=.ok True:=by
 rw [qp.t7];refine yB (λm tm h nx=>∃ z0 z1 z3,tm=(qp.fr z0 z1 c z3)/\Inv m z0 z1 h nx) ?_ hm ⟨_,_,_,rfl,hi⟩;rintro m tm h nx R ⟨z0,z1,z3,rfl,hi⟩ hR;exact step m z0 z1 z3 h nx R hi λm' w0 w1 w3 h' nx' hlt hi'=>hR m' _ h' nx' hlt ⟨_,_,_,rfl,hi'⟩
theorem qp.rF:IR.run qp.t9 C N O K (qp.fr a b c d) h nx =
 K (qp.fr a b a d) h nx:=by kernel_rfl
theorem qp.go:zS tbl N C (.of 210) [a0,a1] h nx K0=IR.run qp.t12 C N (fnO qp.res K0) (zo qp.res K0) (qp.fr a0 a1 .u .u) h nx:=yE (F:=qp) (by kernel_rfl) (λ_=>by kernel_rfl) (by kernel_rfl)
theorem qp.ret:zo qp.res K0 (qp.fr a b c d) h nx=K0 c h nx:=by kernel_rfl
theorem yu.zy:IR.run yu.t0 C N O K (yu.fr a b c d e f g) h nx =
 yN [(.bool false),.za] h nx λv1 h2 n3=>K (yu.fr a v1 c d e f g) h2 n3:=by kernel_rfl
theorem yu.zx:IR.run yu.t1 C N O K (yu.fr a b c d e f g) h nx =
 K (yu.fr a b .za d e f g) h nx:=by kernel_rfl
theorem yu.jb:IR.run yu.t2 C N O K (yu.fr a b c d e f g) h nx =
 ze .lss .int a (I 0) λv1=>K (yu.fr a b c v1 e f g) h nx:=by kernel_rfl
theorem yu.dw:IR.run yu.t3 C N O K (yu.fr a b c d e f g) h nx =
 ze .neq .int a (I 0) λv1=>K (yu.fr a b c d e v1 g) h nx:=by kernel_rfl
theorem yu.v5:Arg.ev (.t (.of 5)) ⟨(yu.fr a b c d e f g),[]⟩=f:=by kernel_rfl
theorem yu.qg:IR.run yu.t6 C N O K (yu.fr a b c d e f g) h nx =
 ze .rem .int a (I 1000000000) λv1=>K (yu.fr a b c d v1 f g) h nx:=by kernel_rfl
theorem yu.fU:IR.run yu.t7 C N O K (yu.fr a b c d e f g) h nx =
 ze .lss .int e (I 0) λv1=>K (yu.fr a b c d e f v1) h nx:=by kernel_rfl
theorem yu.fE:IR.run yu.t8 C N O K (yu.fr a b c d e f g) h nx =
 ze .sub .int (I 0) e λv1=>K (yu.fr a b c d v1 f g) h nx:=by kernel_rfl
theorem yu.v6:Arg.ev (.t (.of 6)) ⟨(yu.fr a b c d e f g),[]⟩=g:=by kernel_rfl
theorem yu.pu:IR.run yu.t11 C N O K (yu.fr a b c d e f g) h nx =
 jI 1 1 [(I 0)] [(0,1,e)] h nx λv1 h2 n3=>sZ 1 8 c v1 h2 n3 λv4 h5 n6=>K (yu.fr a b v4 d e f g) h5 n6:=by kernel_rfl
theorem yu.ni:IR.run yu.t12 C N O K (yu.fr a b c d e f g) h nx =
 ze .quo .int a (I 1000000000) λv1=>K (yu.fr v1 b c d e f g) h nx:=by kernel_rfl
theorem yu.zyp (Inv:Nat->AV->AV->T Blk->Pa->Prop) {m:Nat} (hm:m<N) (hi:Inv m a c h nx)
  (step:∀ (m:Nat) (z0 z2 z4 z5 z6:AV) (h:T Blk) (nx:Pa) (R:Ks Prop),Inv m z0 z2 h nx->(∀ (m':Nat) (w0 w2 w4 w5 w6:AV) (h':T Blk) (nx':Pa),m'<m->Inv m' w0 w2 h' nx'->R (yu.fr w0 b w2 d w4 w5 w6) h' nx'=.ok True)->IR.run yu.t17 C N O R (yu.fr z0 b z2 d z4 z5 z6) h nx=.ok True) :
  IR.run yu.t18 C N O K (yu.fr a b c d e f g) h nx=.ok True:=by
 rw [yu.t18];refine yB (λm tm h nx=>∃ z0 z2 z4 z5 z6,tm=(yu.fr z0 b z2 d z4 z5 z6)/\Inv m z0 z2 h nx) ?_ hm ⟨_,_,_,_,_,rfl,hi⟩;rintro m tm h nx R ⟨z0,z2,z4,z5,z6,rfl,hi⟩ hR;exact step m z0 z2 z4 z5 z6 h nx R hi λm' w0 w2 w4 w5 w6 h' nx' hlt hi'=>hR m' _ h' nx' hlt ⟨_,_,_,_,_,rfl,hi'⟩
theorem yu.aD:IR.run yu.t20 C N O K (yu.fr a b c d e f g) h nx =
 C.fn 214 (.of 214) [d,c] h nx λv1 h2 n3=>zX 2 b v1 h2 n3 λv4 h5 n6=>K (yu.fr a b c d e f g) h5 n6:=by kernel_rfl
theorem yu.go:zS tbl N C (.of 134) [a0] h nx K0=IR.run yu.t25 C N (fnO yu.res K0) (zo yu.res K0) (yu.fr a0 .u .u .u .u .u .u) h nx:=yE (F:=yu) (by kernel_rfl) (λ_=>by kernel_rfl) (by kernel_rfl)
theorem yu.ret:zo yu.res K0 (yu.fr a b c d e f g) h nx=zF 2 b h λv1=>K0 v1 h nx:=by kernel_rfl
theorem jc.zy:IR.run jc.t0 C N O K (jc.fr a b c d e) h nx =
 K (jc.fr a b (.str []) d e) h nx:=by kernel_rfl
theorem jc.zx:IR.run jc.t1 C N O K (jc.fr a b c d e) h nx =
 K (jc.fr a b c (.str []) e) h nx:=by kernel_rfl
theorem jc.jb:IR.run jc.t2 C N O K tm h nx=yG jc.r2_0 C ⟨tm,[]⟩ h nx (λtm h nx=>K tm.v h nx):=gD ..
theorem jc.zwi:yG (jc.zuk []) C ⟨(jc.fr a b c d e),[]⟩ h nx Kt =
 ze .gtr .int a (I 0) λv1=>sG v1 false (λk=>k d) λv2=>sG v1 false (λk=>kQ v2 k) λv3=>sG v1 false (λk=>k b) λv4=>sG v1 false (λk=>ze .lss .int v3 v4 k) λv5=>yS v1 (.bool true) v5 λv6=>Kt ⟨(jc.fr a b c d v6),v5::v4::v3::v2::v1::v1::a::[]⟩ h nx:=by kernel_rfl
theorem jc.v4:Arg.ev (.t (.of 4)) ⟨(jc.fr a b c d e),[]⟩=e:=by kernel_rfl
theorem jc.rE:IR.run jc.t5 C N O K (jc.fr a b c d e) h nx =
 ze .rem .int a (I 10) λv1=>ze .rem .int a (I 10) λv2=>ze .add .int v2 (I 1) λv3=>uJ (.str [48,49,50,51,52,53,54,55,56,57]) (some v1) (some v3) λv4=>ze .add .str v4 d λv5=>K (jc.fr a b c v5 e) h nx:=by kernel_rfl
theorem jc.qg:IR.run jc.t6 C N O K (jc.fr a b c d e) h nx =
 ze .quo .int a (I 10) λv1=>K (jc.fr v1 b c d e) h nx:=by kernel_rfl
theorem jc.znd (Inv:Nat->AV->AV->T Blk->Pa->Prop) {m:Nat} (hm:m<N) (hi:Inv m a d h nx)
  (step:∀ (m:Nat) (z0 z3 z4:AV) (h:T Blk) (nx:Pa) (R:Ks Prop),Inv m z0 z3 h nx->(∀ (m':Nat) (w0 w3 w4:AV) (h':T Blk) (nx':Pa),m'<m->Inv m' w0 w3 h' nx'->R (jc.fr w0 b c w3 w4) h' nx'=.ok True)->IR.run jc.t9 C N O R (jc.fr z0 b c z3 z4) h nx=.ok True) :
  IR.run jc.t10 C N O K (jc.fr a b c d e) h nx=.ok True:=by
 rw [jc.t10];refine yB (λm tm h nx=>∃ z0 z3 z4,tm=(jc.fr z0 b c z3 z4)/\Inv m z0 z3 h nx) ?_ hm ⟨_,_,_,rfl,hi⟩;rintro m tm h nx R ⟨z0,z3,z4,rfl,hi⟩ hR;exact step m z0 z3 z4 h nx R hi λm' w0 w3 w4 h' nx' hlt hi'=>hR m' _ h' nx' hlt ⟨_,_,_,rfl,hi'⟩
theorem jc.ni:IR.run jc.t12 C N O K (jc.fr a b c d e) h nx =
 K (jc.fr a b d d e) h nx:=by kernel_rfl
theorem jc.go:zS tbl N C (.of 211) [a0,a1] h nx K0=IR.run jc.t16 C N (fnO jc.res K0) (zo jc.res K0) (jc.fr a0 a1 .u .u .u) h nx:=yE (F:=jc) (by kernel_rfl) (λ_=>by kernel_rfl) (by kernel_rfl)
theorem jc.ret:zo jc.res K0 (jc.fr a b c d e) h nx=K0 c h nx:=by kernel_rfl
theorem yw.zy:IR.run yw.t0 C N O K (yw.fr a b c d e f g j) h nx =
 wz a h nx λv1 h2 n3=>K (yw.fr a v1 (.str []) d e f g j) h2 n3:=by kernel_rfl
theorem yw.zx:IR.run yw.t1 C N O K (yw.fr a b c d e f g j) h nx =
 zK 1 b λv1=>zI v1 h λv2=>sLen v2 λv3=>ze .eql .int v3 (I 0) λv4=>K (yw.fr a b c d e v4 g j) h nx:=by kernel_rfl
theorem yw.jb:IR.run yw.t2 C N O K (yw.fr a b c d e f g j) h nx =
 K (yw.fr a b (.str [48]) d e f g j) h nx:=by kernel_rfl
theorem yw.v5:Arg.ev (.t (.of 5)) ⟨(yw.fr a b c d e f g j),[]⟩=f:=by kernel_rfl
theorem yw.qg:IR.run yw.t6 C N O K (yw.fr a b c d e f g j) h nx =
 zK 1 b λv1=>zI v1 h λv2=>zK 1 b λv3=>zI v3 h λv4=>sLen v4 λv5=>ze .sub .int v5 (I 1) λv6=>zL 1 v2 v6 λv7=>zI v7 h λv8=>C.fn 211 (.of 211) [v8,(I 1)] h nx λv9 hC nD=>K (yw.fr a b c v9 e f g j) hC nD:=by kernel_rfl
theorem yw.fU:IR.run yw.t7 C N O K (yw.fr a b c d e f g j) h nx =
 zK 1 b λv1=>zI v1 h λv2=>sLen v2 λv3=>ze .sub .int v3 (I 2) λv4=>K (yw.fr a b c d v4 f g j) h nx:=by kernel_rfl
theorem yw.fE:IR.run yw.t8 C N O K (yw.fr a b c d e f g j) h nx =
 ze .geq .int e (I 0) λv1=>K (yw.fr a b c d e f v1 j) h nx:=by kernel_rfl
theorem yw.v6:Arg.ev (.t (.of 6)) ⟨(yw.fr a b c d e f g j),[]⟩=g:=by kernel_rfl
theorem yw.pu:IR.run yw.t11 C N O K (yw.fr a b c d e f g j) h nx =
 zK 1 b λv1=>zI v1 h λv2=>zL 1 v2 e λv3=>zI v3 h λv4=>C.fn 211 (.of 211) [v4,(I 9)] h nx λv5 h6 n7=>ze .add .str d v5 λv8=>K (yw.fr a b c v8 e f g j) h6 n7:=by kernel_rfl
theorem yw.rM:IR.run yw.t13 C N O K (yw.fr a b c d e f g j) h nx =
 ze .sub .int e (I 1) λv1=>K (yw.fr a b c d v1 f g j) h nx:=by kernel_rfl
theorem yw.zab (Inv:Nat->AV->AV->T Blk->Pa->Prop) {m:Nat} (hm:m<N) (hi:Inv m d e h nx)
  (step:∀ (m:Nat) (z3 z4 z6:AV) (h:T Blk) (nx:Pa) (R:Ks Prop),Inv m z3 z4 h nx->(∀ (m':Nat) (w3 w4 w6:AV) (h':T Blk) (nx':Pa),m'<m->Inv m' w3 w4 h' nx'->R (yw.fr a b c w3 w4 f w6 j) h' nx'=.ok True)->IR.run yw.t15 C N O R (yw.fr a b c z3 z4 f z6 j) h nx=.ok True) :
  IR.run yw.t16 C N O K (yw.fr a b c d e f g j) h nx=.ok True:=by
 rw [yw.t16];refine yB (λm tm h nx=>∃ z3 z4 z6,tm=(yw.fr a b c z3 z4 f z6 j)/\Inv m z3 z4 h nx) ?_ hm ⟨_,_,_,rfl,hi⟩;rintro m tm h nx R ⟨z3,z4,z6,rfl,hi⟩ hR;exact step m z3 z4 z6 h nx R hi λm' w3 w4 w6 h' nx' hlt hi'=>hR m' _ h' nx' hlt ⟨_,_,_,rfl,hi'⟩
theorem yw.rX:IR.run yw.t19 C N O K (yw.fr a b c d e f g j) h nx =
 zK 0 b λv1=>zI v1 h λv2=>K (yw.fr a b c d e f g v2) h nx:=by kernel_rfl
theorem yw.aD:IR.run yw.t20 C N O K (yw.fr a b c d e f g j) h nx =
 ze .add .str (.str [45]) d λv1=>K (yw.fr a b v1 d e f g j) h nx:=by kernel_rfl
theorem yw.v7:Arg.ev (.t (.of 7)) ⟨(yw.fr a b c d e f g j),[]⟩=j:=by kernel_rfl
theorem yw.eY:IR.run yw.t24 C N O K (yw.fr a b c d e f g j) h nx =
 K (yw.fr a b d d e f g j) h nx:=by kernel_rfl
theorem yw.go:zS tbl N C (.of 133) [a0] h nx K0=IR.run yw.t30 C N (fnO yw.res K0) (zo yw.res K0) (yw.fr a0 .u .u .u .u .u .u .u) h nx:=yE (F:=yw) (by kernel_rfl) (λ_=>by kernel_rfl) (by kernel_rfl)
theorem yw.ret:zo yw.res K0 (yw.fr a b c d e f g j) h nx=K0 c h nx:=by kernel_rfl
theorem uf.zy:IR.run uf.t0 C N O K (uf.fr a b c d e) h nx =
 K (uf.fr a (I 0) c d e) h nx:=by kernel_rfl
theorem uf.zx:IR.run uf.t1 C N O K (uf.fr a b c d e) h nx =
 K (uf.fr a b (I 0) d e) h nx:=by kernel_rfl
theorem uf.jb:IR.run uf.t2 C N O K (uf.fr a b c d e) h nx =
 K (uf.fr a b c (I 0) e) h nx:=by kernel_rfl
theorem uf.dw:IR.run uf.t3 C N O K (uf.fr a b c d e) h nx =
 kQ a λv1=>ze .lss .int d v1 λv2=>K (uf.fr a b c d v2) h nx:=by kernel_rfl
theorem uf.v4:Arg.ev (.t (.of 4)) ⟨(uf.fr a b c d e),[]⟩=e:=by kernel_rfl
theorem uf.qg:IR.run uf.t6 C N O K (uf.fr a b c d e) h nx =
 ze .mul .int (I 10) c λv1=>zac a d λv2=>mE .i64 v2 λv3=>ze .add .int v1 v3 λv4=>ze .sub .int v4 (I 48) λv5=>K (uf.fr a b v5 d e) h nx:=by kernel_rfl
theorem uf.fE:IR.run uf.t8 C N O K (uf.fr a b c d e) h nx =
 ze .add .int d (I 1) λv1=>K (uf.fr a b c v1 e) h nx:=by kernel_rfl
theorem uf.aF (Inv:Nat->AV->AV->T Blk->Pa->Prop) {m:Nat} (hm:m<N) (hi:Inv m c d h nx)
  (step:∀ (m:Nat) (z2 z3 z4:AV) (h:T Blk) (nx:Pa) (R:Ks Prop),Inv m z2 z3 h nx->(∀ (m':Nat) (w2 w3 w4:AV) (h':T Blk) (nx':Pa),m'<m->Inv m' w2 w3 h' nx'->R (uf.fr a b w2 w3 w4) h' nx'=.ok True)->IR.run uf.t10 C N O R (uf.fr a b z2 z3 z4) h nx=.ok True) :
  IR.run uf.t11 C N O K (uf.fr a b c d e) h nx=.ok True:=by
 rw [uf.t11];refine yB (λm tm h nx=>∃ z2 z3 z4,tm=(uf.fr a b z2 z3 z4)/\Inv m z2 z3 h nx) ?_ hm ⟨_,_,_,rfl,hi⟩;rintro m tm h nx R ⟨z2,z3,z4,rfl,hi⟩ hR;exact step m z2 z3 z4 h nx R hi λm' w2 w3 w4 h' nx' hlt hi'=>hR m' _ h' nx' hlt ⟨_,_,_,rfl,hi'⟩
theorem uf.fT:IR.run uf.t14 C N O K (uf.fr a b c d e) h nx =
 K (uf.fr a c c d e) h nx:=by kernel_rfl
theorem uf.go:zS tbl N C (.of 209) [a0] h nx K0=IR.run uf.t18 C N (fnO uf.res K0) (zo uf.res K0) (uf.fr a0 .u .u .u .u) h nx:=yE (F:=uf) (by kernel_rfl) (λ_=>by kernel_rfl) (by kernel_rfl)
theorem uf.ret:zo uf.res K0 (uf.fr a b c d e) h nx=K0 b h nx:=by kernel_rfl
theorem ja.zy:IR.run ja.t0 C N O K (ja.fr a b c d e f) h nx =
 yN [(.bool false),.za] h nx λv1 h2 n3=>K (ja.fr a v1 c d e f) h2 n3:=by kernel_rfl
theorem ja.zx:IR.run ja.t1 C N O K (ja.fr a b c d e f) h nx =
 kQ a λv1=>ze .gtr .int v1 (I 0) λv2=>sG v2 true (λk=>k a) λv3=>sG v2 true (λk=>zac v3 (I 0) k) λv4=>sG v2 true (λk=>ze .eql .int v4 (.int .u8 45) k) λv5=>yS v2 v5 (.bool false) λv6=>K (ja.fr a b v6 d e f) h nx:=by kernel_rfl
theorem ja.jb:IR.run ja.t2 C N O K (ja.fr a b c d e f) h nx =
 K (ja.fr a b c d c f) h nx:=by kernel_rfl
theorem ja.dw:IR.run ja.t3 C N O K (ja.fr a b c d e f) h nx =
 uJ a (some (I 1)) none λv1=>K (ja.fr v1 b c d e f) h nx:=by kernel_rfl
theorem ja.v4:Arg.ev (.t (.of 4)) ⟨(ja.fr a b c d e f),[]⟩=e:=by kernel_rfl
theorem ja.qg:IR.run ja.t6 C N O K (ja.fr a b c d e f) h nx =
 K (ja.fr a b c .za e f) h nx:=by kernel_rfl
theorem ja.fU:IR.run ja.t7 C N O K (ja.fr a b c d e f) h nx =
 kQ a λv1=>ze .gtr .int v1 (I 9) λv2=>K (ja.fr a b c d e v2) h nx:=by kernel_rfl
theorem ja.v5:Arg.ev (.t (.of 5)) ⟨(ja.fr a b c d e f),[]⟩=f:=by kernel_rfl
theorem ja.sV:IR.run ja.t10 C N O K (ja.fr a b c d e f) h nx =
 kQ a λv1=>ze .sub .int v1 (I 9) λv2=>uJ a (some v2) none λv3=>C.fn 209 (.of 209) [v3] h nx λv4 h5 n6=>jI 1 1 [(I 0)] [(0,1,v4)] h5 n6 λv7 h8 n9=>sZ 1 8 d v7 h8 n9 λvF hB nC=>K (ja.fr a b c vF e f) hB nC:=by kernel_rfl
theorem ja.pu:IR.run ja.t11 C N O K (ja.fr a b c d e f) h nx =
 kQ a λv1=>ze .sub .int v1 (I 9) λv2=>uJ a none (some v2) λv3=>K (ja.fr v3 b c d e f) h nx:=by kernel_rfl
theorem ja.zfk (Inv:Nat->AV->AV->T Blk->Pa->Prop) {m:Nat} (hm:m<N) (hi:Inv m a d h nx)
  (step:∀ (m:Nat) (z0 z3 z5:AV) (h:T Blk) (nx:Pa) (R:Ks Prop),Inv m z0 z3 h nx->(∀ (m':Nat) (w0 w3 w5:AV) (h':T Blk) (nx':Pa),m'<m->Inv m' w0 w3 h' nx'->R (ja.fr w0 b c w3 e w5) h' nx'=.ok True)->IR.run ja.t14 C N O R (ja.fr z0 b c z3 e z5) h nx=.ok True) :
  IR.run ja.t15 C N O K (ja.fr a b c d e f) h nx=.ok True:=by
 rw [ja.t15];refine yB (λm tm h nx=>∃ z0 z3 z5,tm=(ja.fr z0 b c z3 e z5)/\Inv m z0 z3 h nx) ?_ hm ⟨_,_,_,rfl,hi⟩;rintro m tm h nx R ⟨z0,z3,z5,rfl,hi⟩ hR;exact step m z0 z3 z5 h nx R hi λm' w0 w3 w5 h' nx' hlt hi'=>hR m' _ h' nx' hlt ⟨_,_,_,rfl,hi'⟩
theorem ja.sW:IR.run ja.t17 C N O K (ja.fr a b c d e f) h nx =
 C.fn 209 (.of 209) [a] h nx λv1 h2 n3=>jI 1 1 [(I 0)] [(0,1,v1)] h2 n3 λv4 h5 n6=>sZ 1 8 d v4 h5 n6 λv7 h8 n9=>C.fn 214 (.of 214) [c,v7] h8 n9 λvF hB nC=>zX 2 b vF hB nC λvH hG nH=>K (ja.fr a b c d e f) hG nH:=by kernel_rfl
theorem ja.go:zS tbl N C (.of 205) [a0] h nx K0=IR.run ja.t23 C N (fnO ja.res K0) (zo ja.res K0) (ja.fr a0 .u .u .u .u .u) h nx:=yE (F:=ja) (by kernel_rfl) (λ_=>by kernel_rfl) (by kernel_rfl)
theorem ja.ret:zo ja.res K0 (ja.fr a b c d e f) h nx=zF 2 b h λv1=>K0 v1 h nx:=by kernel_rfl
theorem jo.zy:IR.run jo.t0 C N O K (jo.fr a b c d e) h nx =
 K (jo.fr a (I 0) c d e) h nx:=by kernel_rfl
theorem jo.zx:IR.run jo.t1 C N O K (jo.fr a b c d e) h nx =
 K (jo.fr a b (I 0) d e) h nx:=by kernel_rfl
theorem jo.jb:IR.run jo.t2 C N O K (jo.fr a b c d e) h nx =
 kQ a λv1=>ze .lss .int c v1 λv2=>K (jo.fr a b c v2 e) h nx:=by kernel_rfl
theorem jo.v3:Arg.ev (.t (.of 3)) ⟨(jo.fr a b c d e),[]⟩=d:=by kernel_rfl
theorem jo.rE:IR.run jo.t5 C N O K (jo.fr a b c d e) h nx =
 zac a c λv1=>ze .eql .int v1 (.int .u8 47) λv2=>K (jo.fr a b c d v2) h nx:=by kernel_rfl
theorem jo.qg:IR.run jo.t6 C N O K (jo.fr a b c d e) h nx =
 K (jo.fr a c c d e) h nx:=by kernel_rfl
theorem jo.v4:Arg.ev (.t (.of 4)) ⟨(jo.fr a b c d e),[]⟩=e:=by kernel_rfl
theorem jo.pu:IR.run jo.t11 C N O K (jo.fr a b c d e) h nx =
 ze .add .int c (I 1) λv1=>K (jo.fr a b v1 d e) h nx:=by kernel_rfl
theorem jo.zfl (Inv:Nat->AV->T Blk->Pa->Prop) {m:Nat} (hm:m<N) (hi:Inv m c h nx)
  (step:∀ (m:Nat) (z1 z2 z3 z4:AV) (h:T Blk) (nx:Pa) (R:Ks Prop),Inv m z2 h nx->(∀ (m':Nat) (w1 w2 w3 w4:AV) (h':T Blk) (nx':Pa),m'<m->Inv m' w2 h' nx'->R (jo.fr a w1 w2 w3 w4) h' nx'=.ok True)->IR.run jo.t13 C N O R (jo.fr a z1 z2 z3 z4) h nx=.ok True) :
  IR.run jo.t14 C N O K (jo.fr a b c d e) h nx=.ok True:=by
 rw [jo.t14];refine yB (λm tm h nx=>∃ z1 z2 z3 z4,tm=(jo.fr a z1 z2 z3 z4)/\Inv m z2 h nx) ?_ hm ⟨_,_,_,_,rfl,hi⟩;rintro m tm h nx R ⟨z1,z2,z3,z4,rfl,hi⟩ hR;exact step m z1 z2 z3 z4 h nx R hi λm' w1 w2 w3 w4 h' nx' hlt hi'=>hR m' _ h' nx' hlt ⟨_,_,_,_,rfl,hi'⟩
theorem jo.sW:IR.run jo.t17 C N O K (jo.fr a b c d e) h nx =
 kQ a λv1=>K (jo.fr a v1 c d e) h nx:=by kernel_rfl
theorem jo.go:zS tbl N C (.of 206) [a0] h nx K0=IR.run jo.t20 C N (fnO jo.res K0) (zo jo.res K0) (jo.fr a0 .u .u .u .u) h nx:=yE (F:=jo) (by kernel_rfl) (λ_=>by kernel_rfl) (by kernel_rfl)
theorem jo.ret:zo jo.res K0 (jo.fr a b c d e) h nx=K0 b h nx:=by kernel_rfl
theorem ql.zy:IR.run ql.t0 C N O K (ql.fr a b c d e f) h nx =
 yN [(.bool false),.za] h nx λv1 h2 n3=>yN [(.bool false),.za] h2 n3 λv4 h5 n6=>K (ql.fr a v1 v4 d e f) h5 n6:=by kernel_rfl
theorem ql.zx:IR.run ql.t1 C N O K (ql.fr a b c d e f) h nx =
 K (ql.fr a b c a e f) h nx:=by kernel_rfl
theorem ql.jb:IR.run ql.t2 C N O K (ql.fr a b c d e f) h nx =
 C.fn 206 (.of 206) [d] h nx λv1 h2 n3=>K (ql.fr a b c d v1 f) h2 n3:=by kernel_rfl
theorem ql.dw:IR.run ql.t3 C N O K (ql.fr a b c d e f) h nx =
 kQ d λv1=>ze .eql .int e v1 λv2=>K (ql.fr a b c d e v2) h nx:=by kernel_rfl
theorem ql.rD:IR.run ql.t4 C N O K (ql.fr a b c d e f) h nx =
 C.fn 205 (.of 205) [d] h nx λv1 h2 n3=>C.fn 134 (.of 134) [(I 1)] h2 n3 λv4 h5 n6=>zX 2 b v1 h5 n6 λv7 h8 n9=>zX 2 c v4 h8 n9 λvF hB nC=>K (ql.fr a b c d e f) hB nC:=by kernel_rfl
theorem ql.v5:Arg.ev (.t (.of 5)) ⟨(ql.fr a b c d e f),[]⟩=f:=by kernel_rfl
theorem ql.fE:IR.run ql.t8 C N O K (ql.fr a b c d e f) h nx =
 uJ d none (some e) λv1=>ze .add .int e (I 1) λv2=>uJ d (some v2) none λv3=>C.fn 205 (.of 205) [v1] h nx λv4 h5 n6=>(uJ d (some v2) none λvA=>zQ vA v3 ((ze .add .int e (I 1) λvB=>zQ vB v2 (zQ e e (zQ d d (C.fn 205 (.of 205) [v3] h5 n6 λv7 h8 n9=>zX 2 b v4 h8 n9 λvF hB nC=>zX 2 c v7 hB nC λvH hG nH=>K (ql.fr a b c d e f) hG nH)))))):=by kernel_rfl
theorem ql.go:zS tbl N C (.of 129) [a0] h nx K0=IR.run ql.t13 C N (fnO ql.res K0) (zo ql.res K0) (ql.fr a0 .u .u .u .u .u) h nx:=yE (F:=ql) (by kernel_rfl) (λ_=>by kernel_rfl) (by kernel_rfl)
theorem ql.ret:zo ql.res K0 (ql.fr a b c d e f) h nx=zF 2 b h λv1=>zF 2 c h λv2=>K0 (.tup [v1,v2]) h nx:=by kernel_rfl
theorem zu.zy:IR.run zu.t0 C N O K (zu.fr a b c d e f g j q s i l p o) h nx =
 K (zu.fr a (I 0) (I 0) (.bool false) e f g j q s i l p o) h nx:=by kernel_rfl
theorem zu.zx:IR.run zu.t1 C N O K (zu.fr a b c d e f g j q s i l p o) h nx =
 K (zu.fr a b c d a f g j q s i l p o) h nx:=by kernel_rfl
theorem zu.jb:IR.run zu.t2 C N O K (zu.fr a b c d e f g j q s i l p o) h nx =
 kQ e λv1=>ze .gtr .int v1 (I 20) λv2=>K (zu.fr a b c d e f g j q v2 i l p o) h nx:=by kernel_rfl
theorem zu.v9:Arg.ev (.t (.of 9)) ⟨(zu.fr a b c d e f g j q s i l p o),[]⟩=s:=by kernel_rfl
theorem zu.fU:IR.run zu.t7 C N O K (zu.fr a b c d e f g j q s i l p o) h nx =
 kQ e λv1=>ze .gtr .int v1 (I 0) λv2=>sG v2 true (λk=>k e) λv3=>sG v2 true (λk=>zac v3 (I 0) k) λv4=>sG v2 true (λk=>ze .eql .int v4 (.int .u8 45) k) λv5=>yS v2 v5 (.bool false) λv6=>K (zu.fr a b c d e v6 g j q s i l p o) h nx:=by kernel_rfl
theorem zu.fE:IR.run zu.t8 C N O K (zu.fr a b c d e f g j q s i l p o) h nx =
 K (zu.fr a b c d e f g j q s f l p o) h nx:=by kernel_rfl
theorem zu.rF:IR.run zu.t9 C N O K (zu.fr a b c d e f g j q s i l p o) h nx =
 uJ e (some (I 1)) none λv1=>K (zu.fr a b c d v1 f g j q s i l p o) h nx:=by kernel_rfl
theorem zu.v10:Arg.ev (.t (.of 10)) ⟨(zu.fr a b c d e f g j q s i l p o),[]⟩=i:=by kernel_rfl
theorem zu.ni:IR.run zu.t12 C N O K (zu.fr a b c d e f g j q s i l p o) h nx =
 C.fn 206 (.of 206) [e] h nx λv1 h2 n3=>K (zu.fr a b c d e f v1 j q s i l p o) h2 n3:=by kernel_rfl
theorem zu.rM:IR.run zu.t13 C N O K tm h nx=yG zu.r8_0 C ⟨tm,[]⟩ h nx (λtm h nx=>K tm.v h nx):=gD ..
theorem zu.zwj:yG (zu.zul r) C ⟨(zu.fr a b c d e f g j q s i l p o),[]⟩ h nx Kt =
 ze .gtr .int g (I 9) λv1=>sG v1 false (λk=>k e) λv2=>sG v1 false (λk=>kQ v2 k) λv3=>sG v1 false (λk=>k g) λv4=>sG v1 false (λk=>ze .sub .int v3 v4 k) λv5=>sG v1 false (λk=>ze .gtr .int v5 (I 10) k) λv6=>yG r C ⟨(zu.fr a b c d e f g j q s i l p o),v6::v5::v4::v3::v2::v1::v1::g::[]⟩ h nx Kt:=by kernel_rfl
theorem zu.zwk:yG (zu.zum []) C ⟨(zu.fr a b c d e f g j q s i l p o),s0::s1::s2::s3::s4::s5::sT⟩ h nx Kt =
 yS s5 (.bool true) s0 λv1=>Kt ⟨(zu.fr a b c d e f g j q s i v1 p o),s0::s1::s2::s3::s4::s5::sT⟩ h nx:=by kernel_rfl
theorem zu.v11:Arg.ev (.t (.of 11)) ⟨(zu.fr a b c d e f g j q s i l p o),[]⟩=l:=by kernel_rfl
theorem zu.zfm:IR.run zu.t18 C N O K (zu.fr a b c d e f g j q s i l p o) h nx =
 uJ e none (some g) λv1=>C.fn 209 (.of 209) [v1] h nx λv2 h3 n4=>K (zu.fr a b c d e f g v2 (I 1) s i l p o) h3 n4:=by kernel_rfl
theorem zu.rX:IR.run zu.t19 C N O K (zu.fr a b c d e f g j q s i l p o) h nx =
 kQ e λv1=>ze .lss .int g v1 λv2=>K (zu.fr a b c d e f g j q s i l v2 o) h nx:=by kernel_rfl
theorem zu.aD:IR.run zu.t20 C N O K (zu.fr a b c d e f g j q s i l p o) h nx =
 ze .add .int g (I 1) λv1=>uJ e (some v1) none λv2=>C.fn 209 (.of 209) [v2] h nx λv3 h4 n5=>K (zu.fr a b c d e f g j v3 s i l p o) h4 n5:=by kernel_rfl
theorem zu.v12:Arg.ev (.t (.of 12)) ⟨(zu.fr a b c d e f g j q s i l p o),[]⟩=p:=by kernel_rfl
theorem zu.zne:IR.run zu.t23 C N O K (zu.fr a b c d e f g j q s i l p o) h nx =
 K (zu.fr a b c d e f g j q s i l p f) h nx:=by kernel_rfl
theorem zu.eY:IR.run zu.t24 C N O K (zu.fr a b c d e f g j q s i l p o) h nx =
 ze .sub .int (I 0) j λv1=>K (zu.fr a b c d e f g v1 q s i l p o) h nx:=by kernel_rfl
theorem zu.v13:Arg.ev (.t (.of 13)) ⟨(zu.fr a b c d e f g j q s i l p o),[]⟩=o:=by kernel_rfl
theorem zu.zjx:IR.run zu.t27 C N O K (zu.fr a b c d e f g j q s i l p o) h nx =
 K (zu.fr a j q (.bool true) e f g j q s i l p o) h nx:=by kernel_rfl
theorem zu.go:zS tbl N C (.of 127) [a0] h nx K0=IR.run zu.t38 C N (fnO zu.res K0) (zo zu.res K0) (zu.fr a0 .u .u .u .u .u .u .u .u .u .u .u .u .u) h nx:=yE (F:=zu) (by kernel_rfl) (λ_=>by kernel_rfl) (by kernel_rfl)
theorem zu.ret:zo zu.res K0 (zu.fr a b c d e f g j q s i l p o) h nx=K0 (.tup [b,c,d]) h nx:=by kernel_rfl
theorem yg.zy:IR.run yg.t0 C N O K (yg.fr a b c d e f g j q) h nx =
 K (yg.fr a b (.str []) d e f g j q) h nx:=by kernel_rfl
theorem yg.zx:IR.run yg.t1 C N O K tm h nx=yG yg.tX C ⟨tm,[]⟩ h nx (λtm h nx=>K tm.v h nx):=gD ..
theorem yg.tY:yG (yg.tF r) C ⟨(yg.fr a b c d e f g j q),[]⟩ h nx Kt =
 ze .lss .int a (I (-4000000000000000000)) λv1=>sG v1 false (λk=>k a) λv2=>sG v1 false (λk=>ze .gtr .int v2 (I 4000000000000000000) k) λv3=>yS v1 (.bool true) v3 λv4=>sG v4 false (λk=>k b) λv5=>yG r C ⟨(yg.fr a b c d e f g j q),v5::v4::v4::v3::v2::v1::v1::a::[]⟩ h nx Kt:=by kernel_rfl
theorem yg.tK:yG (yg.tH []) C ⟨(yg.fr a b c d e f g j q),s0::s1::sT⟩ h nx Kt =
 sG s1 false (λk=>ze .lss .int s0 (I (-4000000000000000000)) k) λv1=>yS s1 (.bool true) v1 λv2=>sG v2 false (λk=>k b) λv3=>sG v2 false (λk=>ze .gtr .int v3 (I 4000000000000000000) k) λv4=>yS v2 (.bool true) v4 λv5=>Kt ⟨(yg.fr a b c d e v5 g j q),v4::v3::v2::v2::v1::s0::s1::sT⟩ h nx:=by kernel_rfl
theorem yg.v5:Arg.ev (.t (.of 5)) ⟨(yg.fr a b c d e f g j q),[]⟩=f:=by kernel_rfl
theorem yg.qg:IR.run yg.t6 C N O K (yg.fr a b c d e f g j q) h nx =
 ze .lss .int b (I 0) λv1=>K (yg.fr a b c d e f v1 j q) h nx:=by kernel_rfl
theorem yg.v6:Arg.ev (.t (.of 6)) ⟨(yg.fr a b c d e f g j q),[]⟩=g:=by kernel_rfl
theorem yg.sV:IR.run yg.t10 C N O K (yg.fr a b c d e f g j q) h nx =
 ze .sub .int (I 0) a λv1=>sMin true a [v1] λv2=>C.fn 210 (.of 210) [v2,b] h nx λv3 h4 n5=>K (yg.fr a b c v3 e f g j q) h4 n5:=by kernel_rfl
theorem yg.pu:IR.run yg.t11 C N O K (yg.fr a b c d e f g j q) h nx =
 ze .quo .int a d λv1=>ze .quo .int b d λv2=>K (yg.fr v1 v2 c d e f g j q) h nx:=by kernel_rfl
theorem yg.ni:IR.run yg.t12 C N O K (yg.fr a b c d e f g j q) h nx =
 K (yg.fr a b c d (.str []) f g j q) h nx:=by kernel_rfl
theorem yg.rM:IR.run yg.t13 C N O K (yg.fr a b c d e f g j q) h nx =
 ze .lss .int a (I 0) λv1=>K (yg.fr a b c d e f g v1 q) h nx:=by kernel_rfl
theorem yg.fT:IR.run yg.t14 C N O K (yg.fr a b c d e f g j q) h nx =
 K (yg.fr a b c d (.str [45]) f g j q) h nx:=by kernel_rfl
theorem yg.v7:Arg.ev (.t (.of 7)) ⟨(yg.fr a b c d e f g j q),[]⟩=j:=by kernel_rfl
theorem yg.sW:IR.run yg.t17 C N O K (yg.fr a b c d e f g j q) h nx =
 ze .sub .int (I 0) a λv1=>sMin true a [v1] λv2=>C.fn 211 (.of 211) [v2,(I 1)] h nx λv3 h4 n5=>ze .add .str e v3 λv6=>K (yg.fr a b c d v6 f g j q) h4 n5:=by kernel_rfl
theorem yg.zfm:IR.run yg.t18 C N O K (yg.fr a b c d e f g j q) h nx =
 ze .gtr .int b (I 1) λv1=>K (yg.fr a b c d e f g j v1) h nx:=by kernel_rfl
theorem yg.rX:IR.run yg.t19 C N O K (yg.fr a b c d e f g j q) h nx =
 ze .add .str e (.str [47]) λv1=>C.fn 211 (.of 211) [b,(I 1)] h nx λv2 h3 n4=>ze .add .str v1 v2 λv5=>K (yg.fr a b c d v5 f g j q) h3 n4:=by kernel_rfl
theorem yg.v8:Arg.ev (.t (.of 8)) ⟨(yg.fr a b c d e f g j q),[]⟩=q:=by kernel_rfl
theorem yg.aQ:IR.run yg.t22 C N O K (yg.fr a b c d e f g j q) h nx =
 K (yg.fr a b e d e f g j q) h nx:=by kernel_rfl
theorem yg.go:zS tbl N C (.of 128) [a0,a1] h nx K0=IR.run yg.t32 C N (fnO yg.res K0) (zo yg.res K0) (yg.fr a0 a1 .u .u .u .u .u .u .u) h nx:=yE (F:=yg) (by kernel_rfl) (λ_=>by kernel_rfl) (by kernel_rfl)
theorem yg.ret:zo yg.res K0 (yg.fr a b c d e f g j q) h nx=K0 c h nx:=by kernel_rfl
theorem di.zy:IR.run di.t0 C N O K (di.fr a b c d) h nx =
 wz a h nx λv1 h2 n3=>yN [(I 0),.za] h2 n3 λv4 h5 n6=>K (di.fr a v1 v4 d) h5 n6:=by kernel_rfl
theorem di.zx:IR.run di.t1 C N O K (di.fr a b c d) h nx =
 zK 0 b λv1=>zI v1 h λv2=>ze .lss .int v2 (I 0) λv3=>K (di.fr a b c v3) h nx:=by kernel_rfl
theorem di.jb:IR.run di.t2 C N O K (di.fr a b c d) h nx =
 zF 2 b h λv1=>C.fn 193 (.of 193) [v1] h nx λv2 h3 n4=>zX 2 c v2 h3 n4 λv5 h6 n7=>K (di.fr a b c d) h6 n7:=by kernel_rfl
theorem di.v3:Arg.ev (.t (.of 3)) ⟨(di.fr a b c d),[]⟩=d:=by kernel_rfl
theorem di.qg:IR.run di.t6 C N O K (di.fr a b c d) h nx =
 zF 2 b h λv1=>zX 2 c v1 h nx λv2 h3 n4=>K (di.fr a b c d) h3 n4:=by kernel_rfl
theorem di.go:zS tbl N C (.of 299) [a0] h nx K0=IR.run di.t9 C N (fnO di.res K0) (zo di.res K0) (di.fr a0 .u .u .u) h nx:=yE (F:=di) (by kernel_rfl) (λ_=>by kernel_rfl) (by kernel_rfl)
theorem di.ret:zo di.res K0 (di.fr a b c d) h nx=zF 2 c h λv1=>K0 v1 h nx:=by kernel_rfl
theorem uo.zy:IR.run uo.t0 C N O K (uo.fr a b c d e f g) h nx =
 wz a h nx λv1 h2 n3=>wz b h2 n3 λv4 h5 n6=>yN [(I 0),.za] h5 n6 λv7 h8 n9=>K (uo.fr a b v1 v4 v7 f g) h8 n9:=by kernel_rfl
theorem uo.zx:IR.run uo.t1 C N O K (uo.fr a b c d e f g) h nx =
 zF 2 c h λv1=>zF 2 d h λv2=>C.fn 299 (.of 299) [v1] h nx λv3 h4 n5=>(zF 2 d h4 λvE=>zQ vE v2 (C.fn 299 (.of 299) [v2] h4 n5 λv6 h7 n8=>zX 2 c v3 h7 n8 λv9 hC nD=>zX 2 d v6 hC nD λvG hD nE=>K (uo.fr a b c d e f g) hD nE)):=by kernel_rfl
theorem uo.jb:IR.run uo.t2 C N O K (uo.fr a b c d e f g) h nx =
 zF 2 d h λv1=>C.fn 194 (.of 194) [v1] h nx λv2 h3 n4=>ze .neq .int v2 (I 0) λv5=>K (uo.fr a b c d e f v5) h3 n4:=by kernel_rfl
theorem uo.v6:Arg.ev (.t (.of 6)) ⟨(uo.fr a b c d e f g),[]⟩=g:=by kernel_rfl
theorem uo.rE:IR.run uo.t5 C N O K (uo.fr a b c d e f g) h nx =
 zF 2 c h λv1=>zF 2 d h λv2=>C.fn 201 (.of 201) [v1,v2] h nx λv3 h4 n5=>mg 0 v3 λv6=>mg 1 v3 λv7=>yN [(I 0),.za] h4 n5 λv8 h9 nA=>yN [(I 0),.za] h9 nA λvC hA nB=>zX 2 v8 v6 hA nB λvD hE nF=>zX 2 vC v7 hE nF λvA hF nG=>K (uo.fr a b c d e vC g) hF nG:=by kernel_rfl
theorem uo.qg:IR.run uo.t6 C N O K (uo.fr a b c d e f g) h nx =
 zF 2 d h λv1=>zF 2 f h λv2=>zX 2 c v1 h nx λv3 h4 n5=>(zF 2 f h4 λv9=>zQ v9 v2 (zX 2 d v2 h4 n5 λv6 h7 n8=>K (uo.fr a b c d e f g) h7 n8)):=by kernel_rfl
theorem uo.znd (Inv:Nat->T Blk->Pa->Prop) {m:Nat} (hm:m<N) (hi:Inv m h nx)
  (step:∀ (m:Nat) (z5 z6:AV) (h:T Blk) (nx:Pa) (R:Ks Prop),Inv m h nx->(∀ (m':Nat) (w5 w6:AV) (h':T Blk) (nx':Pa),m'<m->Inv m' h' nx'->R (uo.fr a b c d e w5 w6) h' nx'=.ok True)->IR.run uo.t9 C N O R (uo.fr a b c d e z5 z6) h nx=.ok True) :
  IR.run uo.t10 C N O K (uo.fr a b c d e f g) h nx=.ok True:=by
 rw [uo.t10];refine yB (λm tm h nx=>∃ z5 z6,tm=(uo.fr a b c d e z5 z6)/\Inv m h nx) ?_ hm ⟨_,_,rfl,hi⟩;rintro m tm h nx R ⟨z5,z6,rfl,hi⟩ hR;exact step m z5 z6 h nx R hi λm' w5 w6 h' nx' hlt hi'=>hR m' _ h' nx' hlt ⟨_,_,rfl,hi'⟩
theorem uo.ni:IR.run uo.t12 C N O K (uo.fr a b c d e f g) h nx =
 zF 2 c h λv1=>zX 2 e v1 h nx λv2 h3 n4=>K (uo.fr a b c d e f g) h3 n4:=by kernel_rfl
theorem uo.go:zS tbl N C (.of 258) [a0,a1] h nx K0=IR.run uo.t16 C N (fnO uo.res K0) (zo uo.res K0) (uo.fr a0 a1 .u .u .u .u .u) h nx:=yE (F:=uo) (by kernel_rfl) (λ_=>by kernel_rfl) (by kernel_rfl)
theorem uo.ret:zo uo.res K0 (uo.fr a b c d e f g) h nx=zF 2 e h λv1=>K0 v1 h nx:=by kernel_rfl
theorem vw.zy:IR.run vw.t0 C N O K (vw.fr a b c) h nx =
 wz a h nx λv1 h2 n3=>K (vw.fr a v1 (.bool false)) h2 n3:=by kernel_rfl
theorem vw.zx:IR.run vw.t1 C N O K tm h nx=yG vw.tX C ⟨tm,[]⟩ h nx (λtm h nx=>K tm.v h nx):=gD ..
theorem vw.tY:yG (vw.tF r) C ⟨(vw.fr a b c),[]⟩ h nx Kt =
 zK 2 b λv1=>zK 1 v1 λv2=>zI v2 h λv3=>ze .eql (.nil .sl) v3 .za λv4=>sG v4 true (λk=>zK 2 b k) λv5=>sG v4 true (λk=>zK 0 v5 k) λv6=>sG v4 true (λk=>zI v6 h k) λv7=>yG r C ⟨(vw.fr a b c),v7::v6::v5::v4::v4::v3::v2::v1::[]⟩ h nx Kt:=by kernel_rfl
theorem vw.tK:yG (vw.tH []) C ⟨(vw.fr a b c),s0::s1::s2::s3::sT⟩ h nx Kt =
 sG s3 true (λk=>ze .eql .int s0 (I 1) k) λv1=>yS s3 v1 (.bool false) λv2=>Kt ⟨(vw.fr a b v2),v2::v1::s0::s1::s2::s3::sT⟩ h nx:=by kernel_rfl
theorem vw.go:zS tbl N C (.of 122) [a0] h nx K0=IR.run vw.t3 C N (fnO vw.res K0) (zo vw.res K0) (vw.fr a0 .u .u) h nx:=yE (F:=vw) (by kernel_rfl) (λ_=>by kernel_rfl) (by kernel_rfl)
theorem vw.ret:zo vw.res K0 (vw.fr a b c) h nx=K0 c h nx:=by kernel_rfl
theorem fM.zy:IR.run fM.t0 C N O K (fM.fr a b c) h nx =
 wz a h nx λv1 h2 n3=>yN [(I 0),.za,(I 0),.za] h2 n3 λv4 h5 n6=>K (fM.fr a v1 v4) h5 n6:=by kernel_rfl
theorem fM.zx:IR.run fM.t1 C N O K (fM.fr a b c) h nx =
 zF 2 b h λv1=>C.fn 187 (.of 187) [(I 1)] h nx λv2 h3 n4=>(zF 2 b h3 λv9=>zQ v9 v1 (gU [(I 0),.za,(I 0),.za] [(0,2,v1),(2,2,v2)] λv5=>zX 4 c v5 h3 n4 λv6 h7 n8=>K (fM.fr a b c) h7 n8)):=by kernel_rfl
theorem fM.go:zS tbl N C (.of 186) [a0] h nx K0=IR.run fM.t3 C N (fnO fM.res K0) (zo fM.res K0) (fM.fr a0 .u .u) h nx:=yE (F:=fM) (by kernel_rfl) (λ_=>by kernel_rfl) (by kernel_rfl)
theorem fM.ret:zo fM.res K0 (fM.fr a b c) h nx=zF 4 c h λv1=>K0 v1 h nx:=by kernel_rfl
theorem F96.zy:IR.run F96.t0 C N O K (F96.fr a b) h nx =
 yN [(I 0),.za,(I 0),.za] h nx λv1 h2 n3=>K (F96.fr a v1) h2 n3:=by kernel_rfl
theorem F96.zx:IR.run F96.t1 C N O K (F96.fr a b) h nx =
 C.fn 187 (.of 187) [a] h nx λv1 h2 n3=>C.fn 186 (.of 186) [v1] h2 n3 λv4 h5 n6=>zX 4 b v4 h5 n6 λv7 h8 n9=>K (F96.fr a b) h8 n9:=by kernel_rfl
theorem F96.go:zS tbl N C (.of 96) [a0] h nx K0=IR.run F96.t3 C N (fnO F96.res K0) (zo F96.res K0) (F96.fr a0 .u) h nx:=yE (F:=F96) (by kernel_rfl) (λ_=>by kernel_rfl) (by kernel_rfl)
theorem F96.ret:zo F96.res K0 (F96.fr a b) h nx=zF 4 b h λv1=>K0 v1 h nx:=by kernel_rfl
theorem jr.zy:IR.run jr.t0 C N O K (jr.fr a b c d e f g j) h nx =
 wz a h nx λv1 h2 n3=>wz b h2 n3 λv4 h5 n6=>yN [(I 0),.za,(I 0),.za] h5 n6 λv7 h8 n9=>K (jr.fr a b v1 v4 v7 f g j) h8 n9:=by kernel_rfl
theorem jr.zx:IR.run jr.t1 C N O K (jr.fr a b c d e f g j) h nx =
 zF 2 d h λv1=>C.fn 194 (.of 194) [v1] h nx λv2 h3 n4=>ze .lss .int v2 (I 0) λv5=>K (jr.fr a b c d e f v5 j) h3 n4:=by kernel_rfl
theorem jr.jb:IR.run jr.t2 C N O K (jr.fr a b c d e f g j) h nx =
 zF 2 c h λv1=>zF 2 d h λv2=>C.fn 193 (.of 193) [v1] h nx λv3 h4 n5=>(zF 2 d h4 λvE=>zQ vE v2 (C.fn 193 (.of 193) [v2] h4 n5 λv6 h7 n8=>zX 2 c v3 h7 n8 λv9 hC nD=>zX 2 d v6 hC nD λvG hD nE=>K (jr.fr a b c d e f g j) hD nE)):=by kernel_rfl
theorem jr.v6:Arg.ev (.t (.of 6)) ⟨(jr.fr a b c d e f g j),[]⟩=g:=by kernel_rfl
theorem jr.rE:IR.run jr.t5 C N O K (jr.fr a b c d e f g j) h nx =
 zK 1 d λv1=>zI v1 h λv2=>ze .eql (.nil .sl) v2 .za λv3=>sG v3 true (λk=>zK 0 d k) λv4=>sG v3 true (λk=>zI v4 h k) λv5=>sG v3 true (λk=>ze .eql .int v5 (I 1) k) λv6=>yS v3 v6 (.bool false) λv7=>K (jr.fr a b c d e f g v7) h nx:=by kernel_rfl
theorem jr.qg:IR.run jr.t6 C N O K (jr.fr a b c d e f g j) h nx =
 zF 2 c h λv1=>zF 2 d h λv2=>gU [(I 0),.za,(I 0),.za] [(0,2,v1),(2,2,v2)] λv3=>zX 4 e v3 h nx λv4 h5 n6=>K (jr.fr a b c d e f g j) h5 n6:=by kernel_rfl
theorem jr.v7:Arg.ev (.t (.of 7)) ⟨(jr.fr a b c d e f g j),[]⟩=j:=by kernel_rfl
theorem jr.sV:IR.run jr.t10 C N O K (jr.fr a b c d e f g j) h nx =
 zF 2 c h λv1=>zF 2 d h λv2=>C.fn 258 (.of 258) [v1,v2] h nx λv3 h4 n5=>yN [(I 0),.za] h4 n5 λv6 h7 n8=>zX 2 v6 v3 h7 n8 λv9 hC nD=>K (jr.fr a b c d e v6 g j) hC nD:=by kernel_rfl
theorem jr.pu:IR.run jr.t11 C N O K (jr.fr a b c d e f g j) h nx =
 zF 2 c h λv1=>zF 2 f h λv2=>zF 2 d h λv3=>zF 2 f h λv4=>C.fn 259 (.of 259) [v1,v2] h nx λv5 h6 n7=>(zF 2 f h6 λvB=>zQ vB v4 ((zF 2 d h6 λvE=>zQ vE v3 (C.fn 259 (.of 259) [v3,v4] h6 n7 λv8 h9 nA=>gU [(I 0),.za,(I 0),.za] [(0,2,v5),(2,2,v8)] λvC=>zX 4 e vC h9 nA λvG hD nE=>K (jr.fr a b c d e f g j) hD nE)))):=by kernel_rfl
theorem jr.go:zS tbl N C (.of 195) [a0,a1] h nx K0=IR.run jr.t16 C N (fnO jr.res K0) (zo jr.res K0) (jr.fr a0 a1 .u .u .u .u .u .u) h nx:=yE (F:=jr) (by kernel_rfl) (λ_=>by kernel_rfl) (by kernel_rfl)
theorem jr.ret:zo jr.res K0 (jr.fr a b c d e f g j) h nx=zF 4 e h λv1=>K0 v1 h nx:=by kernel_rfl
theorem nu.zy:IR.run nu.t0 C N O K (nu.fr a b c) h nx =
 wz a h nx λv1 h2 n3=>K (nu.fr a v1 (I 0)) h2 n3:=by kernel_rfl
theorem nu.zx:IR.run nu.t1 C N O K (nu.fr a b c) h nx =
 zK 0 b λv1=>zF 2 v1 h λv2=>C.fn 194 (.of 194) [v2] h nx λv3 h4 n5=>K (nu.fr a b v3) h4 n5:=by kernel_rfl
theorem nu.go:zS tbl N C (.of 110) [a0] h nx K0=IR.run nu.t3 C N (fnO nu.res K0) (zo nu.res K0) (nu.fr a0 .u .u) h nx:=yE (F:=nu) (by kernel_rfl) (λ_=>by kernel_rfl) (by kernel_rfl)
theorem nu.ret:zo nu.res K0 (nu.fr a b c) h nx=K0 c h nx:=by kernel_rfl
theorem ny.zy:IR.run ny.t0 C N O K (ny.fr a b c) h nx =
 wz a h nx λv1 h2 n3=>yN [(I 0),.za,(I 0),.za] h2 n3 λv4 h5 n6=>K (ny.fr a v1 v4) h5 n6:=by kernel_rfl
theorem ny.zx:IR.run ny.t1 C N O K (ny.fr a b c) h nx =
 zK 0 b λv1=>zF 2 v1 h λv2=>zK 2 b λv3=>zF 2 v3 h λv4=>C.fn 193 (.of 193) [v2] h nx λv5 h6 n7=>(zF 2 v3 h6 λvH=>zQ vH v4 ((zK 2 b λvG=>zQ vG v3 (gU [(I 0),.za,(I 0),.za] [(0,2,v5),(2,2,v4)] λv8=>zX 4 c v8 h6 n7 λv9 hC nD=>K (ny.fr a b c) hC nD)))):=by kernel_rfl
theorem ny.go:zS tbl N C (.of 107) [a0] h nx K0=IR.run ny.t3 C N (fnO ny.res K0) (zo ny.res K0) (ny.fr a0 .u .u) h nx:=yE (F:=ny) (by kernel_rfl) (λ_=>by kernel_rfl) (by kernel_rfl)
theorem ny.ret:zo ny.res K0 (ny.fr a b c) h nx=zF 4 c h λv1=>K0 v1 h nx:=by kernel_rfl
theorem nP.zy:IR.run nP.t0 C N O K (nP.fr a b c) h nx =
 wz a h nx λv1 h2 n3=>yN [(I 0),.za,(I 0),.za] h2 n3 λv4 h5 n6=>K (nP.fr a v1 v4) h5 n6:=by kernel_rfl
theorem nP.zx:IR.run nP.t1 C N O K (nP.fr a b c) h nx =
 zK 2 b λv1=>zF 2 v1 h λv2=>zK 0 b λv3=>zF 2 v3 h λv4=>C.fn 195 (.of 195) [v2,v4] h nx λv5 h6 n7=>zX 4 c v5 h6 n7 λv8 h9 nA=>K (nP.fr a b c) h9 nA:=by kernel_rfl
theorem nP.go:zS tbl N C (.of 112) [a0] h nx K0=IR.run nP.t3 C N (fnO nP.res K0) (zo nP.res K0) (nP.fr a0 .u .u) h nx:=yE (F:=nP) (by kernel_rfl) (λ_=>by kernel_rfl) (by kernel_rfl)
theorem nP.ret:zo nP.res K0 (nP.fr a b c) h nx=zF 4 c h λv1=>K0 v1 h nx:=by kernel_rfl
theorem nQ.zy:IR.run nQ.t0 C N O K (nQ.fr a b c d e) h nx =
 wz a h nx λv1 h2 n3=>wz b h2 n3 λv4 h5 n6=>yN [(I 0),.za,(I 0),.za] h5 n6 λv7 h8 n9=>K (nQ.fr a b v1 v4 v7) h8 n9:=by kernel_rfl
theorem nQ.zx:IR.run nQ.t1 C N O K (nQ.fr a b c d e) h nx =
 zK 0 c λv1=>zF 2 v1 h λv2=>zK 0 d λv3=>zF 2 v3 h λv4=>zK 2 c λv5=>zF 2 v5 h λv6=>zK 2 d λv7=>zF 2 v7 h λv8=>C.fn 198 (.of 198) [v2,v4] h nx λv9 hC nD=>(zF 2 v7 hC λvI=>zQ vI v8 ((zK 2 d λvJ=>zQ vJ v7 ((zF 2 v5 hC λvK=>zQ vK v6 ((zK 2 c λvL=>zQ vL v5 (C.fn 198 (.of 198) [v6,v8] hC nD λvG hD nE=>C.fn 195 (.of 195) [v9,vG] hD nE λvE hH nI=>zX 4 e vE hH nI λvM hI nJ=>K (nQ.fr a b c d e) hI nJ)))))))):=by kernel_rfl
theorem nQ.go:zS tbl N C (.of 119) [a0,a1] h nx K0=IR.run nQ.t3 C N (fnO nQ.res K0) (zo nQ.res K0) (nQ.fr a0 a1 .u .u .u) h nx:=yE (F:=nQ) (by kernel_rfl) (λ_=>by kernel_rfl) (by kernel_rfl)
theorem nQ.ret:zo nQ.res K0 (nQ.fr a b c d e) h nx=zF 4 e h λv1=>K0 v1 h nx:=by kernel_rfl
theorem wu.zy:IR.run wu.t0 C N O K (wu.fr a b c d e f) h nx =
 wz a h nx λv1 h2 n3=>wz b h2 n3 λv4 h5 n6=>yN [(I 0),.za,(I 0),.za] h5 n6 λv7 h8 n9=>K (wu.fr a b v1 v4 v7 f) h8 n9:=by kernel_rfl
theorem wu.zx:IR.run wu.t1 C N O K (wu.fr a b c d e f) h nx =
 zF 4 c h λv1=>C.fn 122 (.of 122) [v1] h nx λv2 h3 n4=>sG v2 true (λk=>zF 4 d h3 k) λv5=>sGW v2 true (λk=>C.fn 122 (.of 122) [v5] h3 n4 k) h3 n4 λv6 h7 n8=>yS v2 v6 (.bool false) λv9=>K (wu.fr a b c d e v9) h7 n8:=by kernel_rfl
theorem wu.jb:IR.run wu.t2 C N O K (wu.fr a b c d e f) h nx =
 zK 0 c λv1=>zF 2 v1 h λv2=>zK 0 d λv3=>zF 2 v3 h λv4=>C.fn 197 (.of 197) [v2,v4] h nx λv5 h6 n7=>C.fn 186 (.of 186) [v5] h6 n7 λv8 h9 nA=>zX 4 e v8 h9 nA λvC hA nB=>K (wu.fr a b c d e f) hA nB:=by kernel_rfl
theorem wu.v5:Arg.ev (.t (.of 5)) ⟨(wu.fr a b c d e f),[]⟩=f:=by kernel_rfl
theorem wu.qg:IR.run wu.t6 C N O K (wu.fr a b c d e f) h nx =
 zK 0 c λv1=>zF 2 v1 h λv2=>zK 2 d λv3=>zF 2 v3 h λv4=>zK 0 d λv5=>zF 2 v5 h λv6=>zK 2 c λv7=>zF 2 v7 h λv8=>zK 2 c λv9=>zF 2 v9 h λvF=>zK 2 d λvC=>zF 2 vC h λvG=>C.fn 198 (.of 198) [v2,v4] h nx λvH hG nH=>(zF 2 vC hG λvN=>zQ vN vG ((zK 2 d λvO=>zQ vO vC ((zF 2 v9 hG λvP=>zQ vP vF ((zK 2 c λvQ=>zQ vQ v9 ((zF 2 v7 hG λvR=>zQ vR v8 ((zK 2 c λvS=>zQ vS v7 ((zF 2 v5 hG λvT=>zQ vT v6 ((zK 0 d λvU=>zQ vU v5 (C.fn 198 (.of 198) [v6,v8] hG nH λvB hJ nK=>(zF 2 vC hJ λvV=>zQ vV vG ((zK 2 d λvW=>zQ vW vC ((zF 2 v9 hJ λvX=>zQ vX vF ((zK 2 c λvY=>zQ vY v9 (C.fn 197 (.of 197) [vH,vB] hJ nK λvZ hK nL=>(zF 2 vC hK λv34=>zQ v34 vG ((zK 2 d λv33=>zQ v33 vC ((zF 2 v9 hK λv32=>zQ v32 vF ((zK 2 c λv31=>zQ v31 v9 (C.fn 198 (.of 198) [vF,vG] hK nL λvK hL nM=>C.fn 195 (.of 195) [vZ,vK] hL nM λv25 hM nN=>zX 4 e v25 hM nN λv28 hN nO=>K (wu.fr a b c d e f) hN nO)))))))))))))))))))))))))))))))):=by kernel_rfl
theorem wu.go:zS tbl N C (.of 114) [a0,a1] h nx K0=IR.run wu.t9 C N (fnO wu.res K0) (zo wu.res K0) (wu.fr a0 a1 .u .u .u .u) h nx:=yE (F:=wu) (by kernel_rfl) (λ_=>by kernel_rfl) (by kernel_rfl)
theorem wu.ret:zo wu.res K0 (wu.fr a b c d e f) h nx=zF 4 e h λv1=>K0 v1 h nx:=by kernel_rfl
theorem nR.zy:IR.run nR.t0 C N O K (nR.fr a b c d e) h nx =
 wz a h nx λv1 h2 n3=>wz b h2 n3 λv4 h5 n6=>yN [(I 0),.za,(I 0),.za] h5 n6 λv7 h8 n9=>K (nR.fr a b v1 v4 v7) h8 n9:=by kernel_rfl
theorem nR.zx:IR.run nR.t1 C N O K (nR.fr a b c d e) h nx =
 zF 4 c h λv1=>zF 4 d h λv2=>C.fn 107 (.of 107) [v2] h nx λv3 h4 n5=>(zF 4 c h4 λvG=>zQ vG v1 (C.fn 114 (.of 114) [v1,v3] h4 n5 λv6 h7 n8=>zX 4 e v6 h7 n8 λv9 hC nD=>K (nR.fr a b c d e) hC nD)):=by kernel_rfl
theorem nR.go:zS tbl N C (.of 192) [a0,a1] h nx K0=IR.run nR.t3 C N (fnO nR.res K0) (zo nR.res K0) (nR.fr a0 a1 .u .u .u) h nx:=yE (F:=nR) (by kernel_rfl) (λ_=>by kernel_rfl) (by kernel_rfl)
theorem nR.ret:zo nR.res K0 (nR.fr a b c d e) h nx=zF 4 e h λv1=>K0 v1 h nx:=by kernel_rfl
theorem nS.zy:IR.run nS.t0 C N O K (nS.fr a b c d e) h nx =
 wz a h nx λv1 h2 n3=>wz b h2 n3 λv4 h5 n6=>yN [(I 0),.za,(I 0),.za] h5 n6 λv7 h8 n9=>K (nS.fr a b v1 v4 v7) h8 n9:=by kernel_rfl
theorem nS.zx:IR.run nS.t1 C N O K (nS.fr a b c d e) h nx =
 zF 4 c h λv1=>zF 4 d h λv2=>C.fn 112 (.of 112) [v2] h nx λv3 h4 n5=>(zF 4 c h4 λvG=>zQ vG v1 (C.fn 119 (.of 119) [v1,v3] h4 n5 λv6 h7 n8=>zX 4 e v6 h7 n8 λv9 hC nD=>K (nS.fr a b c d e) hC nD)):=by kernel_rfl
theorem nS.go:zS tbl N C (.of 115) [a0,a1] h nx K0=IR.run nS.t3 C N (fnO nS.res K0) (zo nS.res K0) (nS.fr a0 a1 .u .u .u) h nx:=yE (F:=nS) (by kernel_rfl) (λ_=>by kernel_rfl) (by kernel_rfl)
theorem nS.ret:zo nS.res K0 (nS.fr a b c d e) h nx=zF 4 e h λv1=>K0 v1 h nx:=by kernel_rfl
theorem nT.zy:IR.run nT.t0 C N O K (nT.fr a b c d e) h nx =
 wz a h nx λv1 h2 n3=>wz b h2 n3 λv4 h5 n6=>K (nT.fr a b v1 v4 (I 0)) h5 n6:=by kernel_rfl
theorem nT.zx:IR.run nT.t1 C N O K (nT.fr a b c d e) h nx =
 zK 0 c λv1=>zF 2 v1 h λv2=>zK 2 d λv3=>zF 2 v3 h λv4=>zK 0 d λv5=>zF 2 v5 h λv6=>zK 2 c λv7=>zF 2 v7 h λv8=>C.fn 198 (.of 198) [v2,v4] h nx λv9 hC nD=>(zF 2 v7 hC λvL=>zQ vL v8 ((zK 2 c λv20=>zQ v20 v7 ((zF 2 v5 hC λvZ=>zQ vZ v6 ((zK 0 d λvM=>zQ vM v5 (C.fn 198 (.of 198) [v6,v8] hC nD λvG hD nE=>C.fn 229 (.of 229) [v9,vG] hD nE λvE hH nI=>K (nT.fr a b c d vE) hH nI)))))))):=by kernel_rfl
theorem nT.go:zS tbl N C (.of 200) [a0,a1] h nx K0=IR.run nT.t3 C N (fnO nT.res K0) (zo nT.res K0) (nT.fr a0 a1 .u .u .u) h nx:=yE (F:=nT) (by kernel_rfl) (λ_=>by kernel_rfl) (by kernel_rfl)
theorem nT.ret:zo nT.res K0 (nT.fr a b c d e) h nx=K0 e h nx:=by kernel_rfl
theorem nU.zy:IR.run nU.t0 C N O K (nU.fr a b c d e) h nx =
 wz a h nx λv1 h2 n3=>wz b h2 n3 λv4 h5 n6=>K (nU.fr a b v1 v4 (.bool false)) h5 n6:=by kernel_rfl
theorem nU.zx:IR.run nU.t1 C N O K (nU.fr a b c d e) h nx =
 zF 4 c h λv1=>zF 4 d h λv2=>C.fn 200 (.of 200) [v1,v2] h nx λv3 h4 n5=>ze .eql .int v3 (I 0) λv6=>K (nU.fr a b c d v6) h4 n5:=by kernel_rfl
theorem nU.go:zS tbl N C (.of 118) [a0,a1] h nx K0=IR.run nU.t3 C N (fnO nU.res K0) (zo nU.res K0) (nU.fr a0 a1 .u .u .u) h nx:=yE (F:=nU) (by kernel_rfl) (λ_=>by kernel_rfl) (by kernel_rfl)
theorem nU.ret:zo nU.res K0 (nU.fr a b c d e) h nx=K0 e h nx:=by kernel_rfl
theorem fF.zy:IR.run fF.t0 C N O K (fF.fr a b c d) h nx =
 wz a h nx λv1 h2 n3=>yN [(I 0),.za] h2 n3 λv4 h5 n6=>K (fF.fr a v1 v4 d) h5 n6:=by kernel_rfl
theorem fF.zx:IR.run fF.t1 C N O K (fF.fr a b c d) h nx =
 zK 0 b λv1=>zF 2 v1 h λv2=>zK 2 b λv3=>zF 2 v3 h λv4=>C.fn 201 (.of 201) [v2,v4] h nx λv5 h6 n7=>mg 0 v5 λv8=>mg 1 v5 λv9=>yN [(I 0),.za] h6 n7 λvF hB nC=>yN [(I 0),.za] hB nC λvH hG nH=>zX 2 vF v8 hG nH λvB hJ nK=>zX 2 vH v9 hJ nK λvZ hK nL=>K (fF.fr a b c vF) hK nL:=by kernel_rfl
theorem fF.jb:IR.run fF.t2 C N O K (fF.fr a b c d) h nx =
 zF 2 d h λv1=>zX 2 c v1 h nx λv2 h3 n4=>K (fF.fr a b c d) h3 n4:=by kernel_rfl
theorem fF.go:zS tbl N C (.of 120) [a0] h nx K0=IR.run fF.t5 C N (fnO fF.res K0) (zo fF.res K0) (fF.fr a0 .u .u .u) h nx:=yE (F:=fF) (by kernel_rfl) (λ_=>by kernel_rfl) (by kernel_rfl)
theorem fF.ret:zo fF.res K0 (fF.fr a b c d) h nx=zF 2 c h λv1=>K0 v1 h nx:=by kernel_rfl
theorem F40.zy:IR.run F40.t0 C N O K (F40.fr a b c d e f g j q s i l p o) h nx =
 K (F40.fr a b (.str []) d e f g j q s i l p o) h nx:=by kernel_rfl
theorem F40.zx:IR.run F40.t1 C N O K (F40.fr a b c d e f g j q s i l p o) h nx =
 C.fn 127 (.of 127) [a] h nx λv1 h2 n3=>mg 0 v1 λv4=>mg 1 v1 λv5=>mg 2 v1 λv6=>K (F40.fr a b c v4 v5 v6 g j q s i l p o) h2 n3:=by kernel_rfl
theorem F40.jb:IR.run F40.t2 C N O K (F40.fr a b c d e f g j q s i l p o) h nx =
 C.fn 127 (.of 127) [b] h nx λv1 h2 n3=>mg 0 v1 λv4=>mg 1 v1 λv5=>mg 2 v1 λv6=>K (F40.fr a b c d e f v4 v5 v6 s i l p o) h2 n3:=by kernel_rfl
theorem F40.dw:IR.run F40.t3 C N O K (F40.fr a b c d e f g j q s i l p o) h nx =
 sG f true (λk=>k q) λv1=>yS f v1 (.bool false) λv2=>K (F40.fr a b c d e f g j q s i l p v2) h nx:=by kernel_rfl
theorem F40.rD:IR.run F40.t4 C N O K (F40.fr a b c d e f g j q s i l p o) h nx =
 ze .mul .int d j λv1=>ze .mul .int g e λv2=>ze .add .int v1 v2 λv3=>ze .mul .int e j λv4=>C.fn 128 (.of 128) [v3,v4] h nx λv5 h6 n7=>K (F40.fr a b v5 d e f g j q s i l p o) h6 n7:=by kernel_rfl
theorem F40.v13:Arg.ev (.t (.of 13)) ⟨(F40.fr a b c d e f g j q s i l p o),[]⟩=o:=by kernel_rfl
theorem F40.go:zS tbl N C (.of 40) [a0,a1] h nx K0=IR.run F40.t17 C N (fnO F40.res K0) (zo F40.res K0) (F40.fr a0 a1 .u .u .u .u .u .u .u .u .u .u .u .u) h nx:=yE (F:=F40) (by kernel_rfl) (λ_=>by kernel_rfl) (by kernel_rfl)
theorem F40.ret:zo F40.res K0 (F40.fr a b c d e f g j q s i l p o) h nx=K0 c h nx:=by kernel_rfl
theorem F41.zy:IR.run F41.t0 C N O K (F41.fr a b c d e f g j q s i l p o) h nx =
 K (F41.fr a b (.str []) d e f g j q s i l p o) h nx:=by kernel_rfl
theorem F41.zx:IR.run F41.t1 C N O K (F41.fr a b c d e f g j q s i l p o) h nx =
 C.fn 127 (.of 127) [a] h nx λv1 h2 n3=>mg 0 v1 λv4=>mg 1 v1 λv5=>mg 2 v1 λv6=>K (F41.fr a b c v4 v5 v6 g j q s i l p o) h2 n3:=by kernel_rfl
theorem F41.jb:IR.run F41.t2 C N O K (F41.fr a b c d e f g j q s i l p o) h nx =
 C.fn 127 (.of 127) [b] h nx λv1 h2 n3=>mg 0 v1 λv4=>mg 1 v1 λv5=>mg 2 v1 λv6=>K (F41.fr a b c d e f v4 v5 v6 s i l p o) h2 n3:=by kernel_rfl
theorem F41.dw:IR.run F41.t3 C N O K (F41.fr a b c d e f g j q s i l p o) h nx =
 sG f true (λk=>k q) λv1=>yS f v1 (.bool false) λv2=>K (F41.fr a b c d e f g j q s i l p v2) h nx:=by kernel_rfl
theorem F41.rD:IR.run F41.t4 C N O K (F41.fr a b c d e f g j q s i l p o) h nx =
 ze .mul .int d g λv1=>ze .mul .int e j λv2=>C.fn 128 (.of 128) [v1,v2] h nx λv3 h4 n5=>K (F41.fr a b v3 d e f g j q s i l p o) h4 n5:=by kernel_rfl
theorem F41.v13:Arg.ev (.t (.of 13)) ⟨(F41.fr a b c d e f g j q s i l p o),[]⟩=o:=by kernel_rfl
theorem F41.go:zS tbl N C (.of 41) [a0,a1] h nx K0=IR.run F41.t17 C N (fnO F41.res K0) (zo F41.res K0) (F41.fr a0 a1 .u .u .u .u .u .u .u .u .u .u .u .u) h nx:=yE (F:=F41) (by kernel_rfl) (λ_=>by kernel_rfl) (by kernel_rfl)
theorem F41.ret:zo F41.res K0 (F41.fr a b c d e f g j q s i l p o) h nx=K0 c h nx:=by kernel_rfl
theorem yj.zy:IR.run yj.t0 C N O K (yj.fr a b c d e f g j q s i) h nx =
 wz a h nx λv1 h2 n3=>wz b h2 n3 λv4 h5 n6=>K (yj.fr a b v1 v4 (.str []) f g j q s i) h5 n6:=by kernel_rfl
theorem yj.zx:IR.run yj.t1 C N O K (yj.fr a b c d e f g j q s i) h nx =
 zK 0 d λv1=>zI v1 h λv2=>K (yj.fr a b c d e f g j q v2 i) h nx:=by kernel_rfl
theorem yj.jb:IR.run yj.t2 C N O K (yj.fr a b c d e f g j q s i) h nx =
 zF 2 c h λv1=>zF 2 d h λv2=>C.fn 212 (.of 212) [v1] h nx λv3 h4 n5=>(zF 2 d h4 λvE=>zQ vE v2 (C.fn 212 (.of 212) [v2] h4 n5 λv6 h7 n8=>zX 2 c v3 h7 n8 λv9 hC nD=>zX 2 d v6 hC nD λvG hD nE=>K (yj.fr a b c d e f g j q s i) hD nE)):=by kernel_rfl
theorem yj.v9:Arg.ev (.t (.of 9)) ⟨(yj.fr a b c d e f g j q s i),[]⟩=s:=by kernel_rfl
theorem yj.rE:IR.run yj.t5 C N O K (yj.fr a b c d e f g j q s i) h nx =
 zK 1 c λv1=>zI v1 h λv2=>zK 1 d λv3=>zI v3 h λv4=>C.fn 208 (.of 208) [v2,v4] h nx λv5 h6 n7=>K (yj.fr a b c d e v5 g j q s i) h6 n7:=by kernel_rfl
theorem yj.qg:IR.run yj.t6 C N O K (yj.fr a b c d e f g j q s i) h nx =
 zK 1 c λv1=>zI v1 h λv2=>C.fn 213 (.of 213) [v2,f] h nx λv3 h4 n5=>mg 0 v3 λv6=>mg 1 v3 λv7=>K (yj.fr a b c d e f v6 j q s i) h4 n5:=by kernel_rfl
theorem yj.fU:IR.run yj.t7 C N O K (yj.fr a b c d e f g j q s i) h nx =
 zK 1 d λv1=>zI v1 h λv2=>C.fn 213 (.of 213) [v2,f] h nx λv3 h4 n5=>mg 0 v3 λv6=>mg 1 v3 λv7=>K (yj.fr a b c d e f g v6 q s i) h4 n5:=by kernel_rfl
theorem yj.fE:IR.run yj.t8 C N O K (yj.fr a b c d e f g j q s i) h nx =
 zK 0 c λv1=>zI v1 h λv2=>C.fn 214 (.of 214) [v2,g] h nx λv3 h4 n5=>C.fn 133 (.of 133) [v3] h4 n5 λv6 h7 n8=>K (yj.fr a b c d e f g j v6 s i) h7 n8:=by kernel_rfl
theorem yj.rF:IR.run yj.t9 C N O K tm h nx=yG yj.r6_0 C ⟨tm,[]⟩ h nx (λtm h nx=>K tm.v h nx):=gD ..
theorem yj.zdq:yG (yj.zfn r) C ⟨(yj.fr a b c d e f g j q s i),[]⟩ h nx Kt =
 sLen j λv1=>ze .eql .int v1 (I 1) λv2=>sG v2 true (λk=>k j) λv3=>sG v2 true (λk=>zL 1 v3 (I 0) k) λv4=>sG v2 true (λk=>zI v4 h k) λv5=>sG v2 true (λk=>ze .eql .int v5 (I 1) k) λv6=>yG r C ⟨(yj.fr a b c d e f g j q s i),v6::v5::v4::v3::v2::v2::v1::j::[]⟩ h nx Kt:=by kernel_rfl
theorem yj.oG:yG (yj.zfo []) C ⟨(yj.fr a b c d e f g j q s i),s0::s1::s2::s3::s4::sT⟩ h nx Kt =
 yS s4 s0 (.bool false) λv1=>Kt ⟨(yj.fr a b c d e f g j q s v1),s0::s1::s2::s3::s4::sT⟩ h nx:=by kernel_rfl
theorem yj.sV:IR.run yj.t10 C N O K (yj.fr a b c d e f g j q s i) h nx =
 K (yj.fr a b c d q f g j q s i) h nx:=by kernel_rfl
theorem yj.v10:Arg.ev (.t (.of 10)) ⟨(yj.fr a b c d e f g j q s i),[]⟩=i:=by kernel_rfl
theorem yj.fT:IR.run yj.t14 C N O K (yj.fr a b c d e f g j q s i) h nx =
 ze .add .str q (.str [47]) λv1=>C.fn 214 (.of 214) [(.bool false),j] h nx λv2 h3 n4=>C.fn 133 (.of 133) [v2] h3 n4 λv5 h6 n7=>ze .add .str v1 v5 λv8=>K (yj.fr a b c d v8 f g j q s i) h6 n7:=by kernel_rfl
theorem yj.go:zS tbl N C (.of 130) [a0,a1] h nx K0=IR.run yj.t22 C N (fnO yj.res K0) (zo yj.res K0) (yj.fr a0 a1 .u .u .u .u .u .u .u .u .u) h nx:=yE (F:=yj) (by kernel_rfl) (λ_=>by kernel_rfl) (by kernel_rfl)
theorem yj.ret:zo yj.res K0 (yj.fr a b c d e f g j q s i) h nx=K0 e h nx:=by kernel_rfl
theorem F99.zy:IR.run F99.t0 C N O K (F99.fr a b c) h nx =
 K (F99.fr a b (.str [])) h nx:=by kernel_rfl
theorem F99.zx:IR.run F99.t1 C N O K (F99.fr a b c) h nx =
 C.fn 189 (.of 189) [b] h nx λv1 h2 n3=>C.fn 40 (.of 40) [a,v1] h2 n3 λv4 h5 n6=>K (F99.fr a b v4) h5 n6:=by kernel_rfl
theorem F99.go:zS tbl N C (.of 99) [a0,a1] h nx K0=IR.run F99.t3 C N (fnO F99.res K0) (zo F99.res K0) (F99.fr a0 a1 .u) h nx:=yE (F:=F99) (by kernel_rfl) (λ_=>by kernel_rfl) (by kernel_rfl)
theorem F99.ret:zo F99.res K0 (F99.fr a b c) h nx=K0 c h nx:=by kernel_rfl
theorem qb.zy:IR.run qb.t0 C N O K (qb.fr a b c d) h nx =
 K (qb.fr a (.str []) c d) h nx:=by kernel_rfl
theorem qb.zx:IR.run qb.t1 C N O K (qb.fr a b c d) h nx =
 C.fn 255 (.of 255) [a] h nx λv1 h2 n3=>ze .lss .int v1 (I 0) λv4=>K (qb.fr a b v4 d) h2 n3:=by kernel_rfl
theorem qb.jb:IR.run qb.t2 C N O K (qb.fr a b c d) h nx =
 uJ a (some (I 1)) none λv1=>K (qb.fr a v1 c d) h nx:=by kernel_rfl
theorem qb.v2:Arg.ev (.t (.of 2)) ⟨(qb.fr a b c d),[]⟩=c:=by kernel_rfl
theorem qb.qg:IR.run qb.t6 C N O K (qb.fr a b c d) h nx =
 C.fn 255 (.of 255) [a] h nx λv1 h2 n3=>ze .eql .int v1 (I 0) λv4=>K (qb.fr a b c v4) h2 n3:=by kernel_rfl
theorem qb.fU:IR.run qb.t7 C N O K (qb.fr a b c d) h nx =
 K (qb.fr a a c d) h nx:=by kernel_rfl
theorem qb.v3:Arg.ev (.t (.of 3)) ⟨(qb.fr a b c d),[]⟩=d:=by kernel_rfl
theorem qb.pu:IR.run qb.t11 C N O K (qb.fr a b c d) h nx =
 ze .add .str (.str [45]) a λv1=>K (qb.fr a v1 c d) h nx:=by kernel_rfl
theorem qb.go:zS tbl N C (.of 189) [a0] h nx K0=IR.run qb.t15 C N (fnO qb.res K0) (zo qb.res K0) (qb.fr a0 .u .u .u) h nx:=yE (F:=qb) (by kernel_rfl) (λ_=>by kernel_rfl) (by kernel_rfl)
theorem qb.ret:zo qb.res K0 (qb.fr a b c d) h nx=K0 b h nx:=by kernel_rfl
theorem fG.zy:IR.run fG.t0 C N O K (fG.fr a b c d) h nx =
 K (fG.fr a (.str []) c d) h nx:=by kernel_rfl
theorem fG.zx:IR.run fG.t1 C N O K (fG.fr a b c d) h nx =
 C.fn 129 (.of 129) [a] h nx λv1 h2 n3=>mg 0 v1 λv4=>mg 1 v1 λv5=>yN [(.bool false),.za] h2 n3 λv6 h7 n8=>yN [(.bool false),.za] h7 n8 λv9 hC nD=>zX 2 v6 v4 hC nD λvG hD nE=>zX 2 v9 v5 hD nE λvE hH nI=>K (fG.fr a b v6 v9) hH nI:=by kernel_rfl
theorem fG.jb:IR.run fG.t2 C N O K (fG.fr a b c d) h nx =
 zF 2 d h λv1=>zF 2 c h λv2=>C.fn 130 (.of 130) [v1,v2] h nx λv3 h4 n5=>K (fG.fr a v3 c d) h4 n5:=by kernel_rfl
theorem fG.go:zS tbl N C (.of 203) [a0] h nx K0=IR.run fG.t5 C N (fnO fG.res K0) (zo fG.res K0) (fG.fr a0 .u .u .u) h nx:=yE (F:=fG) (by kernel_rfl) (λ_=>by kernel_rfl) (by kernel_rfl)
theorem fG.ret:zo fG.res K0 (fG.fr a b c d) h nx=K0 b h nx:=by kernel_rfl
theorem qa.zy:IR.run qa.t0 C N O K (qa.fr a b c d) h nx =
 K (qa.fr a (I 0) c d) h nx:=by kernel_rfl
theorem qa.zx:IR.run qa.t1 C N O K (qa.fr a b c d) h nx =
 ze .eql .str a (.str [48]) λv1=>K (qa.fr a b v1 d) h nx:=by kernel_rfl
theorem qa.jb:IR.run qa.t2 C N O K (qa.fr a b c d) h nx =
 K (qa.fr a (I 0) c d) h nx:=by kernel_rfl
theorem qa.v2:Arg.ev (.t (.of 2)) ⟨(qa.fr a b c d),[]⟩=c:=by kernel_rfl
theorem qa.qg:IR.run qa.t6 C N O K (qa.fr a b c d) h nx =
 kQ a λv1=>ze .gtr .int v1 (I 0) λv2=>sG v2 true (λk=>k a) λv3=>sG v2 true (λk=>zac v3 (I 0) k) λv4=>sG v2 true (λk=>ze .eql .int v4 (.int .u8 45) k) λv5=>yS v2 v5 (.bool false) λv6=>K (qa.fr a b c v6) h nx:=by kernel_rfl
theorem qa.fU:IR.run qa.t7 C N O K (qa.fr a b c d) h nx =
 K (qa.fr a (I (-1)) c d) h nx:=by kernel_rfl
theorem qa.v3:Arg.ev (.t (.of 3)) ⟨(qa.fr a b c d),[]⟩=d:=by kernel_rfl
theorem qa.pu:IR.run qa.t11 C N O K (qa.fr a b c d) h nx =
 K (qa.fr a (I 1) c d) h nx:=by kernel_rfl
theorem qa.go:zS tbl N C (.of 255) [a0] h nx K0=IR.run qa.t15 C N (fnO qa.res K0) (zo qa.res K0) (qa.fr a0 .u .u .u) h nx:=yE (F:=qa) (by kernel_rfl) (λ_=>by kernel_rfl) (by kernel_rfl)
theorem qa.ret:zo qa.res K0 (qa.fr a b c d) h nx=K0 b h nx:=by kernel_rfl
theorem F39.zy:IR.run F39.t0 C N O K (F39.fr a b) h nx =
 K (F39.fr a (.bool false)) h nx:=by kernel_rfl
theorem F39.zx:IR.run F39.t1 C N O K (F39.fr a b) h nx =
 ze .eql .str a (.str [48]) λv1=>K (F39.fr a v1) h nx:=by kernel_rfl
theorem F39.go:zS tbl N C (.of 39) [a0] h nx K0=IR.run F39.t3 C N (fnO F39.res K0) (zo F39.res K0) (F39.fr a0 .u) h nx:=yE (F:=F39) (by kernel_rfl) (λ_=>by kernel_rfl) (by kernel_rfl)
theorem F39.ret:zo F39.res K0 (F39.fr a b) h nx=K0 b h nx:=by kernel_rfl
theorem ug.zy:IR.run ug.t0 C N O K (ug.fr a b c d e) h nx =
 K (ug.fr a .za c d e) h nx:=by kernel_rfl
theorem ug.zx:IR.run ug.t1 C N O K (ug.fr a b c d e) h nx =
 K (ug.fr a b .za d e) h nx:=by kernel_rfl
theorem ug.jb:IR.run ug.t2 C N O K (ug.fr a b c d e) h nx =
 K (ug.fr a b c (I 0) e) h nx:=by kernel_rfl
theorem ug.dw:IR.run ug.t3 C N O K (ug.fr a b c d e) h nx =
 sLen a λv1=>ze .lss .int d v1 λv2=>K (ug.fr a b c d v2) h nx:=by kernel_rfl
theorem ug.v4:Arg.ev (.t (.of 4)) ⟨(ug.fr a b c d e),[]⟩=e:=by kernel_rfl
theorem ug.qg:IR.run ug.t6 C N O K (ug.fr a b c d e) h nx =
 jI 1 0 [(.str [])] [] h nx λv1 h2 n3=>zL 1 a d λv4=>zI v4 h2 λv5=>sZ 1 16 v1 v5 h2 n3 λv6 h7 n8=>jI 1 1 [.za] [(0,1,v6)] h7 n8 λv9 hC nD=>sZ 1 24 c v9 hC nD λvG hD nE=>K (ug.fr a b vG d e) hD nE:=by kernel_rfl
theorem ug.fE:IR.run ug.t8 C N O K (ug.fr a b c d e) h nx =
 ze .add .int d (I 1) λv1=>K (ug.fr a b c v1 e) h nx:=by kernel_rfl
theorem ug.aF (Inv:Nat->AV->AV->T Blk->Pa->Prop) {m:Nat} (hm:m<N) (hi:Inv m c d h nx)
  (step:∀ (m:Nat) (z2 z3 z4:AV) (h:T Blk) (nx:Pa) (R:Ks Prop),Inv m z2 z3 h nx->(∀ (m':Nat) (w2 w3 w4:AV) (h':T Blk) (nx':Pa),m'<m->Inv m' w2 w3 h' nx'->R (ug.fr a b w2 w3 w4) h' nx'=.ok True)->IR.run ug.t10 C N O R (ug.fr a b z2 z3 z4) h nx=.ok True) :
  IR.run ug.t11 C N O K (ug.fr a b c d e) h nx=.ok True:=by
 rw [ug.t11];refine yB (λm tm h nx=>∃ z2 z3 z4,tm=(ug.fr a b z2 z3 z4)/\Inv m z2 z3 h nx) ?_ hm ⟨_,_,_,rfl,hi⟩;rintro m tm h nx R ⟨z2,z3,z4,rfl,hi⟩ hR;exact step m z2 z3 z4 h nx R hi λm' w2 w3 w4 h' nx' hlt hi'=>hR m' _ h' nx' hlt ⟨_,_,_,rfl,hi'⟩
theorem ug.fT:IR.run ug.t14 C N O K (ug.fr a b c d e) h nx =
 K (ug.fr a c c d e) h nx:=by kernel_rfl
theorem ug.go:zS tbl N C (.of 256) [a0] h nx K0=IR.run ug.t18 C N (fnO ug.res K0) (zo ug.res K0) (ug.fr a0 .u .u .u .u) h nx:=yE (F:=ug) (by kernel_rfl) (λ_=>by kernel_rfl) (by kernel_rfl)
theorem ug.ret:zo ug.res K0 (ug.fr a b c d e) h nx=K0 b h nx:=by kernel_rfl
theorem xg.zy:IR.run xg.t0 C N O K (xg.fr a b c) h nx =
 K (xg.fr a (I 0) c) h nx:=by kernel_rfl
theorem xg.zx:IR.run xg.t1 C N O K (xg.fr a b c) h nx =
 sLen a λv1=>ze .eql .int v1 (I 0) λv2=>K (xg.fr a b v2) h nx:=by kernel_rfl
theorem xg.jb:IR.run xg.t2 C N O K (xg.fr a b c) h nx =
 K (xg.fr a (I 0) c) h nx:=by kernel_rfl
theorem xg.v2:Arg.ev (.t (.of 2)) ⟨(xg.fr a b c),[]⟩=c:=by kernel_rfl
theorem xg.qg:IR.run xg.t6 C N O K (xg.fr a b c) h nx =
 zL 1 a (I 0) λv1=>zI v1 h λv2=>sLen v2 λv3=>K (xg.fr a v3 c) h nx:=by kernel_rfl
theorem xg.go:zS tbl N C (.of 196) [a0] h nx K0=IR.run xg.t9 C N (fnO xg.res K0) (zo xg.res K0) (xg.fr a0 .u .u) h nx:=yE (F:=xg) (by kernel_rfl) (λ_=>by kernel_rfl) (by kernel_rfl)
theorem xg.ret:zo xg.res K0 (xg.fr a b c) h nx=K0 b h nx:=by kernel_rfl
theorem zb.zy:IR.run zb.t0 C N O K (zb.fr a b c d e f g j q s i l p o u v w y z) h nx =
 K (zb.fr a .za .za d e f g j q s i l p o u v w y z) h nx:=by kernel_rfl
theorem zb.zx:IR.run zb.t1 C N O K (zb.fr a b c d e f g j q s i l p o u v w y z) h nx =
 C.fn 256 (.of 256) [a] h nx λv1 h2 n3=>K (zb.fr v1 b c d e f g j q s i l p o u v w y z) h2 n3:=by kernel_rfl
theorem zb.jb:IR.run zb.t2 C N O K (zb.fr a b c d e f g j q s i l p o u v w y z) h nx =
 K (zb.fr a b c .za e f g j q s i l p o u v w y z) h nx:=by kernel_rfl
theorem zb.dw:IR.run zb.t3 C N O K (zb.fr a b c d e f g j q s i l p o u v w y z) h nx =
 K (zb.fr a b c d (I 0) f g j q s i l p o u v w y z) h nx:=by kernel_rfl
theorem zb.rD:IR.run zb.t4 C N O K tm h nx=yG zb.r4_0 C ⟨tm,[]⟩ h nx (λtm h nx=>K tm.v h nx):=gD ..
theorem zb.zdr:yG (zb.zfp r) C ⟨(zb.fr a b c d e f g j q s i l p o u v w y z),[]⟩ h nx Kt =
 C.fn 196 (.of 196) [a] h nx λv1 h2 n3=>yG r C ⟨(zb.fr a b c d e f g j q s i l p o u v w y z),v1::a::e::[]⟩ h2 n3 Kt:=by kernel_rfl
theorem zb.zds:yG (zb.zfq []) C ⟨(zb.fr a b c d e f g j q s i l p o u v w y z),s0::s1::s2::[]⟩ h nx Kt =
 ze .lss .int s2 s0 λv1=>sG v1 true (λk=>k d) λv2=>sG v1 true (λk=>sLen v2 k) λv3=>sG v1 true (λk=>k a) λv4=>sG v1 true (λk=>sLen v4 k) λv5=>sG v1 true (λk=>ze .lss .int v3 v5 k) λv6=>yS v1 v6 (.bool false) λv7=>Kt ⟨(zb.fr a b c d e f g j q s i l v7 o u v w y z),v6::v5::v4::v3::v2::v1::v1::s0::s1::s2::[]⟩ h nx:=by kernel_rfl
theorem zb.v12:Arg.ev (.t (.of 12)) ⟨(zb.fr a b c d e f g j q s i l p o u v w y z),[]⟩=p:=by kernel_rfl
theorem zb.fU:IR.run zb.t7 C N O K (zb.fr a b c d e f g j q s i l p o u v w y z) h nx =
 sLen d λv1=>K (zb.fr a b c d e v1 g j q s i l p o u v w y z) h nx:=by kernel_rfl
theorem zb.fE:IR.run zb.t8 C N O K tm h nx=yG zb.r6_0 C ⟨tm,[]⟩ h nx (λtm h nx=>K tm.v h nx):=gD ..
theorem zb.zdq:yG (zb.zfn r) C ⟨(zb.fr a b c d e f g j q s i l p o u v w y z),[]⟩ h nx Kt =
 sLen a λv1=>ze .lss .int f v1 λv2=>sG v2 true (λk=>k a) λv3=>sG v2 true (λk=>k f) λv4=>sG v2 true (λk=>zL 1 v3 v4 k) λv5=>yG r C ⟨(zb.fr a b c d e f g j q s i l p o u v w y z),v5::v4::v3::v2::v2::v1::a::f::[]⟩ h nx Kt:=by kernel_rfl
theorem zb.oG:yG (zb.zfo r) C ⟨(zb.fr a b c d e f g j q s i l p o u v w y z),s0::s1::s2::s3::sT⟩ h nx Kt =
 sG s3 true (λk=>zI s0 h k) λv1=>sG s3 true (λk=>k e) λv2=>sG s3 true (λk=>zL 1 v1 v2 k) λv3=>sG s3 true (λk=>zI v3 h k) λv4=>sGW s3 true (λk=>C.fn 39 (.of 39) [v4] h nx k) h nx λv5 h6 n7=>yG r C ⟨(zb.fr a b c d e f g j q s i l p o u v w y z),v5::v4::v3::v2::v1::s0::s1::s2::s3::sT⟩ h6 n7 Kt:=by kernel_rfl
theorem zb.znf:yG (zb.zun []) C ⟨(zb.fr a b c d e f g j q s i l p o u v w y z),s0::s1::s2::s3::s4::s5::s6::s7::s8::sT⟩ h nx Kt =
 yS s8 s0 (.bool false) λv1=>Kt ⟨(zb.fr a b c d e f g j q s i l p v1 u v w y z),s0::s1::s2::s3::s4::s5::s6::s7::s8::sT⟩ h nx:=by kernel_rfl
theorem zb.v13:Arg.ev (.t (.of 13)) ⟨(zb.fr a b c d e f g j q s i l p o u v w y z),[]⟩=o:=by kernel_rfl
theorem zb.pu:IR.run zb.t11 C N O K (zb.fr a b c d e f g j q s i l p o u v w y z) h nx =
 ze .add .int f (I 1) λv1=>K (zb.fr a b c d e v1 g j q s i l p o u v w y z) h nx:=by kernel_rfl
theorem zb.zfl (Inv:Nat->AV->T Blk->Pa->Prop) {m:Nat} (hm:m<N) (hi:Inv m f h nx)
  (step:∀ (m:Nat) (z5 zA:AV) (h:T Blk) (nx:Pa) (R:Ks Prop),Inv m z5 h nx->(∀ (m':Nat) (w5 wA:AV) (h':T Blk) (nx':Pa),m'<m->Inv m' w5 h' nx'->R (zb.fr a b c d e w5 g j q s i l p wA u v w y z) h' nx'=.ok True)->IR.run zb.t13 C N O R (zb.fr a b c d e z5 g j q s i l p zA u v w y z) h nx=.ok True) :
  IR.run zb.t14 C N O K (zb.fr a b c d e f g j q s i l p o u v w y z) h nx=.ok True:=by
 rw [zb.t14];refine yB (λm tm h nx=>∃ z5 zA,tm=(zb.fr a b c d e z5 g j q s i l p zA u v w y z)/\Inv m z5 h nx) ?_ hm ⟨_,_,rfl,hi⟩;rintro m tm h nx R ⟨z5,zA,rfl,hi⟩ hR;exact step m z5 zA h nx R hi λm' w5 wA h' nx' hlt hi'=>hR m' _ h' nx' hlt ⟨_,_,rfl,hi'⟩
theorem zb.au:IR.run zb.t16 C N O K (zb.fr a b c d e f g j q s i l p o u v w y z) h nx =
 sLen a λv1=>ze .eql .int f v1 λv2=>K (zb.fr a b c d e f g j q s i l p o v2 v w y z) h nx:=by kernel_rfl
theorem zb.v14:Arg.ev (.t (.of 14)) ⟨(zb.fr a b c d e f g j q s i l p o u v w y z),[]⟩=u:=by kernel_rfl
theorem zb.rX:IR.run zb.t19 C N O K (zb.fr a b c d e f g j q s i l p o u v w y z) h nx =
 sLen d λv1=>K (zb.fr a b c d e f v1 j q s i l p o u v w y z) h nx:=by kernel_rfl
theorem zb.aD:IR.run zb.t20 C N O K (zb.fr a b c d e f g j q s i l p o u v w y z) h nx =
 zL 1 a g λv1=>zI v1 h λv2=>zL 1 a f λv3=>zI v3 h λv4=>zL 1 a f λv5=>zX 1 v5 v2 h nx λv6 h7 n8=>zQ g g (zQ a a (zL 1 a g λv9=>zX 1 v9 v4 h7 n8 λvF hB nC=>K (zb.fr a b c d e f g j q s i l p o u v w y z) hB nC)):=by kernel_rfl
theorem zb.zfh:IR.run zb.t21 C N O K (zb.fr a b c d e f g j q s i l p o u v w y z) h nx =
 zL 1 a g λv1=>zI v1 h λv2=>zL 1 v2 e λv3=>zI v3 h λv4=>C.fn 203 (.of 203) [v4] h nx λv5 h6 n7=>K (zb.fr a b c d e f g v5 q s i l p o u v w y z) h6 n7:=by kernel_rfl
theorem zb.aQ:IR.run zb.t22 C N O K (zb.fr a b c d e f g j q s i l p o u v w y z) h nx =
 K (zb.fr a b c d e f g j (I 0) s i l p o u v w y z) h nx:=by kernel_rfl
theorem zb.zne:IR.run zb.t23 C N O K (zb.fr a b c d e f g j q s i l p o u v w y z) h nx =
 zL 1 a g λv1=>zI v1 h λv2=>sLen v2 λv3=>ze .lss .int q v3 λv4=>K (zb.fr a b c d e f g j q s i l p o u v4 w y z) h nx:=by kernel_rfl
theorem zb.v15:Arg.ev (.t (.of 15)) ⟨(zb.fr a b c d e f g j q s i l p o u v w y z),[]⟩=v:=by kernel_rfl
theorem zb.zjy:IR.run zb.t26 C N O K (zb.fr a b c d e f g j q s i l p o u v w y z) h nx =
 zL 1 a g λv1=>zI v1 h λv2=>zL 1 a g λv3=>zI v3 h λv4=>zL 1 v4 q λv5=>zI v5 h λv6=>C.fn 41 (.of 41) [v6,j] h nx λv7 h8 n9=>zQ q q ((zI v1 h8 λvE=>zQ vE v2 ((zL 1 a g λvD=>zQ vD v1 (zQ g g (zQ a a (zL 1 v2 q λvF=>zX 1 vF v7 h8 n9 λvC hA nB=>K (zb.fr a b c d e f g j q s i l p o u v w y z) hA nB))))))):=by kernel_rfl
theorem zb.zaa:IR.run zb.t28 C N O K (zb.fr a b c d e f g j q s i l p o u v w y z) h nx =
 ze .add .int q (I 1) λv1=>K (zb.fr a b c d e f g j v1 s i l p o u v w y z) h nx:=by kernel_rfl
theorem zb.zfi (Inv:Nat->AV->T Blk->Pa->Prop) {m:Nat} (hm:m<N) (hi:Inv m q h nx)
  (step:∀ (m:Nat) (z8 zB:AV) (h:T Blk) (nx:Pa) (R:Ks Prop),Inv m z8 h nx->(∀ (m':Nat) (w8 wB:AV) (h':T Blk) (nx':Pa),m'<m->Inv m' w8 h' nx'->R (zb.fr a b c d e f g j w8 s i l p o u wB w y z) h' nx'=.ok True)->IR.run zb.t30 C N O R (zb.fr a b c d e f g j z8 s i l p o u zB w y z) h nx=.ok True) :
  IR.run zb.t31 C N O K (zb.fr a b c d e f g j q s i l p o u v w y z) h nx=.ok True:=by
 rw [zb.t31];refine yB (λm tm h nx=>∃ z8 zB,tm=(zb.fr a b c d e f g j z8 s i l p o u zB w y z)/\Inv m z8 h nx) ?_ hm ⟨_,_,rfl,hi⟩;rintro m tm h nx R ⟨z8,zB,rfl,hi⟩ hR;exact step m z8 zB h nx R hi λm' w8 wB h' nx' hlt hi'=>hR m' _ h' nx' hlt ⟨_,_,rfl,hi'⟩
theorem zb.zfj:IR.run zb.t34 C N O K (zb.fr a b c d e f g j q s i l p o u v w y z) h nx =
 K (zb.fr a b c d e f g j q (I 0) i l p o u v w y z) h nx:=by kernel_rfl
theorem zb.zfr:IR.run zb.t35 C N O K (zb.fr a b c d e f g j q s i l p o u v w y z) h nx =
 sLen a λv1=>ze .lss .int s v1 λv2=>K (zb.fr a b c d e f g j q s i l p o u v v2 y z) h nx:=by kernel_rfl
theorem zb.v16:Arg.ev (.t (.of 16)) ⟨(zb.fr a b c d e f g j q s i l p o u v w y z),[]⟩=w:=by kernel_rfl
theorem zb.zfs:IR.run zb.t38 C N O K (zb.fr a b c d e f g j q s i l p o u v w y z) h nx =
 zL 1 a s λv1=>zI v1 h λv2=>zL 1 v2 e λv3=>zI v3 h λv4=>K (zb.fr a b c d e f g j q s v4 l p o u v w y z) h nx:=by kernel_rfl
theorem zb.zng:IR.run zb.t39 C N O K (zb.fr a b c d e f g j q s i l p o u v w y z) h nx =
 ze .eql .int s g λv1=>sG v1 false (λk=>k i) λv2=>sGW v1 false (λk=>C.fn 39 (.of 39) [v2] h nx k) h nx λv3 h4 n5=>yS v1 (.bool true) v3 λv6=>K (zb.fr a b c d e f g j q s i l p o u v w v6 z) h4 n5:=by kernel_rfl
theorem zb.v17:Arg.ev (.t (.of 17)) ⟨(zb.fr a b c d e f g j q s i l p o u v w y z),[]⟩=y:=by kernel_rfl
theorem zb.znh:IR.run zb.t42 C N O K (zb.fr a b c d e f g j q s i l p o u v w y z) h nx =
 K (zb.fr a b c d e f g j q s i (I 0) p o u v w y z) h nx:=by kernel_rfl
theorem zb.zyq:IR.run zb.t43 C N O K (zb.fr a b c d e f g j q s i l p o u v w y z) h nx =
 zL 1 a s λv1=>zI v1 h λv2=>sLen v2 λv3=>ze .lss .int l v3 λv4=>K (zb.fr a b c d e f g j q s i l p o u v w y v4) h nx:=by kernel_rfl
theorem zb.v18:Arg.ev (.t (.of 18)) ⟨(zb.fr a b c d e f g j q s i l p o u v w y z),[]⟩=z:=by kernel_rfl
theorem zb.zni:IR.run zb.t46 C N O K (zb.fr a b c d e f g j q s i l p o u v w y z) h nx =
 zL 1 a s λv1=>zI v1 h λv2=>zL 1 a s λv3=>zI v3 h λv4=>zL 1 v4 l λv5=>zI v5 h λv6=>zL 1 a g λv7=>zI v7 h λv8=>zL 1 v8 l λv9=>zI v9 h λvF=>C.fn 41 (.of 41) [i,vF] h nx λvC hA nB=>(zI v5 hA λv28=>zQ v28 v6 ((zL 1 v4 l λv27=>zQ v27 v5 (zQ l l ((zI v3 hA λv26=>zQ v26 v4 ((zL 1 a s λv25=>zQ v25 v3 (zQ s s (zQ a a (zQ l l ((zI v1 hA λvI=>zQ vI v2 ((zL 1 a s λvJ=>zQ vJ v1 (zQ s s (zQ a a (C.fn 99 (.of 99) [v6,vC] hA nB λvD hE nF=>zQ l l ((zI v1 hE λvK=>zQ vK v2 ((zL 1 a s λvL=>zQ vL v1 (zQ s s (zQ a a (zL 1 v2 l λvA=>zX 1 vA vD hE nF λvM hI nJ=>K (zb.fr a b c d e f g j q s i l p o u v w y z) hI nJ))))))))))))))))))))))))):=by kernel_rfl
theorem zb.zyr:IR.run zb.t48 C N O K (zb.fr a b c d e f g j q s i l p o u v w y z) h nx =
 ze .add .int l (I 1) λv1=>K (zb.fr a b c d e f g j q s i v1 p o u v w y z) h nx:=by kernel_rfl
theorem zb.zys (Inv:Nat->AV->T Blk->Pa->Prop) {m:Nat} (hm:m<N) (hi:Inv m l h nx)
  (step:∀ (m:Nat) (zC zD:AV) (h:T Blk) (nx:Pa) (R:Ks Prop),Inv m zC h nx->(∀ (m':Nat) (wC wD:AV) (h':T Blk) (nx':Pa),m'<m->Inv m' wC h' nx'->R (zb.fr a b c d e f g j q s i wC p o u v w y wD) h' nx'=.ok True)->IR.run zb.t50 C N O R (zb.fr a b c d e f g j q s i zC p o u v w y zD) h nx=.ok True) :
  IR.run zb.t51 C N O K (zb.fr a b c d e f g j q s i l p o u v w y z) h nx=.ok True:=by
 rw [zb.t51];refine yB (λm tm h nx=>∃ zC zD,tm=(zb.fr a b c d e f g j q s i zC p o u v w y zD)/\Inv m zC h nx) ?_ hm ⟨_,_,rfl,hi⟩;rintro m tm h nx R ⟨zC,zD,rfl,hi⟩ hR;exact step m zC zD h nx R hi λm' wC wD h' nx' hlt hi'=>hR m' _ h' nx' hlt ⟨_,_,rfl,hi'⟩
theorem zb.zyt:IR.run zb.t57 C N O K (zb.fr a b c d e f g j q s i l p o u v w y z) h nx =
 ze .add .int s (I 1) λv1=>K (zb.fr a b c d e f g j q v1 i l p o u v w y z) h nx:=by kernel_rfl
theorem zb.zyu (Inv:Nat->AV->T Blk->Pa->Prop) {m:Nat} (hm:m<N) (hi:Inv m s h nx)
  (step:∀ (m:Nat) (z9 zE zC zG zH zD:AV) (h:T Blk) (nx:Pa) (R:Ks Prop),Inv m z9 h nx->(∀ (m':Nat) (w9 wE wC wF wG wD:AV) (h':T Blk) (nx':Pa),m'<m->Inv m' w9 h' nx'->R (zb.fr a b c d e f g j q w9 wE wC p o u v wF wG wD) h' nx'=.ok True)->IR.run zb.t59 C N O R (zb.fr a b c d e f g j q z9 zE zC p o u v zG zH zD) h nx=.ok True) :
  IR.run zb.t60 C N O K (zb.fr a b c d e f g j q s i l p o u v w y z) h nx=.ok True:=by
 rw [zb.t60];refine yB (λm tm h nx=>∃ z9 zE zC zG zH zD,tm=(zb.fr a b c d e f g j q z9 zE zC p o u v zG zH zD)/\Inv m z9 h nx) ?_ hm ⟨_,_,_,_,_,_,rfl,hi⟩;rintro m tm h nx R ⟨z9,zE,zC,zG,zH,zD,rfl,hi⟩ hR;exact step m z9 zE zC zG zH zD h nx R hi λm' w9 wE wC wF wG wD h' nx' hlt hi'=>hR m' _ h' nx' hlt ⟨_,_,_,_,_,_,rfl,hi'⟩
theorem zb.zyv:IR.run zb.t63 C N O K (zb.fr a b c d e f g j q s i l p o u v w y z) h nx =
 jI 1 1 [(I 0)] [(0,1,e)] h nx λv1 h2 n3=>sZ 1 8 d v1 h2 n3 λv4 h5 n6=>K (zb.fr a b c v4 e f g j q s i l p o u v w y z) h5 n6:=by kernel_rfl
theorem zb.zjz:IR.run zb.t73 C N O K (zb.fr a b c d e f g j q s i l p o u v w y z) h nx =
 ze .add .int e (I 1) λv1=>K (zb.fr a b c d v1 f g j q s i l p o u v w y z) h nx:=by kernel_rfl
theorem zb.zuo (Inv:Nat->AV->AV->T Blk->Pa->Prop) {m:Nat} (hm:m<N) (hi:Inv m d e h nx)
  (step:∀ (m:Nat) (z3 z4 z5 z6 z7 z8 z9 zE zC zJ zA zM zB zG zH zD:AV) (h:T Blk) (nx:Pa) (R:Ks Prop),Inv m z3 z4 h nx->(∀ (m':Nat) (w3 w4 w5 w6 w7 w8 w9 wE wC wH wA wI wB wF wG wD:AV) (h':T Blk) (nx':Pa),m'<m->Inv m' w3 w4 h' nx'->R (zb.fr a b c w3 w4 w5 w6 w7 w8 w9 wE wC wH wA wI wB wF wG wD) h' nx'=.ok True)->IR.run zb.t75 C N O R (zb.fr a b c z3 z4 z5 z6 z7 z8 z9 zE zC zJ zA zM zB zG zH zD) h nx=.ok True) :
  IR.run zb.t76 C N O K (zb.fr a b c d e f g j q s i l p o u v w y z) h nx=.ok True:=by
 rw [zb.t76];refine yB (λm tm h nx=>∃ z3 z4 z5 z6 z7 z8 z9 zE zC zJ zA zM zB zG zH zD,tm=(zb.fr a b c z3 z4 z5 z6 z7 z8 z9 zE zC zJ zA zM zB zG zH zD)/\Inv m z3 z4 h nx) ?_ hm ⟨_,_,_,_,_,_,_,_,_,_,_,_,_,_,_,_,rfl,hi⟩;rintro m tm h nx R ⟨z3,z4,z5,z6,z7,z8,z9,zE,zC,zJ,zA,zM,zB,zG,zH,zD,rfl,hi⟩ hR;exact step m z3 z4 z5 z6 z7 z8 z9 zE zC zJ zA zM zB zG zH zD h nx R hi λm' w3 w4 w5 w6 w7 w8 w9 wE wC wH wA wI wB wF wG wD h' nx' hlt hi'=>hR m' _ h' nx' hlt ⟨_,_,_,_,_,_,_,_,_,_,_,_,_,_,_,_,rfl,hi'⟩
theorem zb.zj0:IR.run zb.t79 C N O K (zb.fr a b c d e f g j q s i l p o u v w y z) h nx =
 sLen d λv1=>wV 1 a none (some v1) none λv2=>K (zb.fr a v2 d d e f g j q s i l p o u v w y z) h nx:=by kernel_rfl
theorem zb.go:zS tbl N C (.of 190) [a0] h nx K0=IR.run zb.t84 C N (fnO zb.res K0) (zo zb.res K0) (zb.fr a0 .u .u .u .u .u .u .u .u .u .u .u .u .u .u .u .u .u .u) h nx:=yE (F:=zb) (by kernel_rfl) (λ_=>by kernel_rfl) (by kernel_rfl)
theorem zb.ret:zo zb.res K0 (zb.fr a b c d e f g j q s i l p o u v w y z) h nx=K0 (.tup [b,c]) h nx:=by kernel_rfl
theorem jl.zy:IR.run jl.t0 C N O K (jl.fr a b c d e f g j q) h nx =
 K (jl.fr a b .za d e f g j q) h nx:=by kernel_rfl
theorem jl.zx:IR.run jl.t1 C N O K (jl.fr a b c d e f g j q) h nx =
 C.fn 105 (.of 105) [a] h nx λv1 h2 n3=>K (jl.fr a b c v1 e f g j q) h2 n3:=by kernel_rfl
theorem jl.jb:IR.run jl.t2 C N O K (jl.fr a b c d e f g j q) h nx =
 sLen b λv1=>K (jl.fr a b c d e b v1 (I 0) q) h nx:=by kernel_rfl
theorem jl.dw:IR.run jl.t3 C N O K (jl.fr a b c d e f g j q) h nx =
 ze .lss .int j g λv1=>K (jl.fr a b c d e f g j v1) h nx:=by kernel_rfl
theorem jl.v8:Arg.ev (.t (.of 8)) ⟨(jl.fr a b c d e f g j q),[]⟩=q:=by kernel_rfl
theorem jl.rE:IR.run jl.t5 C N O K (jl.fr a b c d e f g j q) h nx =
 zL 1 f j λv1=>zI v1 h λv2=>K (jl.fr a b c d v2 f g j q) h nx:=by kernel_rfl
theorem jl.qg:IR.run jl.t6 C N O K (jl.fr a b c d e f g j q) h nx =
 C.fn 96 (.of 96) [(I 1)] h nx λv1 h2 n3=>zL 4 d e λv4=>zX 4 v4 v1 h2 n3 λv5 h6 n7=>K (jl.fr a b c d e f g j q) h6 n7:=by kernel_rfl
theorem jl.rF:IR.run jl.t9 C N O K (jl.fr a b c d e f g j q) h nx =
 ze .add .int j (I 1) λv1=>K (jl.fr a b c d e f g v1 q) h nx:=by kernel_rfl
theorem jl.znj (Inv:Nat->AV->T Blk->Pa->Prop) {m:Nat} (hm:m<N) (hi:Inv m j h nx)
  (step:∀ (m:Nat) (z4 z7 z8:AV) (h:T Blk) (nx:Pa) (R:Ks Prop),Inv m z7 h nx->(∀ (m':Nat) (w4 w7 w8:AV) (h':T Blk) (nx':Pa),m'<m->Inv m' w7 h' nx'->R (jl.fr a b c d w4 f g w7 w8) h' nx'=.ok True)->IR.run jl.t12 C N O R (jl.fr a b c d z4 f g z7 z8) h nx=.ok True) :
  IR.run jl.t13 C N O K (jl.fr a b c d e f g j q) h nx=.ok True:=by
 rw [jl.t13];refine yB (λm tm h nx=>∃ z4 z7 z8,tm=(jl.fr a b c d z4 f g z7 z8)/\Inv m z7 h nx) ?_ hm ⟨_,_,_,rfl,hi⟩;rintro m tm h nx R ⟨z4,z7,z8,rfl,hi⟩ hR;exact step m z4 z7 z8 h nx R hi λm' w4 w7 w8 h' nx' hlt hi'=>hR m' _ h' nx' hlt ⟨_,_,_,rfl,hi'⟩
theorem jl.au:IR.run jl.t16 C N O K (jl.fr a b c d e f g j q) h nx =
 K (jl.fr a b d d e f g j q) h nx:=by kernel_rfl
theorem jl.go:zS tbl N C (.of 104) [a0,a1] h nx K0=IR.run jl.t20 C N (fnO jl.res K0) (zo jl.res K0) (jl.fr a0 a1 .u .u .u .u .u .u .u) h nx:=yE (F:=jl) (by kernel_rfl) (λ_=>by kernel_rfl) (by kernel_rfl)
theorem jl.ret:zo jl.res K0 (jl.fr a b c d e f g j q) h nx=K0 c h nx:=by kernel_rfl
theorem jm.zy:IR.run jm.t0 C N O K (jm.fr a b c d e f g) h nx =
 K (jm.fr a .za c d e f g) h nx:=by kernel_rfl
theorem jm.zx:IR.run jm.t1 C N O K (jm.fr a b c d e f g) h nx =
 xJ 4 64 [(I 0),.za,(I 0),.za] a a h nx λv1 h2 n3=>K (jm.fr a b v1 d e f g) h2 n3:=by kernel_rfl
theorem jm.jb:IR.run jm.t2 C N O K (jm.fr a b c d e f g) h nx =
 sLen c λv1=>K (jm.fr a b c d v1 (I 0) g) h nx:=by kernel_rfl
theorem jm.dw:IR.run jm.t3 C N O K (jm.fr a b c d e f g) h nx =
 ze .lss .int f e λv1=>K (jm.fr a b c d e f v1) h nx:=by kernel_rfl
theorem jm.v6:Arg.ev (.t (.of 6)) ⟨(jm.fr a b c d e f g),[]⟩=g:=by kernel_rfl
theorem jm.rE:IR.run jm.t5 C N O K (jm.fr a b c d e f g) h nx =
 K (jm.fr a b c f e f g) h nx:=by kernel_rfl
theorem jm.qg:IR.run jm.t6 C N O K (jm.fr a b c d e f g) h nx =
 C.fn 96 (.of 96) [(I 0)] h nx λv1 h2 n3=>zL 4 c d λv4=>zX 4 v4 v1 h2 n3 λv5 h6 n7=>K (jm.fr a b c d e f g) h6 n7:=by kernel_rfl
theorem jm.rF:IR.run jm.t9 C N O K (jm.fr a b c d e f g) h nx =
 ze .add .int f (I 1) λv1=>K (jm.fr a b c d e v1 g) h nx:=by kernel_rfl
theorem jm.znj (Inv:Nat->AV->T Blk->Pa->Prop) {m:Nat} (hm:m<N) (hi:Inv m f h nx)
  (step:∀ (m:Nat) (z3 z5 z6:AV) (h:T Blk) (nx:Pa) (R:Ks Prop),Inv m z5 h nx->(∀ (m':Nat) (w3 w5 w6:AV) (h':T Blk) (nx':Pa),m'<m->Inv m' w5 h' nx'->R (jm.fr a b c w3 e w5 w6) h' nx'=.ok True)->IR.run jm.t12 C N O R (jm.fr a b c z3 e z5 z6) h nx=.ok True) :
  IR.run jm.t13 C N O K (jm.fr a b c d e f g) h nx=.ok True:=by
 rw [jm.t13];refine yB (λm tm h nx=>∃ z3 z5 z6,tm=(jm.fr a b c z3 e z5 z6)/\Inv m z5 h nx) ?_ hm ⟨_,_,_,rfl,hi⟩;rintro m tm h nx R ⟨z3,z5,z6,rfl,hi⟩ hR;exact step m z3 z5 z6 h nx R hi λm' w3 w5 w6 h' nx' hlt hi'=>hR m' _ h' nx' hlt ⟨_,_,_,rfl,hi'⟩
theorem jm.au:IR.run jm.t16 C N O K (jm.fr a b c d e f g) h nx =
 K (jm.fr a c c d e f g) h nx:=by kernel_rfl
theorem jm.go:zS tbl N C (.of 105) [a0] h nx K0=IR.run jm.t20 C N (fnO jm.res K0) (zo jm.res K0) (jm.fr a0 .u .u .u .u .u .u) h nx:=yE (F:=jm) (by kernel_rfl) (λ_=>by kernel_rfl) (by kernel_rfl)
theorem jm.ret:zo jm.res K0 (jm.fr a b c d e f g) h nx=K0 b h nx:=by kernel_rfl
theorem jv.zy:IR.run jv.t0 C N O K (jv.fr a b c d e f g j q s i) h nx =
 wz b h nx λv1 h2 n3=>K (jv.fr a b c v1 e f g j q s i) h2 n3:=by kernel_rfl
theorem jv.zx:IR.run jv.t1 C N O K (jv.fr a b c d e f g j q s i) h nx =
 sLen c λv1=>K (jv.fr a b c d e f c v1 (I 0) s i) h nx:=by kernel_rfl
theorem jv.jb:IR.run jv.t2 C N O K (jv.fr a b c d e f g j q s i) h nx =
 ze .lss .int q j λv1=>K (jv.fr a b c d e f g j q v1 i) h nx:=by kernel_rfl
theorem jv.v9:Arg.ev (.t (.of 9)) ⟨(jv.fr a b c d e f g j q s i),[]⟩=s:=by kernel_rfl
theorem jv.rD:IR.run jv.t4 C N O K (jv.fr a b c d e f g j q s i) h nx =
 zL 4 g q λv1=>zF 4 v1 h λv2=>yN [(I 0),.za,(I 0),.za] h nx λv3 h4 n5=>zX 4 v3 v2 h4 n5 λv6 h7 n8=>K (jv.fr a b c d q v3 g j q s i) h7 n8:=by kernel_rfl
theorem jv.rE:IR.run jv.t5 C N O K (jv.fr a b c d e f g j q s i) h nx =
 zF 4 f h λv1=>C.fn 110 (.of 110) [v1] h nx λv2 h3 n4=>ze .neq .int v2 (I 0) λv5=>K (jv.fr a b c d e f g j q s v5) h3 n4:=by kernel_rfl
theorem jv.qg:IR.run jv.t6 C N O K (jv.fr a b c d e f g j q s i) h nx =
 zL 4 a e λv1=>zF 4 v1 h λv2=>zF 4 d h λv3=>zF 4 f h λv4=>C.fn 119 (.of 119) [v3,v4] h nx λv5 h6 n7=>(zF 4 v1 h6 λvB=>zQ vB v2 ((zL 4 a e λvE=>zQ vE v1 (zQ e e (zQ a a (zQ e e (zQ a a (C.fn 192 (.of 192) [v2,v5] h6 n7 λv8 h9 nA=>zQ e e (zQ a a (zL 4 a e λvC=>zX 4 vC v8 h9 nA λvG hD nE=>K (jv.fr a b c d e f g j q s i) hD nE)))))))))):=by kernel_rfl
theorem jv.v10:Arg.ev (.t (.of 10)) ⟨(jv.fr a b c d e f g j q s i),[]⟩=i:=by kernel_rfl
theorem jv.pu:IR.run jv.t11 C N O K (jv.fr a b c d e f g j q s i) h nx =
 ze .add .int q (I 1) λv1=>K (jv.fr a b c d e f g j v1 s i) h nx:=by kernel_rfl
theorem jv.zfk (Inv:Nat->AV->T Blk->Pa->Prop) {m:Nat} (hm:m<N) (hi:Inv m q h nx)
  (step:∀ (m:Nat) (z4 z5 z8 z9 zE:AV) (h:T Blk) (nx:Pa) (R:Ks Prop),Inv m z8 h nx->(∀ (m':Nat) (w4 w5 w8 w9 wE:AV) (h':T Blk) (nx':Pa),m'<m->Inv m' w8 h' nx'->R (jv.fr a b c d w4 w5 g j w8 w9 wE) h' nx'=.ok True)->IR.run jv.t14 C N O R (jv.fr a b c d z4 z5 g j z8 z9 zE) h nx=.ok True) :
  IR.run jv.t15 C N O K (jv.fr a b c d e f g j q s i) h nx=.ok True:=by
 rw [jv.t15];refine yB (λm tm h nx=>∃ z4 z5 z8 z9 zE,tm=(jv.fr a b c d z4 z5 g j z8 z9 zE)/\Inv m z8 h nx) ?_ hm ⟨_,_,_,_,_,rfl,hi⟩;rintro m tm h nx R ⟨z4,z5,z8,z9,zE,rfl,hi⟩ hR;exact step m z4 z5 z8 z9 zE h nx R hi λm' w4 w5 w8 w9 wE h' nx' hlt hi'=>hR m' _ h' nx' hlt ⟨_,_,_,_,_,rfl,hi'⟩
theorem jv.go:zS tbl N C (.of 106) [a0,a1,a2] h nx K0=IR.run jv.t18 C N (fnO jv.res K0) (zo jv.res K0) (jv.fr a0 a1 a2 .u .u .u .u .u .u .u .u) h nx:=yE (F:=jv) (by kernel_rfl) (λ_=>by kernel_rfl) (by kernel_rfl)
theorem jv.ret:zo jv.res K0 (jv.fr a b c d e f g j q s i) h nx=K0 (.tup []) h nx:=by kernel_rfl
theorem jy.zy:IR.run jy.t0 C N O K (jy.fr a b c d e f g j q s) h nx =
 wz b h nx λv1 h2 n3=>K (jy.fr a b v1 d e f g j q s) h2 n3:=by kernel_rfl
theorem jy.zx:IR.run jy.t1 C N O K (jy.fr a b c d e f g j q s) h nx =
 sLen a λv1=>K (jy.fr a b c d e a v1 (I 0) q s) h nx:=by kernel_rfl
theorem jy.jb:IR.run jy.t2 C N O K (jy.fr a b c d e f g j q s) h nx =
 ze .lss .int j g λv1=>K (jy.fr a b c d e f g j v1 s) h nx:=by kernel_rfl
theorem jy.v8:Arg.ev (.t (.of 8)) ⟨(jy.fr a b c d e f g j q s),[]⟩=q:=by kernel_rfl
theorem jy.rD:IR.run jy.t4 C N O K (jy.fr a b c d e f g j q s) h nx =
 zL 4 f j λv1=>zF 4 v1 h λv2=>yN [(I 0),.za,(I 0),.za] h nx λv3 h4 n5=>zX 4 v3 v2 h4 n5 λv6 h7 n8=>K (jy.fr a b c j v3 f g j q s) h7 n8:=by kernel_rfl
theorem jy.rE:IR.run jy.t5 C N O K (jy.fr a b c d e f g j q s) h nx =
 zF 4 e h λv1=>C.fn 110 (.of 110) [v1] h nx λv2 h3 n4=>ze .neq .int v2 (I 0) λv5=>K (jy.fr a b c d e f g j q v5) h3 n4:=by kernel_rfl
theorem jy.qg:IR.run jy.t6 C N O K (jy.fr a b c d e f g j q s) h nx =
 zF 4 e h λv1=>zF 4 c h λv2=>C.fn 119 (.of 119) [v1,v2] h nx λv3 h4 n5=>zL 4 a d λv6=>zX 4 v6 v3 h4 n5 λv7 h8 n9=>K (jy.fr a b c d e f g j q s) h8 n9:=by kernel_rfl
theorem jy.v9:Arg.ev (.t (.of 9)) ⟨(jy.fr a b c d e f g j q s),[]⟩=s:=by kernel_rfl
theorem jy.pu:IR.run jy.t11 C N O K (jy.fr a b c d e f g j q s) h nx =
 ze .add .int j (I 1) λv1=>K (jy.fr a b c d e f g v1 q s) h nx:=by kernel_rfl
theorem jy.zfk (Inv:Nat->AV->T Blk->Pa->Prop) {m:Nat} (hm:m<N) (hi:Inv m j h nx)
  (step:∀ (m:Nat) (z3 z4 z7 z8 z9:AV) (h:T Blk) (nx:Pa) (R:Ks Prop),Inv m z7 h nx->(∀ (m':Nat) (w3 w4 w7 w8 w9:AV) (h':T Blk) (nx':Pa),m'<m->Inv m' w7 h' nx'->R (jy.fr a b c w3 w4 f g w7 w8 w9) h' nx'=.ok True)->IR.run jy.t14 C N O R (jy.fr a b c z3 z4 f g z7 z8 z9) h nx=.ok True) :
  IR.run jy.t15 C N O K (jy.fr a b c d e f g j q s) h nx=.ok True:=by
 rw [jy.t15];refine yB (λm tm h nx=>∃ z3 z4 z7 z8 z9,tm=(jy.fr a b c z3 z4 f g z7 z8 z9)/\Inv m z7 h nx) ?_ hm ⟨_,_,_,_,_,rfl,hi⟩;rintro m tm h nx R ⟨z3,z4,z7,z8,z9,rfl,hi⟩ hR;exact step m z3 z4 z7 z8 z9 h nx R hi λm' w3 w4 w7 w8 w9 h' nx' hlt hi'=>hR m' _ h' nx' hlt ⟨_,_,_,_,_,rfl,hi'⟩
theorem jy.go:zS tbl N C (.of 111) [a0,a1] h nx K0=IR.run jy.t18 C N (fnO jy.res K0) (zo jy.res K0) (jy.fr a0 a1 .u .u .u .u .u .u .u .u) h nx:=yE (F:=jy) (by kernel_rfl) (λ_=>by kernel_rfl) (by kernel_rfl)
theorem jy.ret:zo jy.res K0 (jy.fr a b c d e f g j q s) h nx=K0 (.tup []) h nx:=by kernel_rfl
theorem nV.zy:IR.run nV.t0 C N O K (nV.fr a b c) h nx =
 K (nV.fr a b (.bool false)) h nx:=by kernel_rfl
theorem nV.zx:IR.run nV.t1 C N O K (nV.fr a b c) h nx =
 C.fn 247 (.of 247) [a,b] h nx λv1 h2 n3=>ze .geq .int v1 (I 0) λv4=>K (nV.fr a b v4) h2 n3:=by kernel_rfl
theorem nV.go:zS tbl N C (.of 182) [a0,a1] h nx K0=IR.run nV.t3 C N (fnO nV.res K0) (zo nV.res K0) (nV.fr a0 a1 .u) h nx:=yE (F:=nV) (by kernel_rfl) (λ_=>by kernel_rfl) (by kernel_rfl)
theorem nV.ret:zo nV.res K0 (nV.fr a b c) h nx=K0 c h nx:=by kernel_rfl
theorem jh.zy:IR.run jh.t0 C N O K (jh.fr a b c d e f g j) h nx =
 K (jh.fr a b (I 0) d e f g j) h nx:=by kernel_rfl
theorem jh.zx:IR.run jh.t1 C N O K (jh.fr a b c d e f g j) h nx =
 sLen a λv1=>K (jh.fr a b c d v1 (I 0) g j) h nx:=by kernel_rfl
theorem jh.jb:IR.run jh.t2 C N O K (jh.fr a b c d e f g j) h nx =
 ze .lss .int f e λv1=>K (jh.fr a b c d e f v1 j) h nx:=by kernel_rfl
theorem jh.v6:Arg.ev (.t (.of 6)) ⟨(jh.fr a b c d e f g j),[]⟩=g:=by kernel_rfl
theorem jh.rD:IR.run jh.t4 C N O K (jh.fr a b c d e f g j) h nx =
 K (jh.fr a b c f e f g j) h nx:=by kernel_rfl
theorem jh.rE:IR.run jh.t5 C N O K (jh.fr a b c d e f g j) h nx =
 zL 1 a d λv1=>zI v1 h λv2=>ze .eql .int b v2 λv3=>K (jh.fr a b c d e f g v3) h nx:=by kernel_rfl
theorem jh.qg:IR.run jh.t6 C N O K (jh.fr a b c d e f g j) h nx =
 K (jh.fr a b d d e f g j) h nx:=by kernel_rfl
theorem jh.v7:Arg.ev (.t (.of 7)) ⟨(jh.fr a b c d e f g j),[]⟩=j:=by kernel_rfl
theorem jh.ni:IR.run jh.t12 C N O K (jh.fr a b c d e f g j) h nx =
 ze .add .int f (I 1) λv1=>K (jh.fr a b c d e v1 g j) h nx:=by kernel_rfl
theorem jh.zab (Inv:Nat->AV->T Blk->Pa->Prop) {m:Nat} (hm:m<N) (hi:Inv m f h nx)
  (step:∀ (m:Nat) (z2 z3 z5 z6 z7:AV) (h:T Blk) (nx:Pa) (R:Ks Prop),Inv m z5 h nx->(∀ (m':Nat) (w2 w3 w5 w6 w7:AV) (h':T Blk) (nx':Pa),m'<m->Inv m' w5 h' nx'->R (jh.fr a b w2 w3 e w5 w6 w7) h' nx'=.ok True)->IR.run jh.t15 C N O R (jh.fr a b z2 z3 e z5 z6 z7) h nx=.ok True) :
  IR.run jh.t16 C N O K (jh.fr a b c d e f g j) h nx=.ok True:=by
 rw [jh.t16];refine yB (λm tm h nx=>∃ z2 z3 z5 z6 z7,tm=(jh.fr a b z2 z3 e z5 z6 z7)/\Inv m z5 h nx) ?_ hm ⟨_,_,_,_,_,rfl,hi⟩;rintro m tm h nx R ⟨z2,z3,z5,z6,z7,rfl,hi⟩ hR;exact step m z2 z3 z5 z6 z7 h nx R hi λm' w2 w3 w5 w6 w7 h' nx' hlt hi'=>hR m' _ h' nx' hlt ⟨_,_,_,_,_,rfl,hi'⟩
theorem jh.rX:IR.run jh.t19 C N O K (jh.fr a b c d e f g j) h nx =
 K (jh.fr a b (I (-1)) d e f g j) h nx:=by kernel_rfl
theorem jh.go:zS tbl N C (.of 247) [a0,a1] h nx K0=IR.run jh.t22 C N (fnO jh.res K0) (zo jh.res K0) (jh.fr a0 a1 .u .u .u .u .u .u) h nx:=yE (F:=jh) (by kernel_rfl) (λ_=>by kernel_rfl) (by kernel_rfl)
theorem jh.ret:zo jh.res K0 (jh.fr a b c d e f g j) h nx=K0 c h nx:=by kernel_rfl
theorem F49.eZ (X3:IR) (C:Calls Prop) (N:Nat) (O:fQ Prop) (K:Ks Prop) (a b c d e f g:AV) (h:T Blk) (nx:Pa):IR.run (F49.g2 X3) C N O K (F49.fr a b c d e f g) h nx =
 IR.run X3 C N (O.blk 0 K) K (F49.fr a b c d e f g) h nx:=by kernel_rfl
theorem F49.tab:T.get none (.of 49) tbl=some F49:=by kernel_rfl
theorem F49.go:zS tbl N C (.of 49) [a0,a1] h nx K0 =
 sLen a0 λv1=>sLen a1 λv2=>ze .neq .int v1 v2 λv3=>yP v3 (K0 (.bool false) h nx) (IR.run F49.b2 C N (fnO F49.res K0) (IR.run F49.b9 C N (fnO F49.res K0) (zo F49.res K0)) (F49.fr a0 a1 (.bool false) (I 0) v3 .u .u) h nx):=by
 rw [jK F49.tab];kernel_rfl
theorem F49.e2:IR.run F49.b4 C N ((fnO F49.res K0).blk 0 K) R (F49.fr a b c d e f g) h nx =
 sLen a λv1=>ze .lss .int d v1 λv2=>yP v2 (zL 1 a d λv3=>zI v3 h λv4=>zL 1 b d λv5=>zI v5 h λv6=>ze .neq .int v4 v6 λv7=>yP v7 (K0 (.bool false) h nx) (ze .add .int d (I 1) λv8=>R (F49.fr a b c v8 e v2 v7) h nx)) (K (F49.fr a b c d e v2 g) h nx):=by kernel_rfl
theorem F49.L2 (Inv:Nat->AV->T Blk->Pa->Prop) {m:Nat} (hm:m<N) (hi:Inv m d h nx)
  (step:∀ (m:Nat) (z2 z3 z5 z6:AV) (h:T Blk) (nx:Pa) (R:Ks Prop),Inv m z3 h nx->(∀ (m':Nat) (w2 w3 w5 w6:AV) (h':T Blk) (nx':Pa),m'<m->Inv m' w3 h' nx'->R (F49.fr a b w2 w3 e w5 w6) h' nx'=.ok True) ->
   (sLen a λv1=>ze .lss .int z3 v1 λv2=>yP v2 (zL 1 a z3 λv3=>zI v3 h λv4=>zL 1 b z3 λv5=>zI v5 h λv6=>ze .neq .int v4 v6 λv7=>yP v7 (K0 (.bool false) h nx) (ze .add .int z3 (I 1) λv8=>R (F49.fr a b z2 v8 e v2 v7) h nx)) (K (F49.fr a b z2 z3 e v2 z6) h nx))=.ok True) :
  IR.run F49.b2 C N (fnO F49.res K0) K (F49.fr a b c d e f g) h nx=.ok True:=by
 rw [F49.b2,F49.eZ,F49.b3];refine yB (λm tm h nx=>∃ z2 z3 z5 z6,tm=(F49.fr a b z2 z3 e z5 z6)/\Inv m z3 h nx) ?_ hm ⟨_,_,_,_,rfl,hi⟩;rintro m tm h nx R ⟨z2,z3,z5,z6,rfl,hi⟩ hR;rw [F49.e2];exact step m z2 z3 z5 z6 h nx R hi λm' w2 w3 w5 w6 h' nx' hlt hi'=>hR m' _ h' nx' hlt ⟨_,_,_,_,rfl,hi'⟩
theorem F49.k9:IR.run F49.b9 C N (fnO F49.res K0) K (F49.fr a b c d e f g) h nx =
 K0 (.bool true) h nx:=by kernel_rfl
theorem aS.tab:T.get none (.of 176) tbl=some aS:=by kernel_rfl
theorem aS.go:zS tbl N C (.of 176) [a0,a1] h nx K0 =
 zI a1 h λv1=>C.fn 177 (.of 177) [a0,v1] h nx λv2 h3 n4=>K0 v2 h3 n4:=by
 rw [jK aS.tab];kernel_rfl
theorem aT.tab:T.get none (.of 175) tbl=some aT:=by kernel_rfl
theorem aT.go:zS tbl N C (.of 175) [a0,a1] h nx K0 =
 C.fn 245 (.of 245) [a0,a1] h nx λv1 h2 n3=>ze .geq .int v1 (I 0) λv4=>K0 v4 h2 n3:=by
 rw [jK aT.tab];kernel_rfl
theorem xq.zad (X2:IR) (C:Calls Prop) (N:Nat) (O:fQ Prop) (K:Ks Prop) (a b c d e f g j:AV) (h:T Blk) (nx:Pa):IR.run (xq.g1 X2) C N O K (xq.fr a b c d e f g j) h nx =
 IR.run X2 C N (O.blk 0 K) K (xq.fr a b c d e f g j) h nx:=by kernel_rfl
theorem xq.tab:T.get none (.of 245) tbl=some xq:=by kernel_rfl
theorem xq.go:zS tbl N C (.of 245) [a0,a1] h nx K0 =
 sLen a0 λv1=>IR.run xq.b1 C N (fnO xq.res K0) (IR.run xq.b8 C N (fnO xq.res K0) (zo xq.res K0)) (xq.fr a0 a1 (I 0) .u v1 (I 0) .u .u) h nx:=by
 rw [jK xq.tab];kernel_rfl
theorem xq.e1:IR.run xq.b3 C N ((fnO xq.res K0).blk 0 K) R (xq.fr a b c d e f g j) h nx =
 ze .lss .int f e λv1=>yP v1 (zL 1 a f λv2=>zI v2 h λv3=>zae C b [v3] h nx λv4 h5 n6=>yP v4 (K0 f h5 n6) (ze .add .int f (I 1) λv7=>R (xq.fr a b c f e v7 v1 v4) h5 n6)) (K (xq.fr a b c d e f v1 j) h nx):=by kernel_rfl
theorem xq.L1 (Inv:Nat->AV->T Blk->Pa->Prop) {m:Nat} (hm:m<N) (hi:Inv m f h nx)
  (step:∀ (m:Nat) (z2 z3 z5 z6 z7:AV) (h:T Blk) (nx:Pa) (R:Ks Prop),Inv m z5 h nx->(∀ (m':Nat) (w2 w3 w5 w6 w7:AV) (h':T Blk) (nx':Pa),m'<m->Inv m' w5 h' nx'->R (xq.fr a b w2 w3 e w5 w6 w7) h' nx'=.ok True) ->
   (ze .lss .int z5 e λv1=>yP v1 (zL 1 a z5 λv2=>zI v2 h λv3=>zae C b [v3] h nx λv4 h5 n6=>yP v4 (K0 z5 h5 n6) (ze .add .int z5 (I 1) λv7=>R (xq.fr a b z2 z5 e v7 v1 v4) h5 n6)) (K (xq.fr a b z2 z3 e z5 v1 z7) h nx))=.ok True) :
  IR.run xq.b1 C N (fnO xq.res K0) K (xq.fr a b c d e f g j) h nx=.ok True:=by
 rw [xq.b1,xq.zad,xq.b2];refine yB (λm tm h nx=>∃ z2 z3 z5 z6 z7,tm=(xq.fr a b z2 z3 e z5 z6 z7)/\Inv m z5 h nx) ?_ hm ⟨_,_,_,_,_,rfl,hi⟩;rintro m tm h nx R ⟨z2,z3,z5,z6,z7,rfl,hi⟩ hR;rw [xq.e1];exact step m z2 z3 z5 z6 z7 h nx R hi λm' w2 w3 w5 w6 w7 h' nx' hlt hi'=>hR m' _ h' nx' hlt ⟨_,_,_,_,_,rfl,hi'⟩
theorem xq.k8:IR.run xq.b8 C N (fnO xq.res K0) K (xq.fr a b c d e f g j) h nx =
 K0 (I (-1)) h nx:=by kernel_rfl
theorem xu.eZ (X3:IR) (C:Calls Prop) (N:Nat) (O:fQ Prop) (K:Ks Prop) (a b c d e f g j q:AV) (h:T Blk) (nx:Pa):IR.run (xu.g2 X3) C N O K (xu.fr a b c d e f g j q) h nx =
 IR.run X3 C N (O.blk 0 K) K (xu.fr a b c d e f g j q) h nx:=by kernel_rfl
theorem xu.tab:T.get none (.of 177) tbl=some xu:=by kernel_rfl
theorem xu.go:zS tbl N C (.of 177) [a0,a1] h nx K0 =
 sLen a0 λv1=>sLen a1 λv2=>ze .neq .int v1 v2 λv3=>yP v3 (K0 (.bool false) h nx) (sLen a0 λv4=>IR.run xu.b2 C N (fnO xu.res K0) (IR.run xu.b9 C N (fnO xu.res K0) (zo xu.res K0)) (xu.fr a0 a1 (.bool false) .u v3 v4 (I 0) .u .u) h nx):=by
 rw [jK xu.tab];kernel_rfl
theorem xu.e2:IR.run xu.b4 C N ((fnO xu.res K0).blk 0 K) R (xu.fr a b c d e f g j q) h nx =
 ze .lss .int g f λv1=>yP v1 (zL 1 a g λv2=>zI v2 h λv3=>zL 1 b g λv4=>zI v4 h λv5=>ze .neq .int v3 v5 λv6=>yP v6 (K0 (.bool false) h nx) (ze .add .int g (I 1) λv7=>R (xu.fr a b c g e f v7 v1 v6) h nx)) (K (xu.fr a b c d e f g v1 q) h nx):=by kernel_rfl
theorem xu.L2 (Inv:Nat->AV->T Blk->Pa->Prop) {m:Nat} (hm:m<N) (hi:Inv m g h nx)
  (step:∀ (m:Nat) (z2 z3 z6 z7 z8:AV) (h:T Blk) (nx:Pa) (R:Ks Prop),Inv m z6 h nx->(∀ (m':Nat) (w2 w3 w6 w7 w8:AV) (h':T Blk) (nx':Pa),m'<m->Inv m' w6 h' nx'->R (xu.fr a b w2 w3 e f w6 w7 w8) h' nx'=.ok True) ->
   (ze .lss .int z6 f λv1=>yP v1 (zL 1 a z6 λv2=>zI v2 h λv3=>zL 1 b z6 λv4=>zI v4 h λv5=>ze .neq .int v3 v5 λv6=>yP v6 (K0 (.bool false) h nx) (ze .add .int z6 (I 1) λv7=>R (xu.fr a b z2 z6 e f v7 v1 v6) h nx)) (K (xu.fr a b z2 z3 e f z6 v1 z8) h nx))=.ok True) :
  IR.run xu.b2 C N (fnO xu.res K0) K (xu.fr a b c d e f g j q) h nx=.ok True:=by
 rw [xu.b2,xu.eZ,xu.b3];refine yB (λm tm h nx=>∃ z2 z3 z6 z7 z8,tm=(xu.fr a b z2 z3 e f z6 z7 z8)/\Inv m z6 h nx) ?_ hm ⟨_,_,_,_,_,rfl,hi⟩;rintro m tm h nx R ⟨z2,z3,z6,z7,z8,rfl,hi⟩ hR;rw [xu.e2];exact step m z2 z3 z6 z7 z8 h nx R hi λm' w2 w3 w6 w7 w8 h' nx' hlt hi'=>hR m' _ h' nx' hlt ⟨_,_,_,_,_,rfl,hi'⟩
theorem xu.k9:IR.run xu.b9 C N (fnO xu.res K0) K (xu.fr a b c d e f g j q) h nx =
 K0 (.bool true) h nx:=by kernel_rfl
theorem F90.zad (X2:IR) (C:Calls Prop) (N:Nat) (O:fQ Prop) (K:Ks Prop) (a b c d e f:AV) (h:T Blk) (nx:Pa):IR.run (F90.g1 X2) C N O K (F90.fr a b c d e f) h nx =
 IR.run X2 C N (O.blk 0 K) K (F90.fr a b c d e f) h nx:=by kernel_rfl
theorem F90.tab:T.get none (.of 90) tbl=some F90:=by kernel_rfl
theorem F90.go:zS tbl N C (.of 90) [a0,a1] h nx K0 =
 IR.run F90.b1 C N (fnO F90.res K0) (IR.run F90.b8 C N (fnO F90.res K0) (zo F90.res K0)) (F90.fr a0 a1 (.bool false) (I 0) .u .u) h nx:=by
 rw [jK F90.tab];kernel_rfl
theorem F90.e1:IR.run F90.b3 C N ((fnO F90.res K0).blk 0 K) R (F90.fr a b c d e f) h nx =
 sLen a λv1=>ze .lss .int d v1 λv2=>yP v2 (zL 1 a d λv3=>zI v3 h λv4=>C.fn 49 (.of 49) [v4,b] h nx λv5 h6 n7=>yP v5 (K0 (.bool true) h6 n7) (ze .add .int d (I 1) λv8=>R (F90.fr a b c v8 v2 v5) h6 n7)) (K (F90.fr a b c d v2 f) h nx):=by kernel_rfl
theorem F90.L1 (Inv:Nat->AV->T Blk->Pa->Prop) {m:Nat} (hm:m<N) (hi:Inv m d h nx)
  (step:∀ (m:Nat) (z2 z3 z4 z5:AV) (h:T Blk) (nx:Pa) (R:Ks Prop),Inv m z3 h nx->(∀ (m':Nat) (w2 w3 w4 w5:AV) (h':T Blk) (nx':Pa),m'<m->Inv m' w3 h' nx'->R (F90.fr a b w2 w3 w4 w5) h' nx'=.ok True) ->
   (sLen a λv1=>ze .lss .int z3 v1 λv2=>yP v2 (zL 1 a z3 λv3=>zI v3 h λv4=>C.fn 49 (.of 49) [v4,b] h nx λv5 h6 n7=>yP v5 (K0 (.bool true) h6 n7) (ze .add .int z3 (I 1) λv8=>R (F90.fr a b z2 v8 v2 v5) h6 n7)) (K (F90.fr a b z2 z3 v2 z5) h nx))=.ok True) :
  IR.run F90.b1 C N (fnO F90.res K0) K (F90.fr a b c d e f) h nx=.ok True:=by
 rw [F90.b1,F90.zad,F90.b2];refine yB (λm tm h nx=>∃ z2 z3 z4 z5,tm=(F90.fr a b z2 z3 z4 z5)/\Inv m z3 h nx) ?_ hm ⟨_,_,_,_,rfl,hi⟩;rintro m tm h nx R ⟨z2,z3,z4,z5,rfl,hi⟩ hR;rw [F90.e1];exact step m z2 z3 z4 z5 h nx R hi λm' w2 w3 w4 w5 h' nx' hlt hi'=>hR m' _ h' nx' hlt ⟨_,_,_,_,rfl,hi'⟩
theorem F90.k8:IR.run F90.b8 C N (fnO F90.res K0) K (F90.fr a b c d e f) h nx =
 K0 (.bool false) h nx:=by kernel_rfl
theorem F86.zad (X2:IR) (C:Calls Prop) (N:Nat) (O:fQ Prop) (K:Ks Prop) (a b c d e f g j:AV) (h:T Blk) (nx:Pa):IR.run (F86.g1 X2) C N O K (F86.fr a b c d e f g j) h nx =
 IR.run X2 C N (O.blk 0 K) K (F86.fr a b c d e f g j) h nx:=by kernel_rfl
theorem F86.tab:T.get none (.of 86) tbl=some F86:=by kernel_rfl
theorem F86.go:zS tbl N C (.of 86) [a0] h nx K0 =
 sLen a0 λv1=>IR.run F86.b1 C N (fnO F86.res K0) (IR.run F86.b8 C N (fnO F86.res K0) (zo F86.res K0)) (F86.fr a0 (I 0) .u a0 v1 (I 0) .u .u) h nx:=by
 rw [jK F86.tab];kernel_rfl
theorem F86.e1:IR.run F86.b3 C N ((fnO F86.res K0).blk 0 K) R (F86.fr a b c d e f g j) h nx =
 ze .lss .int f e λv1=>yP v1 (zL 1 d f λv2=>zI v2 h λv3=>ze .neq .int v3 (I 0) λv4=>yP v4 (K0 v3 h nx) (ze .add .int f (I 1) λv5=>R (F86.fr a b v3 d e v5 v1 v4) h nx)) (K (F86.fr a b c d e f v1 j) h nx):=by kernel_rfl
theorem F86.L1 (Inv:Nat->AV->T Blk->Pa->Prop) {m:Nat} (hm:m<N) (hi:Inv m f h nx)
  (step:∀ (m:Nat) (z1 z2 z5 z6 z7:AV) (h:T Blk) (nx:Pa) (R:Ks Prop),Inv m z5 h nx->(∀ (m':Nat) (w1 w2 w5 w6 w7:AV) (h':T Blk) (nx':Pa),m'<m->Inv m' w5 h' nx'->R (F86.fr a w1 w2 d e w5 w6 w7) h' nx'=.ok True) ->
   (ze .lss .int z5 e λv1=>yP v1 (zL 1 d z5 λv2=>zI v2 h λv3=>ze .neq .int v3 (I 0) λv4=>yP v4 (K0 v3 h nx) (ze .add .int z5 (I 1) λv5=>R (F86.fr a z1 v3 d e v5 v1 v4) h nx)) (K (F86.fr a z1 z2 d e z5 v1 z7) h nx))=.ok True) :
  IR.run F86.b1 C N (fnO F86.res K0) K (F86.fr a b c d e f g j) h nx=.ok True:=by
 rw [F86.b1,F86.zad,F86.b2];refine yB (λm tm h nx=>∃ z1 z2 z5 z6 z7,tm=(F86.fr a z1 z2 d e z5 z6 z7)/\Inv m z5 h nx) ?_ hm ⟨_,_,_,_,_,rfl,hi⟩;rintro m tm h nx R ⟨z1,z2,z5,z6,z7,rfl,hi⟩ hR;rw [F86.e1];exact step m z1 z2 z5 z6 z7 h nx R hi λm' w1 w2 w5 w6 w7 h' nx' hlt hi'=>hR m' _ h' nx' hlt ⟨_,_,_,_,_,rfl,hi'⟩
theorem F86.k8:IR.run F86.b8 C N (fnO F86.res K0) K (F86.fr a b c d e f g j) h nx =
 K0 (I 0) h nx:=by kernel_rfl
theorem F88.tab:T.get none (.of 88) tbl=some F88:=by kernel_rfl
theorem F88.go:zS tbl N C (.of 88) [a0,a1] h nx K0 =
 yP a0 (K0 a1 h nx) (K0 (I 0) h nx):=by
 rw [jK F88.tab];kernel_rfl
theorem F16.eZ (X3:IR) (C:Calls Prop) (N:Nat) (O:fQ Prop) (K:Ks Prop) (a b c d e f g j q:AV) (h:T Blk) (nx:Pa):IR.run (F16.g2 X3) C N O K (F16.fr a b c d e f g j q) h nx =
 IR.run X3 C N (O.blk 0 K) K (F16.fr a b c d e f g j q) h nx:=by kernel_rfl
theorem F16.tab:T.get none (.of 16) tbl=some F16:=by kernel_rfl
theorem F16.go:zS tbl N C (.of 16) [a0,a1,a2] h nx K0 =
 wz a0 h nx λv1 h2 n3=>zK 1 v1 λv4=>zI v4 h2 λv5=>sLen v5 λv6=>ze .gtr .int v6 a2 λv7=>yP v7 (K0 (.bool false) h2 n3) (IR.run F16.b2 C N (fnO F16.res K0) (IR.run F16.b9 C N (fnO F16.res K0) (zo F16.res K0)) (F16.fr a0 a1 a2 v1 (.bool false) (I 0) v7 .u .u) h2 n3):=by
 rw [jK F16.tab];kernel_rfl
theorem F16.e2:IR.run F16.b4 C N ((fnO F16.res K0).blk 0 K) R (F16.fr a b c d e f g j q) h nx =
 zK 1 d λv1=>zI v1 h λv2=>sLen v2 λv3=>ze .lss .int f v3 λv4=>yP v4 (zK 1 d λv5=>zI v5 h λv6=>zL 1 v6 f λv7=>zI v7 h λv8=>sLen v8 λv9=>ze .gtr .int v9 b λvF=>yP vF (K0 (.bool false) h nx) (ze .add .int f (I 1) λvC=>R (F16.fr a b c d e vC g v4 vF) h nx)) (K (F16.fr a b c d e f g v4 q) h nx):=by kernel_rfl
theorem F16.L2 (Inv:Nat->AV->T Blk->Pa->Prop) {m:Nat} (hm:m<N) (hi:Inv m f h nx)
  (step:∀ (m:Nat) (z4 z5 z7 z8:AV) (h:T Blk) (nx:Pa) (R:Ks Prop),Inv m z5 h nx->(∀ (m':Nat) (w4 w5 w7 w8:AV) (h':T Blk) (nx':Pa),m'<m->Inv m' w5 h' nx'->R (F16.fr a b c d w4 w5 g w7 w8) h' nx'=.ok True) ->
   (zK 1 d λv1=>zI v1 h λv2=>sLen v2 λv3=>ze .lss .int z5 v3 λv4=>yP v4 (zK 1 d λv5=>zI v5 h λv6=>zL 1 v6 z5 λv7=>zI v7 h λv8=>sLen v8 λv9=>ze .gtr .int v9 b λvF=>yP vF (K0 (.bool false) h nx) (ze .add .int z5 (I 1) λvC=>R (F16.fr a b c d z4 vC g v4 vF) h nx)) (K (F16.fr a b c d z4 z5 g v4 z8) h nx))=.ok True) :
  IR.run F16.b2 C N (fnO F16.res K0) K (F16.fr a b c d e f g j q) h nx=.ok True:=by
 rw [F16.b2,F16.eZ,F16.b3];refine yB (λm tm h nx=>∃ z4 z5 z7 z8,tm=(F16.fr a b c d z4 z5 g z7 z8)/\Inv m z5 h nx) ?_ hm ⟨_,_,_,_,rfl,hi⟩;rintro m tm h nx R ⟨z4,z5,z7,z8,rfl,hi⟩ hR;rw [F16.e2];exact step m z4 z5 z7 z8 h nx R hi λm' w4 w5 w7 w8 h' nx' hlt hi'=>hR m' _ h' nx' hlt ⟨_,_,_,_,rfl,hi'⟩
theorem F16.k9:IR.run F16.b9 C N (fnO F16.res K0) K (F16.fr a b c d e f g j q) h nx =
 K0 (.bool true) h nx:=by kernel_rfl
theorem F19.zwl (X11:IR) (C:Calls Prop) (N:Nat) (O:fQ Prop) (K:Ks Prop) (a b c d e f g j q s i l p o:AV) (h:T Blk) (nx:Pa):IR.run (F19.g10 X11) C N O K (F19.fr a b c d e f g j q s i l p o) h nx =
 IR.run X11 C N (O.blk 2 K) K (F19.fr a b c d e f g j q s i l p o) h nx:=by kernel_rfl
theorem F19.zyw (X4:IR) (C:Calls Prop) (N:Nat) (O:fQ Prop) (K:Ks Prop) (a b c d e f g j q s i l p o:AV) (h:T Blk) (nx:Pa):IR.run (F19.g3 X4) C N O K (F19.fr a b c d e f g j q s i l p o) h nx =
 IR.run X4 C N (O.blk 0 K) K (F19.fr a b c d e f g j q s i l p o) h nx:=by kernel_rfl
theorem F19.tab:T.get none (.of 19) tbl=some F19:=by kernel_rfl
theorem F19.go:zS tbl N C (.of 19) [a0] h nx K0 =
 wz a0 h nx λv1 h2 n3=>zK 0 v1 λv4=>zI v4 h2 λv5=>ze .lss .int v5 (I 1) λv6=>sG v6 false (λk=>zK 0 v1 k) λv7=>sG v6 false (λk=>zI v7 h2 k) λv8=>sG v6 false (λk=>ze .gtr .int v8 (I 256) k) λv9=>yS v6 (.bool true) v9 λvF=>yP vF (K0 (I 3) h2 n3) (zK 1 v1 λvC=>zI vC h2 λvG=>sLen vG λvH=>ze .gtr .int vH (I 128) λvD=>yP vD (K0 (I 5) h2 n3) (IR.run F19.b3 C N (fnO F19.res K0) (IR.run F19.b20 C N (fnO F19.res K0) (zo F19.res K0)) (F19.fr a0 v1 (I 0) (I 0) .u .u vF vD .u .u .u .u .u .u) h2 n3)):=by
 rw [jK F19.tab];kernel_rfl
theorem F19.e3:IR.run F19.b5 C N ((fnO F19.res K0).blk 0 K) R (F19.fr a b c d e f g j q s i l p o) h nx =
 zK 1 b λv1=>zI v1 h λv2=>sLen v2 λv3=>ze .lss .int d v3 λv4=>yP v4 (zK 1 b λv5=>zI v5 h λv6=>zL 1 v6 d λv7=>zI v7 h λv8=>sLen v8 λv9=>ze .eql .int v9 (I 0) λvF=>yP vF (K0 (I 12) h nx) (IR.run F19.b10 C N (((fnO F19.res K0).blk 0 K).blk 1 (IR.run F19.b19 C N ((fnO F19.res K0).blk 0 K) R)) (IR.run F19.b18 C N (((fnO F19.res K0).blk 0 K).blk 1 (IR.run F19.b19 C N ((fnO F19.res K0).blk 0 K) R)) (IR.run F19.b19 C N ((fnO F19.res K0).blk 0 K) R)) (F19.fr a b c d v8 (I 0) g j v4 vF i l p o) h nx)) (K (F19.fr a b c d e f g j v4 s i l p o) h nx):=by kernel_rfl
theorem F19.L3 (Inv:Nat->AV->T Blk->Pa->Prop) {m:Nat} (hm:m<N) (hi:Inv m d h nx)
  (step:∀ (m:Nat) (z2 z3 z4 z5 z8 z9 zE zC zJ zA:AV) (h:T Blk) (nx:Pa) (R:Ks Prop),Inv m z3 h nx->(∀ (m':Nat) (w2 w3 w4 w5 w8 w9 wE wC wH wA:AV) (h':T Blk) (nx':Pa),m'<m->Inv m' w3 h' nx'->R (F19.fr a b w2 w3 w4 w5 g j w8 w9 wE wC wH wA) h' nx'=.ok True) ->
   (zK 1 b λv1=>zI v1 h λv2=>sLen v2 λv3=>ze .lss .int z3 v3 λv4=>yP v4 (zK 1 b λv5=>zI v5 h λv6=>zL 1 v6 z3 λv7=>zI v7 h λv8=>sLen v8 λv9=>ze .eql .int v9 (I 0) λvF=>yP vF (K0 (I 12) h nx) (IR.run F19.b10 C N (((fnO F19.res K0).blk 0 K).blk 1 (IR.run F19.b19 C N ((fnO F19.res K0).blk 0 K) R)) (IR.run F19.b18 C N (((fnO F19.res K0).blk 0 K).blk 1 (IR.run F19.b19 C N ((fnO F19.res K0).blk 0 K) R)) (IR.run F19.b19 C N ((fnO F19.res K0).blk 0 K) R)) (F19.fr a b z2 z3 v8 (I 0) g j v4 vF zE zC zJ zA) h nx)) (K (F19.fr a b z2 z3 z4 z5 g j v4 z9 zE zC zJ zA) h nx))=.ok True) :
  IR.run F19.b3 C N (fnO F19.res K0) K (F19.fr a b c d e f g j q s i l p o) h nx=.ok True:=by
 rw [F19.b3,F19.zyw,F19.b4];refine yB (λm tm h nx=>∃ z2 z3 z4 z5 z8 z9 zE zC zJ zA,tm=(F19.fr a b z2 z3 z4 z5 g j z8 z9 zE zC zJ zA)/\Inv m z3 h nx) ?_ hm ⟨_,_,_,_,_,_,_,_,_,_,rfl,hi⟩;rintro m tm h nx R ⟨z2,z3,z4,z5,z8,z9,zE,zC,zJ,zA,rfl,hi⟩ hR;rw [F19.e3];exact step m z2 z3 z4 z5 z8 z9 zE zC zJ zA h nx R hi λm' w2 w3 w4 w5 w8 w9 wE wC wH wA h' nx' hlt hi'=>hR m' _ h' nx' hlt ⟨_,_,_,_,_,_,_,_,_,_,rfl,hi'⟩
theorem F19.k20:IR.run F19.b20 C N (fnO F19.res K0) K (F19.fr a b c d e f g j q s i l p o) h nx =
 K0 (I 0) h nx:=by kernel_rfl
theorem F19.k19 {E0:Ks Prop}:IR.run F19.b19 C N ((fnO F19.res K0).blk 0 E0) K (F19.fr a b c d e f g j q s i l p o) h nx =
 ze .add .int d (I 1) λv1=>K (F19.fr a b c v1 e f g j q s i l p o) h nx:=by kernel_rfl
theorem F19.e10 {E0 E1:Ks Prop}:IR.run F19.b12 C N ((((fnO F19.res K0).blk 0 E0).blk 1 E1).blk 2 K) R (F19.fr a b c d e f g j q s i l p o) h nx =
 sLen e λv1=>ze .lss .int f v1 λv2=>yP v2 (zL 1 e f λv3=>zI v3 h λv4=>ze .lss .int v4 (I 0) λv5=>sG v5 false (λk=>k e) λv6=>sG v5 false (λk=>k f) λv7=>sG v5 false (λk=>zL 1 v6 v7 k) λv8=>sG v5 false (λk=>zI v8 h k) λv9=>sG v5 false (λk=>zK 0 b k) λvF=>sG v5 false (λk=>zI vF h k) λvC=>sG v5 false (λk=>ze .geq .int v9 vC k) λvG=>yS v5 (.bool true) vG λvH=>yP vH (K0 (I 10) h nx) ((IR.run F19.b16 C N (((((fnO F19.res K0).blk 0 E0).blk 1 E1).blk 2 K).blk 3 (IR.run F19.b17 C N ((((fnO F19.res K0).blk 0 E0).blk 1 E1).blk 2 K) R)) (IR.run F19.b17 C N ((((fnO F19.res K0).blk 0 E0).blk 1 E1).blk 2 K) R)) (F19.fr a b c d e f g j q s v2 vH p o) h nx)) (K (F19.fr a b c d e f g j q s v2 l p o) h nx):=by kernel_rfl
theorem F19.L10 {E0 E1:Ks Prop} (Inv:Nat->AV->T Blk->Pa->Prop) {m:Nat} (hm:m<N) (hi:Inv m f h nx)
  (step:∀ (m:Nat) (z2 z5 zE zC zJ:AV) (h:T Blk) (nx:Pa) (R:Ks Prop),Inv m z5 h nx->(∀ (m':Nat) (w2 w5 wE wC wH:AV) (h':T Blk) (nx':Pa),m'<m->Inv m' w5 h' nx'->R (F19.fr a b w2 d e w5 g j q s wE wC wH o) h' nx'=.ok True) ->
   (sLen e λv1=>ze .lss .int z5 v1 λv2=>yP v2 (zL 1 e z5 λv3=>zI v3 h λv4=>ze .lss .int v4 (I 0) λv5=>sG v5 false (λk=>k e) λv6=>sG v5 false (λk=>k z5) λv7=>sG v5 false (λk=>zL 1 v6 v7 k) λv8=>sG v5 false (λk=>zI v8 h k) λv9=>sG v5 false (λk=>zK 0 b k) λvF=>sG v5 false (λk=>zI vF h k) λvC=>sG v5 false (λk=>ze .geq .int v9 vC k) λvG=>yS v5 (.bool true) vG λvH=>yP vH (K0 (I 10) h nx) ((IR.run F19.b16 C N (((((fnO F19.res K0).blk 0 E0).blk 1 E1).blk 2 K).blk 3 (IR.run F19.b17 C N ((((fnO F19.res K0).blk 0 E0).blk 1 E1).blk 2 K) R)) (IR.run F19.b17 C N ((((fnO F19.res K0).blk 0 E0).blk 1 E1).blk 2 K) R)) (F19.fr a b z2 d e z5 g j q s v2 vH zJ o) h nx)) (K (F19.fr a b z2 d e z5 g j q s v2 zC zJ o) h nx))=.ok True) :
  IR.run F19.b10 C N (((fnO F19.res K0).blk 0 E0).blk 1 E1) K (F19.fr a b c d e f g j q s i l p o) h nx=.ok True:=by
 rw [F19.b10,F19.zwl,F19.b11];refine yB (λm tm h nx=>∃ z2 z5 zE zC zJ,tm=(F19.fr a b z2 d e z5 g j q s zE zC zJ o)/\Inv m z5 h nx) ?_ hm ⟨_,_,_,_,_,rfl,hi⟩;rintro m tm h nx R ⟨z2,z5,zE,zC,zJ,rfl,hi⟩ hR;rw [F19.e10];exact step m z2 z5 zE zC zJ h nx R hi λm' w2 w5 wE wC wH h' nx' hlt hi'=>hR m' _ h' nx' hlt ⟨_,_,_,_,_,rfl,hi'⟩
theorem F19.k18 {E0 E1:Ks Prop}:IR.run F19.b18 C N (((fnO F19.res K0).blk 0 E0).blk 1 E1) K (F19.fr a b c d e f g j q s i l p o) h nx =
 zK 1 b λv1=>zI v1 h λv2=>wV 1 v2 none (some d) none λv3=>C.fn 90 (.of 90) [v3,e] h nx λv4 h5 n6=>yP v4 (K0 (I 9) h5 n6) (K (F19.fr a b c d e f g j q s i l p v4) h5 n6):=by kernel_rfl
theorem F19.k17 {E0 E1 E2:Ks Prop}:IR.run F19.b17 C N ((((fnO F19.res K0).blk 0 E0).blk 1 E1).blk 2 E2) K (F19.fr a b c d e f g j q s i l p o) h nx =
 ze .add .int f (I 1) λv1=>K (F19.fr a b c d e v1 g j q s i l p o) h nx:=by kernel_rfl
theorem F19.k16 {E0 E1 E2 E3:Ks Prop}:IR.run F19.b16 C N (((((fnO F19.res K0).blk 0 E0).blk 1 E1).blk 2 E2).blk 3 E3) K (F19.fr a b c d e f g j q s i l p o) h nx =
 ze .gtr .int f (I 0) λv1=>sG v1 true (λk=>k e) λv2=>sG v1 true (λk=>k f) λv3=>sG v1 true (λk=>zL 1 v2 v3 k) λv4=>sG v1 true (λk=>zI v4 h k) λv5=>sG v1 true (λk=>k e) λv6=>sG v1 true (λk=>k f) λv7=>sG v1 true (λk=>ze .sub .int v7 (I 1) k) λv8=>sG v1 true (λk=>zL 1 v6 v8 k) λv9=>sG v1 true (λk=>zI v9 h k) λvF=>sG v1 true (λk=>ze .leq .int v5 vF k) λvC=>yS v1 vC (.bool false) λvG=>yP vG (K0 (I 11) h nx) (K (F19.fr a b c d e f g j q s i l vG o) h nx):=by kernel_rfl
theorem F87.tab:T.get none (.of 87) tbl=some F87:=by kernel_rfl
theorem F87.go:zS tbl N C (.of 87) [a0,a1,a2] h nx K0 =
 wz a0 h nx λv1 h2 n3=>wz a1 h2 n3 λv4 h5 n6=>C.fn 173 (.of 173) [a2,(.fn 174 (.of 174) [v1,v4])] h5 n6 λv7 h8 n9=>C.fn 88 (.of 88) [v7,(I 3)] h8 n9 λvF hB nC=>K0 vF hB nC:=by
 rw [jK F87.tab];kernel_rfl
theorem aU.tab:T.get none (.of 174) tbl=some aU:=by kernel_rfl
theorem aU.go:zS tbl N C (.of 174) [a0,a1,a2] h nx K0 =
 zI a1 h λv1=>ze .lss .int a0 v1 λv2=>sG v2 false (λk=>k a0) λv3=>sG v2 false (λk=>zI a2 h k) λv4=>sG v2 false (λk=>ze .gtr .int v3 v4 k) λv5=>yS v2 (.bool true) v5 λv6=>K0 v6 h nx:=by
 rw [jK aU.tab];kernel_rfl
theorem aV.tab:T.get none (.of 173) tbl=some aV:=by kernel_rfl
theorem aV.go:zS tbl N C (.of 173) [a0,a1] h nx K0 =
 C.fn 184 (.of 184) [a0,a1] h nx λv1 h2 n3=>ze .geq .int v1 (I 0) λv4=>K0 v4 h2 n3:=by
 rw [jK aV.tab];kernel_rfl
theorem xw.zad (X2:IR) (C:Calls Prop) (N:Nat) (O:fQ Prop) (K:Ks Prop) (a b c d e f g j:AV) (h:T Blk) (nx:Pa):IR.run (xw.g1 X2) C N O K (xw.fr a b c d e f g j) h nx =
 IR.run X2 C N (O.blk 0 K) K (xw.fr a b c d e f g j) h nx:=by kernel_rfl
theorem xw.tab:T.get none (.of 184) tbl=some xw:=by kernel_rfl
theorem xw.go:zS tbl N C (.of 184) [a0,a1] h nx K0 =
 sLen a0 λv1=>IR.run xw.b1 C N (fnO xw.res K0) (IR.run xw.b8 C N (fnO xw.res K0) (zo xw.res K0)) (xw.fr a0 a1 (I 0) .u v1 (I 0) .u .u) h nx:=by
 rw [jK xw.tab];kernel_rfl
theorem xw.e1:IR.run xw.b3 C N ((fnO xw.res K0).blk 0 K) R (xw.fr a b c d e f g j) h nx =
 ze .lss .int f e λv1=>yP v1 (zL 1 a f λv2=>zI v2 h λv3=>zae C b [v3] h nx λv4 h5 n6=>yP v4 (K0 f h5 n6) (ze .add .int f (I 1) λv7=>R (xw.fr a b c f e v7 v1 v4) h5 n6)) (K (xw.fr a b c d e f v1 j) h nx):=by kernel_rfl
theorem xw.L1 (Inv:Nat->AV->T Blk->Pa->Prop) {m:Nat} (hm:m<N) (hi:Inv m f h nx)
  (step:∀ (m:Nat) (z2 z3 z5 z6 z7:AV) (h:T Blk) (nx:Pa) (R:Ks Prop),Inv m z5 h nx->(∀ (m':Nat) (w2 w3 w5 w6 w7:AV) (h':T Blk) (nx':Pa),m'<m->Inv m' w5 h' nx'->R (xw.fr a b w2 w3 e w5 w6 w7) h' nx'=.ok True) ->
   (ze .lss .int z5 e λv1=>yP v1 (zL 1 a z5 λv2=>zI v2 h λv3=>zae C b [v3] h nx λv4 h5 n6=>yP v4 (K0 z5 h5 n6) (ze .add .int z5 (I 1) λv7=>R (xw.fr a b z2 z5 e v7 v1 v4) h5 n6)) (K (xw.fr a b z2 z3 e z5 v1 z7) h nx))=.ok True) :
  IR.run xw.b1 C N (fnO xw.res K0) K (xw.fr a b c d e f g j) h nx=.ok True:=by
 rw [xw.b1,xw.zad,xw.b2];refine yB (λm tm h nx=>∃ z2 z3 z5 z6 z7,tm=(xw.fr a b z2 z3 e z5 z6 z7)/\Inv m z5 h nx) ?_ hm ⟨_,_,_,_,_,rfl,hi⟩;rintro m tm h nx R ⟨z2,z3,z5,z6,z7,rfl,hi⟩ hR;rw [xw.e1];exact step m z2 z3 z5 z6 z7 h nx R hi λm' w2 w3 w5 w6 w7 h' nx' hlt hi'=>hR m' _ h' nx' hlt ⟨_,_,_,_,_,rfl,hi'⟩
theorem xw.k8:IR.run xw.b8 C N (fnO xw.res K0) K (xw.fr a b c d e f g j) h nx =
 K0 (I (-1)) h nx:=by kernel_rfl
theorem F18.eZ (X3:IR) (C:Calls Prop) (N:Nat) (O:fQ Prop) (K:Ks Prop) (a b c d e f g j q s i:AV) (h:T Blk) (nx:Pa):IR.run (F18.g2 X3) C N O K (F18.fr a b c d e f g j q s i) h nx =
 IR.run X3 C N (O.blk 0 K) K (F18.fr a b c d e f g j q s i) h nx:=by kernel_rfl
theorem F18.tab:T.get none (.of 18) tbl=some F18:=by kernel_rfl
theorem F18.go:zS tbl N C (.of 18) [a0] h nx K0 =
 wz a0 h nx λv1 h2 n3=>zK 0 v1 λv4=>zI v4 h2 λv5=>zK 1 v1 λv6=>zI v6 h2 λv7=>sLen v7 λv8=>ze .gtr .int v8 (I 128) λv9=>jI 1 1 [(I 0)] [(0,1,v5)] h2 n3 λvF hB nC=>(ze .gtr .int v8 (I 128) λvX=>zQ vX v9 ((sLen v7 λvY=>zQ vY v8 ((zI v6 hB λv34=>zQ v34 v7 ((zK 1 v1 λv33=>zQ v33 v6 (C.fn 87 (.of 87) [(I 1),(I 256),vF] hB nC λvH hG nH=>(ze .gtr .int v8 (I 128) λv32=>zQ v32 v9 ((sLen v7 λv31=>zQ v31 v8 ((zI v6 hG λv30=>zQ v30 v7 ((zK 1 v1 λv29=>zQ v29 v6 (C.fn 88 (.of 88) [v9,(I 5)] hG nH λvB hJ nK=>jI 1 2 [(I 0)] [(0,1,vH),(1,1,vB)] hJ nK λvZ hK nL=>C.fn 86 (.of 86) [vZ] hK nL λvK hL nM=>ze .neq .int vK (I 0) λv25=>yP v25 (K0 vK hL nM) (zK 1 v1 λv26=>zI v26 hL λv27=>sLen v27 λv28=>IR.run F18.b2 C N (fnO F18.res K0) (IR.run F18.b9 C N (fnO F18.res K0) (zo F18.res K0)) (F18.fr a0 v1 (I 0) vK .u .u v25 v28 (I 0) .u .u) hL nM))))))))))))))))):=by
 rw [jK F18.tab];kernel_rfl
theorem F18.e2:IR.run F18.b4 C N ((fnO F18.res K0).blk 0 K) R (F18.fr a b c d e f g j q s i) h nx =
 ze .lss .int q j λv1=>yP v1 (zF 2 b h λv2=>C.fn 89 (.of 89) [v2,q] h nx λv3 h4 n5=>ze .neq .int v3 (I 0) λv6=>yP v6 (K0 v3 h4 n5) (ze .add .int q (I 1) λv7=>R (F18.fr a b c d q v3 g j v7 v1 v6) h4 n5)) (K (F18.fr a b c d e f g j q v1 i) h nx):=by kernel_rfl
theorem F18.L2 (Inv:Nat->AV->T Blk->Pa->Prop) {m:Nat} (hm:m<N) (hi:Inv m q h nx)
  (step:∀ (m:Nat) (z2 z4 z5 z8 z9 zE:AV) (h:T Blk) (nx:Pa) (R:Ks Prop),Inv m z8 h nx->(∀ (m':Nat) (w2 w4 w5 w8 w9 wE:AV) (h':T Blk) (nx':Pa),m'<m->Inv m' w8 h' nx'->R (F18.fr a b w2 d w4 w5 g j w8 w9 wE) h' nx'=.ok True) ->
   (ze .lss .int z8 j λv1=>yP v1 (zF 2 b h λv2=>C.fn 89 (.of 89) [v2,z8] h nx λv3 h4 n5=>ze .neq .int v3 (I 0) λv6=>yP v6 (K0 v3 h4 n5) (ze .add .int z8 (I 1) λv7=>R (F18.fr a b z2 d z8 v3 g j v7 v1 v6) h4 n5)) (K (F18.fr a b z2 d z4 z5 g j z8 v1 zE) h nx))=.ok True) :
  IR.run F18.b2 C N (fnO F18.res K0) K (F18.fr a b c d e f g j q s i) h nx=.ok True:=by
 rw [F18.b2,F18.eZ,F18.b3];refine yB (λm tm h nx=>∃ z2 z4 z5 z8 z9 zE,tm=(F18.fr a b z2 d z4 z5 g j z8 z9 zE)/\Inv m z8 h nx) ?_ hm ⟨_,_,_,_,_,_,rfl,hi⟩;rintro m tm h nx R ⟨z2,z4,z5,z8,z9,zE,rfl,hi⟩ hR;rw [F18.e2];exact step m z2 z4 z5 z8 z9 zE h nx R hi λm' w2 w4 w5 w8 w9 wE h' nx' hlt hi'=>hR m' _ h' nx' hlt ⟨_,_,_,_,_,_,rfl,hi'⟩
theorem F18.k9:IR.run F18.b9 C N (fnO F18.res K0) K (F18.fr a b c d e f g j q s i) h nx =
 K0 (I 0) h nx:=by kernel_rfl
theorem F89.eZ (X3:IR) (C:Calls Prop) (N:Nat) (O:fQ Prop) (K:Ks Prop) (a b c d e f g j q s i l p o:AV) (h:T Blk) (nx:Pa):IR.run (F89.g2 X3) C N O K (F89.fr a b c d e f g j q s i l p o) h nx =
 IR.run X3 C N (O.blk 0 K) K (F89.fr a b c d e f g j q s i l p o) h nx:=by kernel_rfl
theorem F89.tab:T.get none (.of 89) tbl=some F89:=by kernel_rfl
theorem F89.go:zS tbl N C (.of 89) [a0,a1] h nx K0 =
 wz a0 h nx λv1 h2 n3=>zK 1 v1 λv4=>zI v4 h2 λv5=>zL 1 v5 a1 λv6=>zI v6 h2 λv7=>yN [.za] h2 n3 λv8 h9 nA=>zX 1 v8 v7 h9 nA λvC hA nB=>zI v8 hA λvD=>sLen vD λvE=>ze .eql .int vE (I 0) λvB=>yP vB (K0 (I 12) hA nB) (zI v8 hA λvA=>sLen vA λvM=>IR.run F89.b2 C N (fnO F89.res K0) (IR.run F89.b9 C N (fnO F89.res K0) (zo F89.res K0)) (F89.fr a0 a1 v1 (I 0) v8 .u .u .u vB vA vM (I 0) .u .u) hA nB):=by
 rw [jK F89.tab];kernel_rfl
theorem F89.e2:IR.run F89.b4 C N ((fnO F89.res K0).blk 0 K) R (F89.fr a b c d e f g j q s i l p o) h nx =
 ze .lss .int l i λv1=>yP v1 (zL 1 s l λv2=>zI v2 h λv3=>ze .lss .int v3 (I 0) λv4=>sG v4 false (λk=>k v3) λv5=>sG v4 false (λk=>zK 0 c k) λv6=>sG v4 false (λk=>zI v6 h k) λv7=>sG v4 false (λk=>ze .geq .int v5 v7 k) λv8=>yS v4 (.bool true) v8 λv9=>C.fn 88 (.of 88) [v9,(I 10)] h nx λvF hB nC=>ze .gtr .int l (I 0) λvH=>sG vH true (λk=>zI e hB k) λvD=>sG vH true (λk=>k l) λvE=>sG vH true (λk=>ze .sub .int vE (I 1) k) λvB=>sG vH true (λk=>zL 1 vD vB k) λvA=>sG vH true (λk=>zI vA hB k) λvM=>sG vH true (λk=>k v3) λvZ=>sG vH true (λk=>ze .geq .int vM vZ k) λv20=>yS vH v20 (.bool false) λvL=>C.fn 88 (.of 88) [vL,(I 11)] hB nC λvK hL nM=>jI 1 2 [(I 0)] [(0,1,vF),(1,1,vK)] hL nM λv25 hM nN=>C.fn 86 (.of 86) [v25] hM nN λv28 hN nO=>ze .neq .int v28 (I 0) λv31=>yP v31 (K0 v28 hN nO) (ze .add .int l (I 1) λv32=>R (F89.fr a b c d e l v3 v28 q s i v32 v1 v31) hN nO)) (K (F89.fr a b c d e f g j q s i l v1 o) h nx):=by kernel_rfl
theorem F89.L2 (Inv:Nat->AV->T Blk->Pa->Prop) {m:Nat} (hm:m<N) (hi:Inv m l h nx)
  (step:∀ (m:Nat) (z3 z5 z6 z7 zC zJ zA:AV) (h:T Blk) (nx:Pa) (R:Ks Prop),Inv m zC h nx->(∀ (m':Nat) (w3 w5 w6 w7 wC wH wA:AV) (h':T Blk) (nx':Pa),m'<m->Inv m' wC h' nx'->R (F89.fr a b c w3 e w5 w6 w7 q s i wC wH wA) h' nx'=.ok True) ->
   (ze .lss .int zC i λv1=>yP v1 (zL 1 s zC λv2=>zI v2 h λv3=>ze .lss .int v3 (I 0) λv4=>sG v4 false (λk=>k v3) λv5=>sG v4 false (λk=>zK 0 c k) λv6=>sG v4 false (λk=>zI v6 h k) λv7=>sG v4 false (λk=>ze .geq .int v5 v7 k) λv8=>yS v4 (.bool true) v8 λv9=>C.fn 88 (.of 88) [v9,(I 10)] h nx λvF hB nC=>ze .gtr .int zC (I 0) λvH=>sG vH true (λk=>zI e hB k) λvD=>sG vH true (λk=>k zC) λvE=>sG vH true (λk=>ze .sub .int vE (I 1) k) λvB=>sG vH true (λk=>zL 1 vD vB k) λvA=>sG vH true (λk=>zI vA hB k) λvM=>sG vH true (λk=>k v3) λvZ=>sG vH true (λk=>ze .geq .int vM vZ k) λv20=>yS vH v20 (.bool false) λvL=>C.fn 88 (.of 88) [vL,(I 11)] hB nC λvK hL nM=>jI 1 2 [(I 0)] [(0,1,vF),(1,1,vK)] hL nM λv25 hM nN=>C.fn 86 (.of 86) [v25] hM nN λv28 hN nO=>ze .neq .int v28 (I 0) λv31=>yP v31 (K0 v28 hN nO) (ze .add .int zC (I 1) λv32=>R (F89.fr a b c z3 e zC v3 v28 q s i v32 v1 v31) hN nO)) (K (F89.fr a b c z3 e z5 z6 z7 q s i zC v1 zA) h nx))=.ok True) :
  IR.run F89.b2 C N (fnO F89.res K0) K (F89.fr a b c d e f g j q s i l p o) h nx=.ok True:=by
 rw [F89.b2,F89.eZ,F89.b3];refine yB (λm tm h nx=>∃ z3 z5 z6 z7 zC zJ zA,tm=(F89.fr a b c z3 e z5 z6 z7 q s i zC zJ zA)/\Inv m zC h nx) ?_ hm ⟨_,_,_,_,_,_,_,rfl,hi⟩;rintro m tm h nx R ⟨z3,z5,z6,z7,zC,zJ,zA,rfl,hi⟩ hR;rw [F89.e2];exact step m z3 z5 z6 z7 zC zJ zA h nx R hi λm' w3 w5 w6 w7 wC wH wA h' nx' hlt hi'=>hR m' _ h' nx' hlt ⟨_,_,_,_,_,_,_,rfl,hi'⟩
theorem F89.k9:IR.run F89.b9 C N (fnO F89.res K0) K (F89.fr a b c d e f g j q s i l p o) h nx =
 zK 1 c λv1=>zI v1 h λv2=>wV 1 v2 none (some b) none λv3=>C.fn 175 (.of 175) [v3,(.fn 176 (.of 176) [e])] h nx λv4 h5 n6=>C.fn 88 (.of 88) [v4,(I 9)] h5 n6 λv7 h8 n9=>K0 v7 h8 n9:=by kernel_rfl
end
end Go.Ev
