import Derived.Test.YtfgpjkchdelphaaGreatDoorIrT
import Derived.Test.YtfgpjkchdelphaaGreatDoorEvD
import Derived.KernelRfl
set_option linter.unusedSimpArgs false
set_option linter.unusedVariables false
namespace Go.Ev
open Go Go.Proofs
set_option maxRecDepth 100000
section
variable {N:Nat} {C:Calls Prop} {K0:Kw Prop} {K:Ks Prop} {h:T Blk} {nx:Pa} {b f g j l p o w y z a d e c i s q u v a0 a1 s0 s1 s2 s3 s4 s5 s6 s7 s8 s9 s10 s11 s12 s13 s14 s15 s16 s17 s18 s19 s20 s21 s22 s23 s24 s25 s26 s27 s28 s29 s30 s31 s32 s33 s34 s35 s36 s37 s38 s39 s40 s41 s42 s43 s44 s45 s46 s47 s48 s49 s50 s51 s52 s53 s54 s55 s56 s57 s58 s59 A B D E G M P H L a2:AV} {O:fD Prop} {tm:T AV} {Kt:KTm} {r:List RO} {sT:List AV}
theorem zf.zw:IR.run zf.t0 C N O K (zf.fr b f g j l p o w y z a d e c i s q u v) h nx =
 sLen b λv1=>K (zf.fr b f v1 j l p o w y z a d e c i s q u v) h nx:=by kernel_rfl
theorem zf.zu:IR.run zf.t1 C N O K (zf.fr b f g j l p o w y z a d e c i s q u v) h nx =
 zb .geq .int g (I 8) λv1=>K (zf.fr b f g j l p o w y z a d e c i v1 q u v) h nx:=by kernel_rfl
theorem zf.v15:Arg.ev (.t (.of 15)) ⟨(zf.fr b f g j l p o w y z a d e c i s q u v),[]⟩=s:=by kernel_rfl
theorem zf.fG:IR.run zf.t4 C N O K (zf.fr b f g j l p o w y z a d e c i s q u v) h nx =
 zb .rem .int f (.int .u64 100000000) λv1=>kI .u32 v1 λv2=>K (zf.fr b f g v2 l p o w y z a d e c i s q u v) h nx:=by kernel_rfl
theorem zf.ny:IR.run zf.t5 C N O K (zf.fr b f g j l p o w y z a d e c i s q u v) h nx =
 zb .quo .int f (.int .u64 100000000) λv1=>K (zf.fr b v1 g j l p o w y z a d e c i s q u v) h nx:=by kernel_rfl
theorem zf.ku:IR.run zf.t6 C N O K (zf.fr b f g j l p o w y z a d e c i s q u v) h nx =
 zb .quo .int j (.int .u32 10000) λv1=>zb .rem .int j (.int .u32 10000) λv2=>K (zf.fr b f g j v1 v2 o w y z a d e c i s q u v) h nx:=by kernel_rfl
theorem zf.fe:IR.run zf.t7 C N O K (zf.fr b f g j l p o w y z a d e c i s q u v) h nx =
 zb .quo .int p (.int .u32 100) λv1=>zb .mul .int v1 (.int .u32 2) λv2=>zb .rem .int p (.int .u32 100) λv3=>zb .mul .int v3 (.int .u32 2) λv4=>K (zf.fr b f g j l p v2 v4 y z a d e c i s q u v) h nx:=by kernel_rfl
theorem zf.fE:IR.run zf.t8 C N O K (zf.fr b f g j l p o w y z a d e c i s q u v) h nx =
 zb .quo .int l (.int .u32 100) λv1=>zb .mul .int v1 (.int .u32 2) λv2=>zb .rem .int l (.int .u32 100) λv3=>zb .mul .int v3 (.int .u32 2) λv4=>K (zf.fr b f g j l p o w v2 v4 a d e c i s q u v) h nx:=by kernel_rfl
theorem zf.nP:IR.run zf.t9 C N O K (zf.fr b f g j l p o w y z a d e c i s q u v) h nx =
 zb .sub .int g (I 1) λv1=>zb .sub .int g (I 2) λv2=>zb .add .int w (.int .u32 1) λv3=>j0 (.str [48,48,48,49,48,50,48,51,48,52,48,53,48,54,48,55,48,56,48,57,49,48,49,49,49,50,49,51,49,52,49,53,49,54,49,55,49,56,49,57,50,48,50,49,50,50,50,51,50,52,50,53,50,54,50,55,50,56,50,57,51,48,51,49,51,50,51,51,51,52,51,53,51,54,51,55,51,56,51,57,52,48,52,49,52,50,52,51,52,52,52,53,52,54,52,55,52,56,52,57,53,48,53,49,53,50,53,51,53,52,53,53,53,54,53,55,53,56,53,57,54,48,54,49,54,50,54,51,54,52,54,53,54,54,54,55,54,56,54,57,55,48,55,49,55,50,55,51,55,52,55,53,55,54,55,55,55,56,55,57,56,48,56,49,56,50,56,51,56,52,56,53,56,54,56,55,56,56,56,57,57,48,57,49,57,50,57,51,57,52,57,53,57,54,57,55,57,56,57,57]) v3 λv4=>j0 (.str [48,48,48,49,48,50,48,51,48,52,48,53,48,54,48,55,48,56,48,57,49,48,49,49,49,50,49,51,49,52,49,53,49,54,49,55,49,56,49,57,50,48,50,49,50,50,50,51,50,52,50,53,50,54,50,55,50,56,50,57,51,48,51,49,51,50,51,51,51,52,51,53,51,54,51,55,51,56,51,57,52,48,52,49,52,50,52,51,52,52,52,53,52,54,52,55,52,56,52,57,53,48,53,49,53,50,53,51,53,52,53,53,53,54,53,55,53,56,53,57,54,48,54,49,54,50,54,51,54,52,54,53,54,54,54,55,54,56,54,57,55,48,55,49,55,50,55,51,55,52,55,53,55,54,55,55,55,56,55,57,56,48,56,49,56,50,56,51,56,52,56,53,56,54,56,55,56,56,56,57,57,48,57,49,57,50,57,51,57,52,57,53,57,54,57,55,57,56,57,57]) w λv5=>zK 1 b v1 λv6=>zS 1 v6 v4 h nx λv7 h8 n9=>(j0 (.str [48,48,48,49,48,50,48,51,48,52,48,53,48,54,48,55,48,56,48,57,49,48,49,49,49,50,49,51,49,52,49,53,49,54,49,55,49,56,49,57,50,48,50,49,50,50,50,51,50,52,50,53,50,54,50,55,50,56,50,57,51,48,51,49,51,50,51,51,51,52,51,53,51,54,51,55,51,56,51,57,52,48,52,49,52,50,52,51,52,52,52,53,52,54,52,55,52,56,52,57,53,48,53,49,53,50,53,51,53,52,53,53,53,54,53,55,53,56,53,57,54,48,54,49,54,50,54,51,54,52,54,53,54,54,54,55,54,56,54,57,55,48,55,49,55,50,55,51,55,52,55,53,55,54,55,55,55,56,55,57,56,48,56,49,56,50,56,51,56,52,56,53,56,54,56,55,56,56,56,57,57,48,57,49,57,50,57,51,57,52,57,53,57,54,57,55,57,56,57,57]) w λvA=>zO vA v5 (zO w w ((zb .sub .int g (I 2) λvB=>zO vB v2 (zO g g (zO b b (zK 1 b v2 λvC=>zS 1 vC v5 h8 n9 λvD hA nA=>K (zf.fr b f g j l p o w y z a d e c i s q u v) hA nA))))))):=by kernel_rfl
theorem zf.nX:IR.run zf.t10 C N O K (zf.fr b f g j l p o w y z a d e c i s q u v) h nx =
 zb .sub .int g (I 3) λv1=>zb .sub .int g (I 4) λv2=>zb .add .int o (.int .u32 1) λv3=>j0 (.str [48,48,48,49,48,50,48,51,48,52,48,53,48,54,48,55,48,56,48,57,49,48,49,49,49,50,49,51,49,52,49,53,49,54,49,55,49,56,49,57,50,48,50,49,50,50,50,51,50,52,50,53,50,54,50,55,50,56,50,57,51,48,51,49,51,50,51,51,51,52,51,53,51,54,51,55,51,56,51,57,52,48,52,49,52,50,52,51,52,52,52,53,52,54,52,55,52,56,52,57,53,48,53,49,53,50,53,51,53,52,53,53,53,54,53,55,53,56,53,57,54,48,54,49,54,50,54,51,54,52,54,53,54,54,54,55,54,56,54,57,55,48,55,49,55,50,55,51,55,52,55,53,55,54,55,55,55,56,55,57,56,48,56,49,56,50,56,51,56,52,56,53,56,54,56,55,56,56,56,57,57,48,57,49,57,50,57,51,57,52,57,53,57,54,57,55,57,56,57,57]) v3 λv4=>j0 (.str [48,48,48,49,48,50,48,51,48,52,48,53,48,54,48,55,48,56,48,57,49,48,49,49,49,50,49,51,49,52,49,53,49,54,49,55,49,56,49,57,50,48,50,49,50,50,50,51,50,52,50,53,50,54,50,55,50,56,50,57,51,48,51,49,51,50,51,51,51,52,51,53,51,54,51,55,51,56,51,57,52,48,52,49,52,50,52,51,52,52,52,53,52,54,52,55,52,56,52,57,53,48,53,49,53,50,53,51,53,52,53,53,53,54,53,55,53,56,53,57,54,48,54,49,54,50,54,51,54,52,54,53,54,54,54,55,54,56,54,57,55,48,55,49,55,50,55,51,55,52,55,53,55,54,55,55,55,56,55,57,56,48,56,49,56,50,56,51,56,52,56,53,56,54,56,55,56,56,56,57,57,48,57,49,57,50,57,51,57,52,57,53,57,54,57,55,57,56,57,57]) o λv5=>zK 1 b v1 λv6=>zS 1 v6 v4 h nx λv7 h8 n9=>(j0 (.str [48,48,48,49,48,50,48,51,48,52,48,53,48,54,48,55,48,56,48,57,49,48,49,49,49,50,49,51,49,52,49,53,49,54,49,55,49,56,49,57,50,48,50,49,50,50,50,51,50,52,50,53,50,54,50,55,50,56,50,57,51,48,51,49,51,50,51,51,51,52,51,53,51,54,51,55,51,56,51,57,52,48,52,49,52,50,52,51,52,52,52,53,52,54,52,55,52,56,52,57,53,48,53,49,53,50,53,51,53,52,53,53,53,54,53,55,53,56,53,57,54,48,54,49,54,50,54,51,54,52,54,53,54,54,54,55,54,56,54,57,55,48,55,49,55,50,55,51,55,52,55,53,55,54,55,55,55,56,55,57,56,48,56,49,56,50,56,51,56,52,56,53,56,54,56,55,56,56,56,57,57,48,57,49,57,50,57,51,57,52,57,53,57,54,57,55,57,56,57,57]) o λvA=>zO vA v5 (zO o o ((zb .sub .int g (I 4) λvB=>zO vB v2 (zO g g (zO b b (zK 1 b v2 λvC=>zS 1 vC v5 h8 n9 λvD hA nA=>K (zf.fr b f g j l p o w y z a d e c i s q u v) hA nA))))))):=by kernel_rfl
theorem zf.dx:IR.run zf.t11 C N O K (zf.fr b f g j l p o w y z a d e c i s q u v) h nx =
 zb .sub .int g (I 5) λv1=>zb .sub .int g (I 6) λv2=>zb .add .int z (.int .u32 1) λv3=>j0 (.str [48,48,48,49,48,50,48,51,48,52,48,53,48,54,48,55,48,56,48,57,49,48,49,49,49,50,49,51,49,52,49,53,49,54,49,55,49,56,49,57,50,48,50,49,50,50,50,51,50,52,50,53,50,54,50,55,50,56,50,57,51,48,51,49,51,50,51,51,51,52,51,53,51,54,51,55,51,56,51,57,52,48,52,49,52,50,52,51,52,52,52,53,52,54,52,55,52,56,52,57,53,48,53,49,53,50,53,51,53,52,53,53,53,54,53,55,53,56,53,57,54,48,54,49,54,50,54,51,54,52,54,53,54,54,54,55,54,56,54,57,55,48,55,49,55,50,55,51,55,52,55,53,55,54,55,55,55,56,55,57,56,48,56,49,56,50,56,51,56,52,56,53,56,54,56,55,56,56,56,57,57,48,57,49,57,50,57,51,57,52,57,53,57,54,57,55,57,56,57,57]) v3 λv4=>j0 (.str [48,48,48,49,48,50,48,51,48,52,48,53,48,54,48,55,48,56,48,57,49,48,49,49,49,50,49,51,49,52,49,53,49,54,49,55,49,56,49,57,50,48,50,49,50,50,50,51,50,52,50,53,50,54,50,55,50,56,50,57,51,48,51,49,51,50,51,51,51,52,51,53,51,54,51,55,51,56,51,57,52,48,52,49,52,50,52,51,52,52,52,53,52,54,52,55,52,56,52,57,53,48,53,49,53,50,53,51,53,52,53,53,53,54,53,55,53,56,53,57,54,48,54,49,54,50,54,51,54,52,54,53,54,54,54,55,54,56,54,57,55,48,55,49,55,50,55,51,55,52,55,53,55,54,55,55,55,56,55,57,56,48,56,49,56,50,56,51,56,52,56,53,56,54,56,55,56,56,56,57,57,48,57,49,57,50,57,51,57,52,57,53,57,54,57,55,57,56,57,57]) z λv5=>zK 1 b v1 λv6=>zS 1 v6 v4 h nx λv7 h8 n9=>(j0 (.str [48,48,48,49,48,50,48,51,48,52,48,53,48,54,48,55,48,56,48,57,49,48,49,49,49,50,49,51,49,52,49,53,49,54,49,55,49,56,49,57,50,48,50,49,50,50,50,51,50,52,50,53,50,54,50,55,50,56,50,57,51,48,51,49,51,50,51,51,51,52,51,53,51,54,51,55,51,56,51,57,52,48,52,49,52,50,52,51,52,52,52,53,52,54,52,55,52,56,52,57,53,48,53,49,53,50,53,51,53,52,53,53,53,54,53,55,53,56,53,57,54,48,54,49,54,50,54,51,54,52,54,53,54,54,54,55,54,56,54,57,55,48,55,49,55,50,55,51,55,52,55,53,55,54,55,55,55,56,55,57,56,48,56,49,56,50,56,51,56,52,56,53,56,54,56,55,56,56,56,57,57,48,57,49,57,50,57,51,57,52,57,53,57,54,57,55,57,56,57,57]) z λvA=>zO vA v5 (zO z z ((zb .sub .int g (I 6) λvB=>zO vB v2 (zO g g (zO b b (zK 1 b v2 λvC=>zS 1 vC v5 h8 n9 λvD hA nA=>K (zf.fr b f g j l p o w y z a d e c i s q u v) hA nA))))))):=by kernel_rfl
theorem zf.rF:IR.run zf.t12 C N O K (zf.fr b f g j l p o w y z a d e c i s q u v) h nx =
 zb .sub .int g (I 7) λv1=>zb .sub .int g (I 8) λv2=>zb .add .int y (.int .u32 1) λv3=>j0 (.str [48,48,48,49,48,50,48,51,48,52,48,53,48,54,48,55,48,56,48,57,49,48,49,49,49,50,49,51,49,52,49,53,49,54,49,55,49,56,49,57,50,48,50,49,50,50,50,51,50,52,50,53,50,54,50,55,50,56,50,57,51,48,51,49,51,50,51,51,51,52,51,53,51,54,51,55,51,56,51,57,52,48,52,49,52,50,52,51,52,52,52,53,52,54,52,55,52,56,52,57,53,48,53,49,53,50,53,51,53,52,53,53,53,54,53,55,53,56,53,57,54,48,54,49,54,50,54,51,54,52,54,53,54,54,54,55,54,56,54,57,55,48,55,49,55,50,55,51,55,52,55,53,55,54,55,55,55,56,55,57,56,48,56,49,56,50,56,51,56,52,56,53,56,54,56,55,56,56,56,57,57,48,57,49,57,50,57,51,57,52,57,53,57,54,57,55,57,56,57,57]) v3 λv4=>j0 (.str [48,48,48,49,48,50,48,51,48,52,48,53,48,54,48,55,48,56,48,57,49,48,49,49,49,50,49,51,49,52,49,53,49,54,49,55,49,56,49,57,50,48,50,49,50,50,50,51,50,52,50,53,50,54,50,55,50,56,50,57,51,48,51,49,51,50,51,51,51,52,51,53,51,54,51,55,51,56,51,57,52,48,52,49,52,50,52,51,52,52,52,53,52,54,52,55,52,56,52,57,53,48,53,49,53,50,53,51,53,52,53,53,53,54,53,55,53,56,53,57,54,48,54,49,54,50,54,51,54,52,54,53,54,54,54,55,54,56,54,57,55,48,55,49,55,50,55,51,55,52,55,53,55,54,55,55,55,56,55,57,56,48,56,49,56,50,56,51,56,52,56,53,56,54,56,55,56,56,56,57,57,48,57,49,57,50,57,51,57,52,57,53,57,54,57,55,57,56,57,57]) y λv5=>zK 1 b v1 λv6=>zS 1 v6 v4 h nx λv7 h8 n9=>(j0 (.str [48,48,48,49,48,50,48,51,48,52,48,53,48,54,48,55,48,56,48,57,49,48,49,49,49,50,49,51,49,52,49,53,49,54,49,55,49,56,49,57,50,48,50,49,50,50,50,51,50,52,50,53,50,54,50,55,50,56,50,57,51,48,51,49,51,50,51,51,51,52,51,53,51,54,51,55,51,56,51,57,52,48,52,49,52,50,52,51,52,52,52,53,52,54,52,55,52,56,52,57,53,48,53,49,53,50,53,51,53,52,53,53,53,54,53,55,53,56,53,57,54,48,54,49,54,50,54,51,54,52,54,53,54,54,54,55,54,56,54,57,55,48,55,49,55,50,55,51,55,52,55,53,55,54,55,55,55,56,55,57,56,48,56,49,56,50,56,51,56,52,56,53,56,54,56,55,56,56,56,57,57,48,57,49,57,50,57,51,57,52,57,53,57,54,57,55,57,56,57,57]) y λvA=>zO vA v5 (zO y y ((zb .sub .int g (I 8) λvB=>zO vB v2 (zO g g (zO b b (zK 1 b v2 λvC=>zS 1 vC v5 h8 n9 λvD hA nA=>K (zf.fr b f g j l p o w y z a d e c i s q u v) hA nA))))))):=by kernel_rfl
theorem zf.nS:IR.run zf.t13 C N O K (zf.fr b f g j l p o w y z a d e c i s q u v) h nx =
 zb .sub .int g (I 8) λv1=>K (zf.fr b f v1 j l p o w y z a d e c i s q u v) h nx:=by kernel_rfl
theorem zf.zxv (Inv:Nat->AV->AV->T Blk->Pa->Prop) {m:Nat} (hm:m<N) (hi:Inv m f g h nx)
  (step:∀ (m:Nat) (z1 z2 z3 z4 z5 z6 z7 z8 z9 zA:AV) (h:T Blk) (nx:Pa) (R:Ks Prop),Inv m z1 z2 h nx->(∀ (m':Nat) (w1 w2 w3 w4 w5 w6 w7 w8 w9 wA:AV) (h':T Blk) (nx':Pa),m'<m->Inv m' w1 w2 h' nx'->R (zf.fr b w1 w2 w3 w4 w5 w6 w7 w8 w9 a d e c i wA q u v) h' nx'=.ok True)->IR.run zf.t24 C N O R (zf.fr b z1 z2 z3 z4 z5 z6 z7 z8 z9 a d e c i zA q u v) h nx=.ok True) :
  IR.run zf.t25 C N O K (zf.fr b f g j l p o w y z a d e c i s q u v) h nx=.ok True:=by
 rw [zf.t25];refine yC (λm tm h nx=>∃ z1 z2 z3 z4 z5 z6 z7 z8 z9 zA,tm=(zf.fr b z1 z2 z3 z4 z5 z6 z7 z8 z9 a d e c i zA q u v)/\Inv m z1 z2 h nx) ?_ hm ⟨_,_,_,_,_,_,_,_,_,_,rfl,hi⟩;rintro m tm h nx R ⟨z1,z2,z3,z4,z5,z6,z7,z8,z9,zA,rfl,hi⟩ hR;exact step m z1 z2 z3 z4 z5 z6 z7 z8 z9 zA h nx R hi λm' w1 w2 w3 w4 w5 w6 w7 w8 w9 wA h' nx' hlt hi'=>hR m' _ h' nx' hlt ⟨_,_,_,_,_,_,_,_,_,_,rfl,hi'⟩
theorem zf.zjm:IR.run zf.t27 C N O K (zf.fr b f g j l p o w y z a d e c i s q u v) h nx =
 kI .u32 f λv1=>K (zf.fr b f g j l p o w y z v1 d e c i s q u v) h nx:=by kernel_rfl
theorem zf.zfc:IR.run zf.t28 C N O K (zf.fr b f g j l p o w y z a d e c i s q u v) h nx =
 zb .geq .int g (I 4) λv1=>K (zf.fr b f g j l p o w y z a d e c i s v1 u v) h nx:=by kernel_rfl
theorem zf.zm0:IR.run zf.t29 C N O K (zf.fr b f g j l p o w y z a d e c i s q u v) h nx =
 zb .rem .int a (.int .u32 10000) λv1=>K (zf.fr b f g j l p o w y z a v1 e c i s q u v) h nx:=by kernel_rfl
theorem zf.zcp:IR.run zf.t30 C N O K (zf.fr b f g j l p o w y z a d e c i s q u v) h nx =
 zb .quo .int a (.int .u32 10000) λv1=>K (zf.fr b f g j l p o w y z v1 d e c i s q u v) h nx:=by kernel_rfl
theorem zf.zxw:IR.run zf.t31 C N O K (zf.fr b f g j l p o w y z a d e c i s q u v) h nx =
 zb .quo .int d (.int .u32 100) λv1=>zb .mul .int v1 (.int .u32 2) λv2=>zb .rem .int d (.int .u32 100) λv3=>zb .mul .int v3 (.int .u32 2) λv4=>K (zf.fr b f g j l p o w y z a d v2 v4 i s q u v) h nx:=by kernel_rfl
theorem zf.zxx:IR.run zf.t32 C N O K (zf.fr b f g j l p o w y z a d e c i s q u v) h nx =
 zb .sub .int g (I 1) λv1=>zb .sub .int g (I 2) λv2=>zb .add .int c (.int .u32 1) λv3=>j0 (.str [48,48,48,49,48,50,48,51,48,52,48,53,48,54,48,55,48,56,48,57,49,48,49,49,49,50,49,51,49,52,49,53,49,54,49,55,49,56,49,57,50,48,50,49,50,50,50,51,50,52,50,53,50,54,50,55,50,56,50,57,51,48,51,49,51,50,51,51,51,52,51,53,51,54,51,55,51,56,51,57,52,48,52,49,52,50,52,51,52,52,52,53,52,54,52,55,52,56,52,57,53,48,53,49,53,50,53,51,53,52,53,53,53,54,53,55,53,56,53,57,54,48,54,49,54,50,54,51,54,52,54,53,54,54,54,55,54,56,54,57,55,48,55,49,55,50,55,51,55,52,55,53,55,54,55,55,55,56,55,57,56,48,56,49,56,50,56,51,56,52,56,53,56,54,56,55,56,56,56,57,57,48,57,49,57,50,57,51,57,52,57,53,57,54,57,55,57,56,57,57]) v3 λv4=>j0 (.str [48,48,48,49,48,50,48,51,48,52,48,53,48,54,48,55,48,56,48,57,49,48,49,49,49,50,49,51,49,52,49,53,49,54,49,55,49,56,49,57,50,48,50,49,50,50,50,51,50,52,50,53,50,54,50,55,50,56,50,57,51,48,51,49,51,50,51,51,51,52,51,53,51,54,51,55,51,56,51,57,52,48,52,49,52,50,52,51,52,52,52,53,52,54,52,55,52,56,52,57,53,48,53,49,53,50,53,51,53,52,53,53,53,54,53,55,53,56,53,57,54,48,54,49,54,50,54,51,54,52,54,53,54,54,54,55,54,56,54,57,55,48,55,49,55,50,55,51,55,52,55,53,55,54,55,55,55,56,55,57,56,48,56,49,56,50,56,51,56,52,56,53,56,54,56,55,56,56,56,57,57,48,57,49,57,50,57,51,57,52,57,53,57,54,57,55,57,56,57,57]) c λv5=>zK 1 b v1 λv6=>zS 1 v6 v4 h nx λv7 h8 n9=>(j0 (.str [48,48,48,49,48,50,48,51,48,52,48,53,48,54,48,55,48,56,48,57,49,48,49,49,49,50,49,51,49,52,49,53,49,54,49,55,49,56,49,57,50,48,50,49,50,50,50,51,50,52,50,53,50,54,50,55,50,56,50,57,51,48,51,49,51,50,51,51,51,52,51,53,51,54,51,55,51,56,51,57,52,48,52,49,52,50,52,51,52,52,52,53,52,54,52,55,52,56,52,57,53,48,53,49,53,50,53,51,53,52,53,53,53,54,53,55,53,56,53,57,54,48,54,49,54,50,54,51,54,52,54,53,54,54,54,55,54,56,54,57,55,48,55,49,55,50,55,51,55,52,55,53,55,54,55,55,55,56,55,57,56,48,56,49,56,50,56,51,56,52,56,53,56,54,56,55,56,56,56,57,57,48,57,49,57,50,57,51,57,52,57,53,57,54,57,55,57,56,57,57]) c λvA=>zO vA v5 (zO c c ((zb .sub .int g (I 2) λvB=>zO vB v2 (zO g g (zO b b (zK 1 b v2 λvC=>zS 1 vC v5 h8 n9 λvD hA nA=>K (zf.fr b f g j l p o w y z a d e c i s q u v) hA nA))))))):=by kernel_rfl
theorem zf.zm1:IR.run zf.t33 C N O K (zf.fr b f g j l p o w y z a d e c i s q u v) h nx =
 zb .sub .int g (I 3) λv1=>zb .sub .int g (I 4) λv2=>zb .add .int e (.int .u32 1) λv3=>j0 (.str [48,48,48,49,48,50,48,51,48,52,48,53,48,54,48,55,48,56,48,57,49,48,49,49,49,50,49,51,49,52,49,53,49,54,49,55,49,56,49,57,50,48,50,49,50,50,50,51,50,52,50,53,50,54,50,55,50,56,50,57,51,48,51,49,51,50,51,51,51,52,51,53,51,54,51,55,51,56,51,57,52,48,52,49,52,50,52,51,52,52,52,53,52,54,52,55,52,56,52,57,53,48,53,49,53,50,53,51,53,52,53,53,53,54,53,55,53,56,53,57,54,48,54,49,54,50,54,51,54,52,54,53,54,54,54,55,54,56,54,57,55,48,55,49,55,50,55,51,55,52,55,53,55,54,55,55,55,56,55,57,56,48,56,49,56,50,56,51,56,52,56,53,56,54,56,55,56,56,56,57,57,48,57,49,57,50,57,51,57,52,57,53,57,54,57,55,57,56,57,57]) v3 λv4=>j0 (.str [48,48,48,49,48,50,48,51,48,52,48,53,48,54,48,55,48,56,48,57,49,48,49,49,49,50,49,51,49,52,49,53,49,54,49,55,49,56,49,57,50,48,50,49,50,50,50,51,50,52,50,53,50,54,50,55,50,56,50,57,51,48,51,49,51,50,51,51,51,52,51,53,51,54,51,55,51,56,51,57,52,48,52,49,52,50,52,51,52,52,52,53,52,54,52,55,52,56,52,57,53,48,53,49,53,50,53,51,53,52,53,53,53,54,53,55,53,56,53,57,54,48,54,49,54,50,54,51,54,52,54,53,54,54,54,55,54,56,54,57,55,48,55,49,55,50,55,51,55,52,55,53,55,54,55,55,55,56,55,57,56,48,56,49,56,50,56,51,56,52,56,53,56,54,56,55,56,56,56,57,57,48,57,49,57,50,57,51,57,52,57,53,57,54,57,55,57,56,57,57]) e λv5=>zK 1 b v1 λv6=>zS 1 v6 v4 h nx λv7 h8 n9=>(j0 (.str [48,48,48,49,48,50,48,51,48,52,48,53,48,54,48,55,48,56,48,57,49,48,49,49,49,50,49,51,49,52,49,53,49,54,49,55,49,56,49,57,50,48,50,49,50,50,50,51,50,52,50,53,50,54,50,55,50,56,50,57,51,48,51,49,51,50,51,51,51,52,51,53,51,54,51,55,51,56,51,57,52,48,52,49,52,50,52,51,52,52,52,53,52,54,52,55,52,56,52,57,53,48,53,49,53,50,53,51,53,52,53,53,53,54,53,55,53,56,53,57,54,48,54,49,54,50,54,51,54,52,54,53,54,54,54,55,54,56,54,57,55,48,55,49,55,50,55,51,55,52,55,53,55,54,55,55,55,56,55,57,56,48,56,49,56,50,56,51,56,52,56,53,56,54,56,55,56,56,56,57,57,48,57,49,57,50,57,51,57,52,57,53,57,54,57,55,57,56,57,57]) e λvA=>zO vA v5 (zO e e ((zb .sub .int g (I 4) λvB=>zO vB v2 (zO g g (zO b b (zK 1 b v2 λvC=>zS 1 vC v5 h8 n9 λvD hA nA=>K (zf.fr b f g j l p o w y z a d e c i s q u v) hA nA))))))):=by kernel_rfl
theorem zf.eT:IR.run zf.t34 C N O K (zf.fr b f g j l p o w y z a d e c i s q u v) h nx =
 zb .sub .int g (I 4) λv1=>K (zf.fr b f v1 j l p o w y z a d e c i s q u v) h nx:=by kernel_rfl
theorem zf.v16:Arg.ev (.t (.of 16)) ⟨(zf.fr b f g j l p o w y z a d e c i s q u v),[]⟩=q:=by kernel_rfl
theorem zf.zco:IR.run zf.t42 C N O K (zf.fr b f g j l p o w y z a d e c i s q u v) h nx =
 zb .geq .int g (I 2) λv1=>K (zf.fr b f g j l p o w y z a d e c i s q v1 v) h nx:=by kernel_rfl
theorem zf.zfk:IR.run zf.t43 C N O K (zf.fr b f g j l p o w y z a d e c i s q u v) h nx =
 zb .rem .int a (.int .u32 100) λv1=>zb .mul .int v1 (.int .u32 2) λv2=>K (zf.fr b f g j l p o w y z a d e c v2 s q u v) h nx:=by kernel_rfl
theorem zf.zxy:IR.run zf.t44 C N O K (zf.fr b f g j l p o w y z a d e c i s q u v) h nx =
 zb .quo .int a (.int .u32 100) λv1=>K (zf.fr b f g j l p o w y z v1 d e c i s q u v) h nx:=by kernel_rfl
theorem zf.zxz:IR.run zf.t45 C N O K (zf.fr b f g j l p o w y z a d e c i s q u v) h nx =
 zb .sub .int g (I 1) λv1=>zb .sub .int g (I 2) λv2=>zb .add .int i (.int .u32 1) λv3=>j0 (.str [48,48,48,49,48,50,48,51,48,52,48,53,48,54,48,55,48,56,48,57,49,48,49,49,49,50,49,51,49,52,49,53,49,54,49,55,49,56,49,57,50,48,50,49,50,50,50,51,50,52,50,53,50,54,50,55,50,56,50,57,51,48,51,49,51,50,51,51,51,52,51,53,51,54,51,55,51,56,51,57,52,48,52,49,52,50,52,51,52,52,52,53,52,54,52,55,52,56,52,57,53,48,53,49,53,50,53,51,53,52,53,53,53,54,53,55,53,56,53,57,54,48,54,49,54,50,54,51,54,52,54,53,54,54,54,55,54,56,54,57,55,48,55,49,55,50,55,51,55,52,55,53,55,54,55,55,55,56,55,57,56,48,56,49,56,50,56,51,56,52,56,53,56,54,56,55,56,56,56,57,57,48,57,49,57,50,57,51,57,52,57,53,57,54,57,55,57,56,57,57]) v3 λv4=>j0 (.str [48,48,48,49,48,50,48,51,48,52,48,53,48,54,48,55,48,56,48,57,49,48,49,49,49,50,49,51,49,52,49,53,49,54,49,55,49,56,49,57,50,48,50,49,50,50,50,51,50,52,50,53,50,54,50,55,50,56,50,57,51,48,51,49,51,50,51,51,51,52,51,53,51,54,51,55,51,56,51,57,52,48,52,49,52,50,52,51,52,52,52,53,52,54,52,55,52,56,52,57,53,48,53,49,53,50,53,51,53,52,53,53,53,54,53,55,53,56,53,57,54,48,54,49,54,50,54,51,54,52,54,53,54,54,54,55,54,56,54,57,55,48,55,49,55,50,55,51,55,52,55,53,55,54,55,55,55,56,55,57,56,48,56,49,56,50,56,51,56,52,56,53,56,54,56,55,56,56,56,57,57,48,57,49,57,50,57,51,57,52,57,53,57,54,57,55,57,56,57,57]) i λv5=>zK 1 b v1 λv6=>zS 1 v6 v4 h nx λv7 h8 n9=>(j0 (.str [48,48,48,49,48,50,48,51,48,52,48,53,48,54,48,55,48,56,48,57,49,48,49,49,49,50,49,51,49,52,49,53,49,54,49,55,49,56,49,57,50,48,50,49,50,50,50,51,50,52,50,53,50,54,50,55,50,56,50,57,51,48,51,49,51,50,51,51,51,52,51,53,51,54,51,55,51,56,51,57,52,48,52,49,52,50,52,51,52,52,52,53,52,54,52,55,52,56,52,57,53,48,53,49,53,50,53,51,53,52,53,53,53,54,53,55,53,56,53,57,54,48,54,49,54,50,54,51,54,52,54,53,54,54,54,55,54,56,54,57,55,48,55,49,55,50,55,51,55,52,55,53,55,54,55,55,55,56,55,57,56,48,56,49,56,50,56,51,56,52,56,53,56,54,56,55,56,56,56,57,57,48,57,49,57,50,57,51,57,52,57,53,57,54,57,55,57,56,57,57]) i λvA=>zO vA v5 (zO i i ((zb .sub .int g (I 2) λvB=>zO vB v2 (zO g g (zO b b (zK 1 b v2 λvC=>zS 1 vC v5 h8 n9 λvD hA nA=>K (zf.fr b f g j l p o w y z a d e c i s q u v) hA nA))))))):=by kernel_rfl
theorem zf.zmz:IR.run zf.t46 C N O K (zf.fr b f g j l p o w y z a d e c i s q u v) h nx =
 zb .sub .int g (I 2) λv1=>K (zf.fr b f v1 j l p o w y z a d e c i s q u v) h nx:=by kernel_rfl
theorem zf.v17:Arg.ev (.t (.of 17)) ⟨(zf.fr b f g j l p o w y z a d e c i s q u v),[]⟩=u:=by kernel_rfl
theorem zf.zfm:IR.run zf.t52 C N O K (zf.fr b f g j l p o w y z a d e c i s q u v) h nx =
 zb .gtr .int g (I 0) λv1=>K (zf.fr b f g j l p o w y z a d e c i s q u v1) h nx:=by kernel_rfl
theorem zf.zx0:IR.run zf.t53 C N O K (zf.fr b f g j l p o w y z a d e c i s q u v) h nx =
 zb .add .int (.int .u32 48) a λv1=>kI .u8 v1 λv2=>zK 1 b (I 0) λv3=>zS 1 v3 v2 h nx λv4 h5 n6=>K (zf.fr b f g j l p o w y z a d e c i s q u v) h5 n6:=by kernel_rfl
theorem zf.v18:Arg.ev (.t (.of 18)) ⟨(zf.fr b f g j l p o w y z a d e c i s q u v),[]⟩=v:=by kernel_rfl
theorem zf.go:zR tbl N C (.of 317) [a0,a1] h nx K0=IR.run zf.t60 C N (fnO zf.res K0) (zi zf.res K0) (zf.fr a0 a1 .u .u .u .u .u .u .u .u .u .u .u .u .u .u .u .u .u) h nx:=yE (F:=zf) (by kernel_rfl) (λ_=>by kernel_rfl) (by kernel_rfl)
theorem zf.ret:zi zf.res K0 (zf.fr b f g j l p o w y z a d e c i s q u v) h nx=K0 (.tup []) h nx:=by kernel_rfl
theorem zy.zw:IR.run zy.t0 C N O K (zy.fr b f g j l p o w y z a) h nx =
 K (zy.fr b f (.str []) j l p o w y z a) h nx:=by kernel_rfl
theorem zy.zu:IR.run zy.t1 C N O K (zy.fr b f g j l p o w y z a) h nx =
 zb .eql .int f (I 10) λv1=>K (zy.fr b f g j l p o v1 y z a) h nx:=by kernel_rfl
theorem zy.jd:IR.run zy.t2 C N O K (zy.fr b f g j l p o w y z a) h nx =
 zb .leq .int (I 0) b λv1=>sG v1 true (λk=>k b) λv2=>sG v1 true (λk=>zb .lss .int v2 (I 100) k) λv3=>yZ v1 v3 (.bool false) λv4=>K (zy.fr b f g j l p o w v4 z a) h nx:=by kernel_rfl
theorem zy.pu:IR.run zy.t3 C N O K (zy.fr b f g j l p o w y z a) h nx =
 C.fn 315 (.of 315) [b] h nx λv1 h2 n3=>K (zy.fr b f v1 j l p o w y z a) h2 n3:=by kernel_rfl
theorem zy.v8:Arg.ev (.t (.of 8)) ⟨(zy.fr b f g j l p o w y z a),[]⟩=y:=by kernel_rfl
theorem zy.fe:IR.run zy.t7 C N O K (zy.fr b f g j l p o w y z a) h nx =
 yW [(.int .u8 0),(.int .u8 0),(.int .u8 0),(.int .u8 0),(.int .u8 0),(.int .u8 0),(.int .u8 0),(.int .u8 0),(.int .u8 0),(.int .u8 0),(.int .u8 0),(.int .u8 0),(.int .u8 0),(.int .u8 0),(.int .u8 0),(.int .u8 0),(.int .u8 0),(.int .u8 0),(.int .u8 0),(.int .u8 0),(.int .u8 0),(.int .u8 0),(.int .u8 0),(.int .u8 0)] h nx λv1 h2 n3=>K (zy.fr b f g v1 l p o w y z a) h2 n3:=by kernel_rfl
theorem zy.fE:IR.run zy.t8 C N O K (zy.fr b f g j l p o w y z a) h nx =
 kI .u64 b λv1=>K (zy.fr b f g j v1 p o w y z a) h nx:=by kernel_rfl
theorem zy.nP:IR.run zy.t9 C N O K (zy.fr b f g j l p o w y z a) h nx =
 zb .lss .int b (I 0) λv1=>K (zy.fr b f g j l p o w y v1 a) h nx:=by kernel_rfl
theorem zy.nX:IR.run zy.t10 C N O K (zy.fr b f g j l p o w y z a) h nx =
 sNeg l λv1=>K (zy.fr b f g j v1 p o w y z a) h nx:=by kernel_rfl
theorem zy.v9:Arg.ev (.t (.of 9)) ⟨(zy.fr b f g j l p o w y z a),[]⟩=z:=by kernel_rfl
theorem zy.nS:IR.run zy.t13 C N O K (zy.fr b f g j l p o w y z a) h nx =
 C.fn 316 (.of 316) [l] h nx λv1 h2 n3=>K (zy.fr b f g j l v1 o w y z a) h2 n3:=by kernel_rfl
theorem zy.nT:IR.run zy.t14 C N O K (zy.fr b f g j l p o w y z a) h nx =
 zb .add .int (I 1) p λv1=>dJ 1 24 j (some (I 1)) (some v1) none λv2=>C.fn 317 (.of 317) [v2,l] h nx λv3 h4 n5=>K (zy.fr b f g j l p o w y z a) h4 n5:=by kernel_rfl
theorem zy.tH:IR.run zy.t15 C N O K (zy.fr b f g j l p o w y z a) h nx =
 zb .lss .int b (I 0) λv1=>K (zy.fr b f g j l p o w y z v1) h nx:=by kernel_rfl
theorem zy.rG:IR.run zy.t16 C N O K (zy.fr b f g j l p o w y z a) h nx =
 oO 1 24 j (I 0) λv1=>zS 1 v1 (.int .u8 45) h nx λv2 h3 n4=>K (zy.fr b f g j l p o w y z a) h3 n4:=by kernel_rfl
theorem zy.tT:IR.run zy.t17 C N O K (zy.fr b f g j l p o w y z a) h nx =
 zb .add .int (I 1) p λv1=>dJ 1 24 j none (some v1) none λv2=>sB2s v2 h λv3=>K (zy.fr b f v3 j l p o w y z a) h nx:=by kernel_rfl
theorem zy.v10:Arg.ev (.t (.of 10)) ⟨(zy.fr b f g j l p o w y z a),[]⟩=a:=by kernel_rfl
theorem zy.rW:IR.run zy.t22 C N O K (zy.fr b f g j l p o w y z a) h nx =
 zb .add .int (I 1) p λv1=>dJ 1 24 j (some (I 1)) (some v1) none λv2=>sB2s v2 h λv3=>K (zy.fr b f v3 j l p o w y z a) h nx:=by kernel_rfl
theorem zy.v7:Arg.ev (.t (.of 7)) ⟨(zy.fr b f g j l p o w y z a),[]⟩=w:=by kernel_rfl
theorem zy.go:zR tbl N C (.of 314) [a0,a1] h nx K0=IR.run zy.t38 C N (fnO zy.res K0) (zi zy.res K0) (zy.fr a0 a1 .u .u .u .u .u .u .u .u .u) h nx:=yE (F:=zy) (by kernel_rfl) (λ_=>by kernel_rfl) (by kernel_rfl)
theorem zy.ret:zi zy.res K0 (zy.fr b f g j l p o w y z a) h nx=K0 g h nx:=by kernel_rfl
theorem vo.zw:IR.run vo.t0 C N O K (vo.fr b f g) h nx =
 K (vo.fr b (.str []) g) h nx:=by kernel_rfl
theorem vo.zu:IR.run vo.t1 C N O K (vo.fr b f g) h nx =
 zb .lss .int b (I 10) λv1=>K (vo.fr b f v1) h nx:=by kernel_rfl
theorem vo.jd:IR.run vo.t2 C N O K (vo.fr b f g) h nx =
 zb .add .int b (I 1) λv1=>gJ (.str [48,49,50,51,52,53,54,55,56,57,97,98,99,100,101,102,103,104,105,106,107,108,109,110,111,112,113,114,115,116,117,118,119,120,121,122]) (some b) (some v1) λv2=>K (vo.fr b v2 g) h nx:=by kernel_rfl
theorem vo.v2:Arg.ev (.t (.of 2)) ⟨(vo.fr b f g),[]⟩=g:=by kernel_rfl
theorem vo.ku:IR.run vo.t6 C N O K (vo.fr b f g) h nx =
 zb .mul .int b (I 2) λv1=>zb .mul .int b (I 2) λv2=>zb .add .int v2 (I 2) λv3=>gJ (.str [48,48,48,49,48,50,48,51,48,52,48,53,48,54,48,55,48,56,48,57,49,48,49,49,49,50,49,51,49,52,49,53,49,54,49,55,49,56,49,57,50,48,50,49,50,50,50,51,50,52,50,53,50,54,50,55,50,56,50,57,51,48,51,49,51,50,51,51,51,52,51,53,51,54,51,55,51,56,51,57,52,48,52,49,52,50,52,51,52,52,52,53,52,54,52,55,52,56,52,57,53,48,53,49,53,50,53,51,53,52,53,53,53,54,53,55,53,56,53,57,54,48,54,49,54,50,54,51,54,52,54,53,54,54,54,55,54,56,54,57,55,48,55,49,55,50,55,51,55,52,55,53,55,54,55,55,55,56,55,57,56,48,56,49,56,50,56,51,56,52,56,53,56,54,56,55,56,56,56,57,57,48,57,49,57,50,57,51,57,52,57,53,57,54,57,55,57,56,57,57]) (some v1) (some v3) λv4=>K (vo.fr b v4 g) h nx:=by kernel_rfl
theorem vo.go:zR tbl N C (.of 315) [a0] h nx K0=IR.run vo.t9 C N (fnO vo.res K0) (zi vo.res K0) (vo.fr a0 .u .u) h nx:=yE (F:=vo) (by kernel_rfl) (λ_=>by kernel_rfl) (by kernel_rfl)
theorem vo.ret:zi vo.res K0 (vo.fr b f g) h nx=K0 f h nx:=by kernel_rfl
theorem fT.zw:IR.run fT.t0 C N O K (fT.fr b f) h nx =
 K (fT.fr b (.str [])) h nx:=by kernel_rfl
theorem fT.zu:IR.run fT.t1 C N O K (fT.fr b f) h nx =
 C.fn 314 (.of 314) [b,(I 10)] h nx λv1 h2 n3=>K (fT.fr b v1) h2 n3:=by kernel_rfl
theorem fT.go:zR tbl N C (.of 287) [a0] h nx K0=IR.run fT.t3 C N (fnO fT.res K0) (zi fT.res K0) (fT.fr a0 .u) h nx:=yE (F:=fT) (by kernel_rfl) (λ_=>by kernel_rfl) (by kernel_rfl)
theorem fT.ret:zi fT.res K0 (fT.fr b f) h nx=K0 f h nx:=by kernel_rfl
theorem fU.zw:IR.run fU.t0 C N O K (fU.fr b f) h nx =
 K (fU.fr b (.str [])) h nx:=by kernel_rfl
theorem fU.zu:IR.run fU.t1 C N O K (fU.fr b f) h nx =
 C.fn 287 (.of 287) [b] h nx λv1 h2 n3=>K (fU.fr b v1) h2 n3:=by kernel_rfl
theorem fU.go:zR tbl N C (.of 248) [a0] h nx K0=IR.run fU.t3 C N (fnO fU.res K0) (zi fU.res K0) (fU.fr a0 .u) h nx:=yE (F:=fU) (by kernel_rfl) (λ_=>by kernel_rfl) (by kernel_rfl)
theorem fU.ret:zi fU.res K0 (fU.fr b f) h nx=K0 f h nx:=by kernel_rfl
theorem bg.zw:IR.run bg.t0 C N O K (bg.fr b f g j l p o w y z a d e c i s q u) h nx =
 dw b h nx λv1 h2 n3=>K (bg.fr b v1 (.str []) j l p o w y z a d e c i s q u) h2 n3:=by kernel_rfl
theorem bg.zu:IR.run bg.t1 C N O K (bg.fr b f g j l p o w y z a d e c i s q u) h nx =
 zL 1 f λv1=>zH v1 h λv2=>zb .eql (.nil .sl) v2 .za λv3=>K (bg.fr b f g j l p o w y z a d v3 c i s q u) h nx:=by kernel_rfl
theorem bg.jd:IR.run bg.t2 C N O K (bg.fr b f g j l p o w y z a d e c i s q u) h nx =
 zL 0 f λv1=>zH v1 h λv2=>C.fn 248 (.of 248) [v2] h nx λv3 h4 n5=>K (bg.fr b f v3 j l p o w y z a d e c i s q u) h4 n5:=by kernel_rfl
theorem bg.v12:Arg.ev (.t (.of 12)) ⟨(bg.fr b f g j l p o w y z a d e c i s q u),[]⟩=e:=by kernel_rfl
theorem bg.go:zR tbl N C (.of 188) [a0] h nx K0=IR.run bg.t60 C N (fnO bg.res K0) (zi bg.res K0) (bg.fr a0 .u .u .u .u .u .u .u .u .u .u .u .u .u .u .u .u .u) h nx:=yE (F:=bg) (by kernel_rfl) (λ_=>by kernel_rfl) (by kernel_rfl)
theorem bg.ret:zi bg.res K0 (bg.fr b f g j l p o w y z a d e c i s q u) h nx=K0 g h nx:=by kernel_rfl
theorem F97.zw:IR.run F97.t0 C N O K (F97.fr b f g j) h nx =
 dw b h nx λv1 h2 n3=>K (F97.fr b v1 (.str []) j) h2 n3:=by kernel_rfl
theorem F97.zu:IR.run F97.t1 C N O K (F97.fr b f g j) h nx =
 zJ 4 f h λv1=>C.fn 122 (.of 122) [v1] h nx λv2 h3 n4=>K (F97.fr b f g v2) h3 n4:=by kernel_rfl
theorem F97.jd:IR.run F97.t2 C N O K (F97.fr b f g j) h nx =
 zL 0 f λv1=>zJ 2 v1 h λv2=>C.fn 188 (.of 188) [v2] h nx λv3 h4 n5=>K (F97.fr b f v3 j) h4 n5:=by kernel_rfl
theorem F97.v3:Arg.ev (.t (.of 3)) ⟨(F97.fr b f g j),[]⟩=j:=by kernel_rfl
theorem F97.ku:IR.run F97.t6 C N O K (F97.fr b f g j) h nx =
 zL 0 f λv1=>zJ 2 v1 h λv2=>zL 2 f λv3=>zJ 2 v3 h λv4=>C.fn 188 (.of 188) [v2] h nx λv5 h6 n7=>(zJ 2 v3 h6 λvA=>zO vA v4 ((zL 2 f λvB=>zO vB v3 (zb .add .str v5 (.str [47]) λv8=>C.fn 188 (.of 188) [v4] h6 n7 λv9 hB nB=>(zb .add .str v5 (.str [47]) λvE=>zO vE v8 (zb .add .str v8 v9 λvF=>K (F97.fr b f vF j) hB nB)))))):=by kernel_rfl
theorem F97.go:zR tbl N C (.of 97) [a0] h nx K0=IR.run F97.t9 C N (fnO F97.res K0) (zi F97.res K0) (F97.fr a0 .u .u .u) h nx:=yE (F:=F97) (by kernel_rfl) (λ_=>by kernel_rfl) (by kernel_rfl)
theorem F97.ret:zi F97.res K0 (F97.fr b f g j) h nx=K0 g h nx:=by kernel_rfl
theorem ji.zw:IR.run ji.t0 C N O K (ji.fr b f g j l p o w y) h nx =
 K (ji.fr b .za g j l p o w y) h nx:=by kernel_rfl
theorem ji.zu:IR.run ji.t1 C N O K (ji.fr b f g j l p o w y) h nx =
 sLen b λv1=>qQ 1 16 [(.str [])] v1 v1 h nx λv2 h3 n4=>K (ji.fr b f v2 j l p o w y) h3 n4:=by kernel_rfl
theorem ji.jd:IR.run ji.t2 C N O K (ji.fr b f g j l p o w y) h nx =
 sLen b λv1=>K (ji.fr b f g j l b v1 (I 0) y) h nx:=by kernel_rfl
theorem ji.pu:IR.run ji.t3 C N O K (ji.fr b f g j l p o w y) h nx =
 zb .lss .int w o λv1=>K (ji.fr b f g j l p o w v1) h nx:=by kernel_rfl
theorem ji.v8:Arg.ev (.t (.of 8)) ⟨(ji.fr b f g j l p o w y),[]⟩=y:=by kernel_rfl
theorem ji.ny:IR.run ji.t5 C N O K (ji.fr b f g j l p o w y) h nx =
 zK 4 p w λv1=>zJ 4 v1 h λv2=>yW [(I 0),.za,(I 0),.za] h nx λv3 h4 n5=>zS 4 v3 v2 h4 n5 λv6 h7 n8=>K (ji.fr b f g w v3 p o w y) h7 n8:=by kernel_rfl
theorem ji.ku:IR.run ji.t6 C N O K (ji.fr b f g j l p o w y) h nx =
 zJ 4 l h λv1=>C.fn 97 (.of 97) [v1] h nx λv2 h3 n4=>zK 1 g j λv5=>zS 1 v5 v2 h3 n4 λv6 h7 n8=>K (ji.fr b f g j l p o w y) h7 n8:=by kernel_rfl
theorem ji.nP:IR.run ji.t9 C N O K (ji.fr b f g j l p o w y) h nx =
 zb .add .int w (I 1) λv1=>K (ji.fr b f g j l p o v1 y) h nx:=by kernel_rfl
theorem ji.zfa (Inv:Nat->AV->T Blk->Pa->Prop) {m:Nat} (hm:m<N) (hi:Inv m w h nx)
  (step:∀ (m:Nat) (z3 z4 z7 z8:AV) (h:T Blk) (nx:Pa) (R:Ks Prop),Inv m z7 h nx->(∀ (m':Nat) (w3 w4 w7 w8:AV) (h':T Blk) (nx':Pa),m'<m->Inv m' w7 h' nx'->R (ji.fr b f g w3 w4 p o w7 w8) h' nx'=.ok True)->IR.run ji.t12 C N O R (ji.fr b f g z3 z4 p o z7 z8) h nx=.ok True) :
  IR.run ji.t13 C N O K (ji.fr b f g j l p o w y) h nx=.ok True:=by
 rw [ji.t13];refine yC (λm tm h nx=>∃ z3 z4 z7 z8,tm=(ji.fr b f g z3 z4 p o z7 z8)/\Inv m z7 h nx) ?_ hm ⟨_,_,_,_,rfl,hi⟩;rintro m tm h nx R ⟨z3,z4,z7,z8,rfl,hi⟩ hR;exact step m z3 z4 z7 z8 h nx R hi λm' w3 w4 w7 w8 h' nx' hlt hi'=>hR m' _ h' nx' hlt ⟨_,_,_,_,rfl,hi'⟩
theorem ji.rG:IR.run ji.t16 C N O K (ji.fr b f g j l p o w y) h nx =
 K (ji.fr b g g j l p o w y) h nx:=by kernel_rfl
theorem ji.go:zR tbl N C (.of 181) [a0] h nx K0=IR.run ji.t20 C N (fnO ji.res K0) (zi ji.res K0) (ji.fr a0 .u .u .u .u .u .u .u .u) h nx:=yE (F:=ji) (by kernel_rfl) (λ_=>by kernel_rfl) (by kernel_rfl)
theorem ji.ret:zi ji.res K0 (ji.fr b f g j l p o w y) h nx=K0 f h nx:=by kernel_rfl
theorem jy.zw:IR.run jy.t0 C N O K (jy.fr b f g j l) h nx =
 dw b h nx λv1 h2 n3=>K (jy.fr b v1 (I 0) j l) h2 n3:=by kernel_rfl
theorem jy.zu:IR.run jy.t1 C N O K (jy.fr b f g j l) h nx =
 zJ 2 f h λv1=>C.fn 249 (.of 249) [v1] h nx λv2 h3 n4=>fw 0 v2 λv5=>fw 1 v2 λv6=>K (jy.fr b f g v6 l) h3 n4:=by kernel_rfl
theorem jy.jd:IR.run jy.t2 C N O K (jy.fr b f g j l) h nx =
 sLen j λv1=>zb .eql .int v1 (I 0) λv2=>K (jy.fr b f g j v2) h nx:=by kernel_rfl
theorem jy.pu:IR.run jy.t3 C N O K (jy.fr b f g j l) h nx =
 K (jy.fr b f (I 0) j l) h nx:=by kernel_rfl
theorem jy.v4:Arg.ev (.t (.of 4)) ⟨(jy.fr b f g j l),[]⟩=l:=by kernel_rfl
theorem jy.fe:IR.run jy.t7 C N O K tm h nx=yB jy.r4_0 C ⟨tm,[]⟩ h nx (λtm h nx=>K tm.v h nx):=gI ..
theorem jy.zh0:yB (jy.zfg r) C ⟨(jy.fr b f g j l),[]⟩ h nx Kt =
 sLen j λv1=>zb .sub .int v1 (I 1) λv2=>zb .mul .int (I 64) v2 λv3=>sLen j λv4=>zb .sub .int v4 (I 1) λv5=>yB r C ⟨(jy.fr b f g j l),v5::v4::j::j::v3::v2::v1::j::[]⟩ h nx Kt:=by kernel_rfl
theorem jy.zh1:yB (jy.zfh r) C ⟨(jy.fr b f g j l),s0::s1::s2::s3::sT⟩ h nx Kt =
 zK 1 s3 s0 λv1=>zH v1 h λv2=>C.fn 312 (.of 312) [v2] h nx λv3 h4 n5=>yB r C ⟨(jy.fr b f g j l),v3::v2::v1::s0::s1::s2::s3::sT⟩ h4 n5 Kt:=by kernel_rfl
theorem jy.zu9:yB (jy.zth []) C ⟨(jy.fr b f g j l),s0::s1::s2::s3::s4::s5::s6::s7::sT⟩ h nx Kt =
 zb .add .int s7 s0 λv1=>Kt ⟨(jy.fr b f v1 j l),v1::s0::s1::s2::s3::s4::s5::s6::s7::sT⟩ h nx:=by kernel_rfl
theorem jy.go:zR tbl N C (.of 285) [a0] h nx K0=IR.run jy.t11 C N (fnO jy.res K0) (zi jy.res K0) (jy.fr a0 .u .u .u .u) h nx:=yE (F:=jy) (by kernel_rfl) (λ_=>by kernel_rfl) (by kernel_rfl)
theorem jy.ret:zi jy.res K0 (jy.fr b f g j l) h nx=K0 g h nx:=by kernel_rfl
theorem ul.zw:IR.run ul.t0 C N O K (ul.fr b f g) h nx =
 dw b h nx λv1 h2 n3=>K (ul.fr b v1 (.bool false)) h2 n3:=by kernel_rfl
theorem ul.zu:IR.run ul.t1 C N O K tm h nx=yB ul.sD C ⟨tm,[]⟩ h nx (λtm h nx=>K tm.v h nx):=gI ..
theorem ul.sF:yB (ul.rP r) C ⟨(ul.fr b f g),[]⟩ h nx Kt =
 zJ 2 f h λv1=>C.fn 285 (.of 285) [v1] h nx λv2 h3 n4=>yB r C ⟨(ul.fr b f g),v2::v1::[]⟩ h3 n4 Kt:=by kernel_rfl
theorem ul.rU:yB (ul.rQ r) C ⟨(ul.fr b f g),s0::sT⟩ h nx Kt =
 zb .gtr .int s0 (I 1800) λv1=>sG v1 true (λk=>zJ 2 f h k) λv2=>sGW v1 true (λk=>C.fn 188 (.of 188) [v2] h nx k) h nx λv3 h4 n5=>yB r C ⟨(ul.fr b f g),v3::v2::v1::v1::s0::sT⟩ h4 n5 Kt:=by kernel_rfl
theorem ul.zdq:yB (ul.zfn r) C ⟨(ul.fr b f g),s0::s1::s2::sT⟩ h nx Kt =
 sGW s2 true (λk=>C.fn 286 (.of 286) [s0,(.str [45])] h nx k) h nx λv1 h2 n3=>yB r C ⟨(ul.fr b f g),v1::s0::s1::s2::sT⟩ h2 n3 Kt:=by kernel_rfl
theorem ul.oP:yB (ul.zfo []) C ⟨(ul.fr b f g),s0::s1::s2::s3::sT⟩ h nx Kt =
 sG s3 true (λk=>kV s0 k) λv1=>sG s3 true (λk=>zb .gtr .int v1 (I 600) k) λv2=>yZ s3 v2 (.bool false) λv3=>Kt ⟨(ul.fr b f v3),v3::v2::v1::s0::s1::s2::s3::sT⟩ h nx:=by kernel_rfl
theorem ul.go:zR tbl N C (.of 246) [a0] h nx K0=IR.run ul.t3 C N (fnO ul.res K0) (zi ul.res K0) (ul.fr a0 .u .u) h nx:=yE (F:=ul) (by kernel_rfl) (λ_=>by kernel_rfl) (by kernel_rfl)
theorem ul.ret:zi ul.res K0 (ul.fr b f g) h nx=K0 g h nx:=by kernel_rfl
theorem fV.zw:IR.run fV.t0 C N O K (fV.fr b f g) h nx =
 dw b h nx λv1 h2 n3=>K (fV.fr b v1 (.bool false)) h2 n3:=by kernel_rfl
theorem fV.zu:IR.run fV.t1 C N O K (fV.fr b f g) h nx =
 zL 0 f λv1=>zJ 2 v1 h λv2=>C.fn 246 (.of 246) [v2] h nx λv3 h4 n5=>sG v3 false (λk=>zL 2 f k) λv6=>sG v3 false (λk=>zJ 2 v6 h4 k) λv7=>sGW v3 false (λk=>C.fn 246 (.of 246) [v7] h4 n5 k) h4 n5 λv8 h9 nC=>yZ v3 (.bool true) v8 λvD=>K (fV.fr b f vD) h9 nC:=by kernel_rfl
theorem fV.go:zR tbl N C (.of 180) [a0] h nx K0=IR.run fV.t3 C N (fnO fV.res K0) (zi fV.res K0) (fV.fr a0 .u .u) h nx:=yE (F:=fV) (by kernel_rfl) (λ_=>by kernel_rfl) (by kernel_rfl)
theorem fV.ret:zi fV.res K0 (fV.fr b f g) h nx=K0 g h nx:=by kernel_rfl
theorem yx.zw:IR.run yx.t0 C N O K (yx.fr b f g j l p o w) h nx =
 K (yx.fr b f (I 0) j l p o w) h nx:=by kernel_rfl
theorem yx.zu:IR.run yx.t1 C N O K (yx.fr b f g j l p o w) h nx =
 sLen b λv1=>K (yx.fr b f g j v1 (I 0) o w) h nx:=by kernel_rfl
theorem yx.jd:IR.run yx.t2 C N O K (yx.fr b f g j l p o w) h nx =
 zb .lss .int p l λv1=>K (yx.fr b f g j l p v1 w) h nx:=by kernel_rfl
theorem yx.v6:Arg.ev (.t (.of 6)) ⟨(yx.fr b f g j l p o w),[]⟩=o:=by kernel_rfl
theorem yx.fG:IR.run yx.t4 C N O K (yx.fr b f g j l p o w) h nx =
 K (yx.fr b f g p l p o w) h nx:=by kernel_rfl
theorem yx.ny:IR.run yx.t5 C N O K (yx.fr b f g j l p o w) h nx =
 zK 4 b j λv1=>zJ 4 v1 h λv2=>oL C f [v2] h nx λv3 h4 n5=>K (yx.fr b f g j l p o v3) h4 n5:=by kernel_rfl
theorem yx.ku:IR.run yx.t6 C N O K (yx.fr b f g j l p o w) h nx =
 K (yx.fr b f j j l p o w) h nx:=by kernel_rfl
theorem yx.v7:Arg.ev (.t (.of 7)) ⟨(yx.fr b f g j l p o w),[]⟩=w:=by kernel_rfl
theorem yx.rF:IR.run yx.t12 C N O K (yx.fr b f g j l p o w) h nx =
 zb .add .int p (I 1) λv1=>K (yx.fr b f g j l v1 o w) h nx:=by kernel_rfl
theorem yx.zcn (Inv:Nat->AV->T Blk->Pa->Prop) {m:Nat} (hm:m<N) (hi:Inv m p h nx)
  (step:∀ (m:Nat) (z2 z3 z5 z6 z7:AV) (h:T Blk) (nx:Pa) (R:Ks Prop),Inv m z5 h nx->(∀ (m':Nat) (w2 w3 w5 w6 w7:AV) (h':T Blk) (nx':Pa),m'<m->Inv m' w5 h' nx'->R (yx.fr b f w2 w3 l w5 w6 w7) h' nx'=.ok True)->IR.run yx.t15 C N O R (yx.fr b f z2 z3 l z5 z6 z7) h nx=.ok True) :
  IR.run yx.t16 C N O K (yx.fr b f g j l p o w) h nx=.ok True:=by
 rw [yx.t16];refine yC (λm tm h nx=>∃ z2 z3 z5 z6 z7,tm=(yx.fr b f z2 z3 l z5 z6 z7)/\Inv m z5 h nx) ?_ hm ⟨_,_,_,_,_,rfl,hi⟩;rintro m tm h nx R ⟨z2,z3,z5,z6,z7,rfl,hi⟩ hR;exact step m z2 z3 z5 z6 z7 h nx R hi λm' w2 w3 w5 w6 w7 h' nx' hlt hi'=>hR m' _ h' nx' hlt ⟨_,_,_,_,_,rfl,hi'⟩
theorem yx.rH:IR.run yx.t19 C N O K (yx.fr b f g j l p o w) h nx =
 K (yx.fr b f (I (-1)) j l p o w) h nx:=by kernel_rfl
theorem yx.go:zR tbl N C (.of 108) [a0,a1] h nx K0=IR.run yx.t22 C N (fnO yx.res K0) (zi yx.res K0) (yx.fr a0 a1 .u .u .u .u .u .u) h nx:=yE (F:=yx) (by kernel_rfl) (λ_=>by kernel_rfl) (by kernel_rfl)
theorem yx.ret:zi yx.res K0 (yx.fr b f g j l p o w) h nx=K0 g h nx:=by kernel_rfl
theorem fZ.zw:IR.run fZ.t0 C N O K (fZ.fr b f g) h nx =
 K (fZ.fr b f (.bool false)) h nx:=by kernel_rfl
theorem fZ.zu:IR.run fZ.t1 C N O K (fZ.fr b f g) h nx =
 C.fn 108 (.of 108) [b,f] h nx λv1 h2 n3=>zb .geq .int v1 (I 0) λv4=>K (fZ.fr b f v4) h2 n3:=by kernel_rfl
theorem fZ.go:zR tbl N C (.of 179) [a0,a1] h nx K0=IR.run fZ.t3 C N (fnO fZ.res K0) (zi fZ.res K0) (fZ.fr a0 a1 .u) h nx:=yE (F:=fZ) (by kernel_rfl) (λ_=>by kernel_rfl) (by kernel_rfl)
theorem fZ.ret:zi fZ.res K0 (fZ.fr b f g) h nx=K0 g h nx:=by kernel_rfl
theorem F92.zw:IR.run F92.t0 C N O K (F92.fr b f g j l p o w y z) h nx =
 K (F92.fr b .za (I 0) j l p o w y z) h nx:=by kernel_rfl
theorem F92.zu:IR.run F92.t1 C N O K (F92.fr b f g j l p o w y z) h nx =
 K (F92.fr b f g .za l p o w y z) h nx:=by kernel_rfl
theorem F92.jd:IR.run F92.t2 C N O K (F92.fr b f g j l p o w y z) h nx =
 sLen b λv1=>K (F92.fr b f g j l b v1 (I 0) y z) h nx:=by kernel_rfl
theorem F92.pu:IR.run F92.t3 C N O K (F92.fr b f g j l p o w y z) h nx =
 zb .lss .int w o λv1=>K (F92.fr b f g j l p o w v1 z) h nx:=by kernel_rfl
theorem F92.v8:Arg.ev (.t (.of 8)) ⟨(F92.fr b f g j l p o w y z),[]⟩=y:=by kernel_rfl
theorem F92.ny:IR.run F92.t5 C N O K (F92.fr b f g j l p o w y z) h nx =
 zK 1 p w λv1=>zH v1 h λv2=>K (F92.fr b f g j v2 p o w y z) h nx:=by kernel_rfl
theorem F92.ku:IR.run F92.t6 C N O K (F92.fr b f g j l p o w y z) h nx =
 C.fn 179 (.of 179) [l,(.fn 180 (.of 180) [])] h nx λv1 h2 n3=>K (F92.fr b f g j l p o w y v1) h2 n3:=by kernel_rfl
theorem F92.v9:Arg.ev (.t (.of 9)) ⟨(F92.fr b f g j l p o w y z),[]⟩=z:=by kernel_rfl
theorem F92.dx:IR.run F92.t11 C N O K (F92.fr b f g j l p o w y z) h nx =
 C.fn 181 (.of 181) [l] h nx λv1 h2 n3=>yV 1 1 [.za] [(0,1,v1)] h2 n3 λv4 h5 n6=>rJ 1 24 j v4 h5 n6 λv7 h8 n9=>K (F92.fr b f g v7 l p o w y z) h8 n9:=by kernel_rfl
theorem F92.tH:IR.run F92.t15 C N O K (F92.fr b f g j l p o w y z) h nx =
 zb .add .int w (I 1) λv1=>K (F92.fr b f g j l p o v1 y z) h nx:=by kernel_rfl
theorem F92.zmy (Inv:Nat->AV->AV->T Blk->Pa->Prop) {m:Nat} (hm:m<N) (hi:Inv m j w h nx)
  (step:∀ (m:Nat) (z1 z2 z3 z4 z7 z8 z9:AV) (h:T Blk) (nx:Pa) (R:Ks Prop),Inv m z3 z7 h nx->(∀ (m':Nat) (w1 w2 w3 w4 w7 w8 w9:AV) (h':T Blk) (nx':Pa),m'<m->Inv m' w3 w7 h' nx'->R (F92.fr b w1 w2 w3 w4 p o w7 w8 w9) h' nx'=.ok True)->IR.run F92.t18 C N O R (F92.fr b z1 z2 z3 z4 p o z7 z8 z9) h nx=.ok True) :
  IR.run F92.t19 C N O K (F92.fr b f g j l p o w y z) h nx=.ok True:=by
 rw [F92.t19];refine yC (λm tm h nx=>∃ z1 z2 z3 z4 z7 z8 z9,tm=(F92.fr b z1 z2 z3 z4 p o z7 z8 z9)/\Inv m z3 z7 h nx) ?_ hm ⟨_,_,_,_,_,_,_,rfl,hi⟩;rintro m tm h nx R ⟨z1,z2,z3,z4,z7,z8,z9,rfl,hi⟩ hR;exact step m z1 z2 z3 z4 z7 z8 z9 h nx R hi λm' w1 w2 w3 w4 w7 w8 w9 h' nx' hlt hi'=>hR m' _ h' nx' hlt ⟨_,_,_,_,_,_,_,rfl,hi'⟩
theorem F92.rW:IR.run F92.t22 C N O K (F92.fr b f g j l p o w y z) h nx =
 K (F92.fr b j (I 0) j l p o w y z) h nx:=by kernel_rfl
theorem F92.go:zR tbl N C (.of 92) [a0] h nx K0=IR.run F92.t26 C N (fnO F92.res K0) (zi F92.res K0) (F92.fr a0 .u .u .u .u .u .u .u .u .u) h nx:=yE (F:=F92) (by kernel_rfl) (λ_=>by kernel_rfl) (by kernel_rfl)
theorem F92.ret:zi F92.res K0 (F92.fr b f g j l p o w y z) h nx=K0 (.tup [f,g]) h nx:=by kernel_rfl
theorem ng.zw:IR.run ng.t0 C N O K (ng.fr b f g) h nx =
 dw b h nx λv1 h2 n3=>K (ng.fr b v1 (.bool false)) h2 n3:=by kernel_rfl
theorem ng.zu:IR.run ng.t1 C N O K (ng.fr b f g) h nx =
 zJ 4 f h λv1=>C.fn 110 (.of 110) [v1] h nx λv2 h3 n4=>zb .neq .int v2 (I 0) λv5=>K (ng.fr b f v5) h3 n4:=by kernel_rfl
theorem ng.go:zR tbl N C (.of 109) [a0] h nx K0=IR.run ng.t3 C N (fnO ng.res K0) (zi ng.res K0) (ng.fr a0 .u .u) h nx:=yE (F:=ng) (by kernel_rfl) (λ_=>by kernel_rfl) (by kernel_rfl)
theorem ng.ret:zi ng.res K0 (ng.fr b f g) h nx=K0 g h nx:=by kernel_rfl
theorem F31.zw:IR.run F31.t0 C N O K (F31.fr b f g j l p o w y z a d e c i s q u v A B D E G M P H L) h nx =
 dw b h nx λv1 h2 n3=>K (F31.fr b v1 .za (I 0) l p o w y z a d e c i s q u v A B D E G M P H L) h2 n3:=by kernel_rfl
theorem F31.zu:IR.run F31.t1 C N O K (F31.fr b f g j l p o w y z a d e c i s q u v A B D E G M P H L) h nx =
 zJ 2 f h λv1=>C.fn 18 (.of 18) [v1] h nx λv2 h3 n4=>K (F31.fr b f g j v2 p o w y z a d e c i s q u v A B D E G M P H L) h3 n4:=by kernel_rfl
theorem F31.jd:IR.run F31.t2 C N O K (F31.fr b f g j l p o w y z a d e c i s q u v A B D E G M P H L) h nx =
 zb .neq .int l (I 0) λv1=>K (F31.fr b f g j l p o w y z a d e c i s q v1 v A B D E G M P H L) h nx:=by kernel_rfl
theorem F31.pu:IR.run F31.t3 C N O K (F31.fr b f g j l p o w y z a d e c i s q u v A B D E G M P H L) h nx =
 K (F31.fr b f .za l l p o w y z a d e c i s q u v A B D E G M P H L) h nx:=by kernel_rfl
theorem F31.v17:Arg.ev (.t (.of 17)) ⟨(F31.fr b f g j l p o w y z a d e c i s q u v A B D E G M P H L),[]⟩=u:=by kernel_rfl
theorem F31.fE:IR.run F31.t8 C N O K (F31.fr b f g j l p o w y z a d e c i s q u v A B D E G M P H L) h nx =
 K (F31.fr b f g j l .za o w y z a d e c i s q u v A B D E G M P H L) h nx:=by kernel_rfl
theorem F31.nP:IR.run F31.t9 C N O K (F31.fr b f g j l p o w y z a d e c i s q u v A B D E G M P H L) h nx =
 K (F31.fr b f g j l p .za w y z a d e c i s q u v A B D E G M P H L) h nx:=by kernel_rfl
theorem F31.nX:IR.run F31.t10 C N O K (F31.fr b f g j l p o w y z a d e c i s q u v A B D E G M P H L) h nx =
 zL 1 f λv1=>zH v1 h λv2=>sLen v2 λv3=>K (F31.fr b f g j l p o w y z a d e c i s q u v2 v3 (I 0) D E G M P H L) h nx:=by kernel_rfl
theorem F31.dx:IR.run F31.t11 C N O K (F31.fr b f g j l p o w y z a d e c i s q u v A B D E G M P H L) h nx =
 zb .lss .int B A λv1=>K (F31.fr b f g j l p o w y z a d e c i s q u v A B v1 E G M P H L) h nx:=by kernel_rfl
theorem F31.v21:Arg.ev (.t (.of 21)) ⟨(F31.fr b f g j l p o w y z a d e c i s q u v A B D E G M P H L),[]⟩=D:=by kernel_rfl
theorem F31.nS:IR.run F31.t13 C N O K (F31.fr b f g j l p o w y z a d e c i s q u v A B D E G M P H L) h nx =
 zK 1 v B λv1=>zH v1 h λv2=>K (F31.fr b f g j l p o B v2 z a d e c i s q u v A B D E G M P H L) h nx:=by kernel_rfl
theorem F31.nT:IR.run F31.t14 C N O K (F31.fr b f g j l p o w y z a d e c i s q u v A B D E G M P H L) h nx =
 zL 0 f λv1=>zH v1 h λv2=>zL 1 f λv3=>zH v3 h λv4=>sLen v4 λv5=>C.fn 104 (.of 104) [v2,y] h nx λv6 h7 n8=>(sLen v4 λvB=>zO vB v5 ((zH v3 h7 λvE=>zO vE v4 ((zL 1 f λvF=>zO vF v3 (C.fn 105 (.of 105) [v5] h7 n8 λv9 hB nB=>K (F31.fr b f g j l p o w y v6 v9 d e c i s q u v A B D E G M P H L) hB nB)))))):=by kernel_rfl
theorem F31.tH:IR.run F31.t15 C N O K (F31.fr b f g j l p o w y z a d e c i s q u v A B D E G M P H L) h nx =
 sLen p λv1=>K (F31.fr b f g j l p o w y z a d e c i s q u v A B D p v1 (I 0) P H L) h nx:=by kernel_rfl
theorem F31.rG:IR.run F31.t16 C N O K (F31.fr b f g j l p o w y z a d e c i s q u v A B D E G M P H L) h nx =
 zb .lss .int M G λv1=>K (F31.fr b f g j l p o w y z a d e c i s q u v A B D E G M v1 H L) h nx:=by kernel_rfl
theorem F31.v25:Arg.ev (.t (.of 25)) ⟨(F31.fr b f g j l p o w y z a d e c i s q u v A B D E G M P H L),[]⟩=P:=by kernel_rfl
theorem F31.aT:IR.run F31.t18 C N O K (F31.fr b f g j l p o w y z a d e c i s q u v A B D E G M P H L) h nx =
 zK 3 E M λv1=>zJ 3 v1 h λv2=>yW [.za,.za,(I 0)] h nx λv3 h4 n5=>zS 3 v3 v2 h4 n5 λv6 h7 n8=>K (F31.fr b f g j l p o w y z a v3 e c i s q u v A B D E G M P H L) h7 n8:=by kernel_rfl
theorem F31.rH:IR.run F31.t19 C N O K (F31.fr b f g j l p o w y z a d e c i s q u v A B D E G M P H L) h nx =
 zL 2 d λv1=>zH v1 h λv2=>zK 4 z v2 λv3=>zJ 4 v3 h λv4=>yW [(I 0),.za,(I 0),.za] h nx λv5 h6 n7=>zS 4 v5 v4 h6 n7 λv8 h9 nC=>K (F31.fr b f g j l p o w y z a d v5 c i s q u v A B D E G M P H L) h9 nC:=by kernel_rfl
theorem F31.sQ:IR.run F31.t20 C N O K (F31.fr b f g j l p o w y z a d e c i s q u v A B D E G M P H L) h nx =
 zJ 4 e h λv1=>zL 0 d λv2=>zH v2 h λv3=>C.fn 106 (.of 106) [z,v1,v3] h nx λv4 h5 n6=>K (F31.fr b f g j l p o w y z a d e c i s q u v A B D E G M P H L) h5 n6:=by kernel_rfl
theorem F31.oM:IR.run F31.t21 C N O K (F31.fr b f g j l p o w y z a d e c i s q u v A B D E G M P H L) h nx =
 zJ 4 e h λv1=>zL 1 d λv2=>zH v2 h λv3=>C.fn 107 (.of 107) [v1] h nx λv4 h5 n6=>(zH v2 h5 λvD=>zO vD v3 ((zL 1 d λvC=>zO vC v2 (zO a a (C.fn 106 (.of 106) [a,v4,v3] h5 n6 λv7 h8 n9=>K (F31.fr b f g j l p o w y z a d e c i s q u v A B D E G M P H L) h8 n9))))):=by kernel_rfl
theorem F31.eY:IR.run F31.t26 C N O K (F31.fr b f g j l p o w y z a d e c i s q u v A B D E G M P H L) h nx =
 zb .add .int M (I 1) λv1=>K (F31.fr b f g j l p o w y z a d e c i s q u v A B D E G v1 P H L) h nx:=by kernel_rfl
theorem F31.zx1 (Inv:Nat->AV->T Blk->Pa->Prop) {m:Nat} (hm:m<N) (hi:Inv m M h nx)
  (step:∀ (m:Nat) (zB zC zD zE:AV) (h:T Blk) (nx:Pa) (R:Ks Prop),Inv m zD h nx->(∀ (m':Nat) (wB wC wD wE:AV) (h':T Blk) (nx':Pa),m'<m->Inv m' wD h' nx'->R (F31.fr b f g j l p o w y z a wB wC c i s q u v A B D E G wD wE H L) h' nx'=.ok True)->IR.run F31.t29 C N O R (F31.fr b f g j l p o w y z a zB zC c i s q u v A B D E G zD zE H L) h nx=.ok True) :
  IR.run F31.t30 C N O K (F31.fr b f g j l p o w y z a d e c i s q u v A B D E G M P H L) h nx=.ok True:=by
 rw [F31.t30];refine yC (λm tm h nx=>∃ zB zC zD zE,tm=(F31.fr b f g j l p o w y z a zB zC c i s q u v A B D E G zD zE H L)/\Inv m zD h nx) ?_ hm ⟨_,_,_,_,rfl,hi⟩;rintro m tm h nx R ⟨zB,zC,zD,zE,rfl,hi⟩ hR;exact step m zB zC zD zE h nx R hi λm' wB wC wD wE h' nx' hlt hi'=>hR m' _ h' nx' hlt ⟨_,_,_,_,rfl,hi'⟩
theorem F31.zm1:IR.run F31.t33 C N O K (F31.fr b f g j l p o w y z a d e c i s q u v A B D E G M P H L) h nx =
 C.fn 108 (.of 108) [z,(.fn 109 (.of 109) [])] h nx λv1 h2 n3=>K (F31.fr b f g j l p o w y z a d e v1 i s q u v A B D E G M P H L) h2 n3:=by kernel_rfl
theorem F31.eT:IR.run F31.t34 C N O K (F31.fr b f g j l p o w y z a d e c i s q u v A B D E G M P H L) h nx =
 zb .lss .int c (I 0) λv1=>K (F31.fr b f g j l p o w y z a d e c i s q u v A B D E G M P v1 L) h nx:=by kernel_rfl
theorem F31.zfj:IR.run F31.t35 C N O K (F31.fr b f g j l p o w y z a d e c i s q u v A B D E G M P H L) h nx =
 qP 4 a none (some w) (some w) λv1=>yV 1 1 [.za] [(0,1,v1)] h nx λv2 h3 n4=>C.fn 92 (.of 92) [v2] h3 n4 λv5 h6 n7=>fw 0 v5 λv8=>fw 1 v5 λv9=>K (F31.fr b f g j l p o w y z a d e c v8 v9 q u v A B D E G M P H L) h6 n7:=by kernel_rfl
theorem F31.zjn:IR.run F31.t36 C N O K (F31.fr b f g j l p o w y z a d e c i s q u v A B D E G M P H L) h nx =
 zb .neq .int s (I 0) λv1=>K (F31.fr b f g j l p o w y z a d e c i s q u v A B D E G M P H v1) h nx:=by kernel_rfl
theorem F31.v27:Arg.ev (.t (.of 27)) ⟨(F31.fr b f g j l p o w y z a d e c i s q u v A B D E G M P H L),[]⟩=L:=by kernel_rfl
theorem F31.zm2:IR.run F31.t41 C N O K (F31.fr b f g j l p o w y z a d e c i s q u v A B D E G M P H L) h nx =
 zK 1 i (I 0) λv1=>zH v1 h λv2=>j6 [(I 0),.za] [(0,1,w),(1,1,v2)] λv3=>yV 2 1 [(I 0),.za] [(0,2,v3)] h nx λv4 h5 n6=>zcq C 2 32 o v4 h5 n6 λv7 h8 n9=>K (F31.fr b f g j l p v7 w y z a d e c i s q u v A B D E G M P H L) h8 n9:=by kernel_rfl
theorem F31.v26:Arg.ev (.t (.of 26)) ⟨(F31.fr b f g j l p o w y z a d e c i s q u v A B D E G M P H L),[]⟩=H:=by kernel_rfl
theorem F31.zm3:IR.run F31.t47 C N O K (F31.fr b f g j l p o w y z a d e c i s q u v A B D E G M P H L) h nx =
 C.fn 96 (.of 96) [(I (-1))] h nx λv1 h2 n3=>C.fn 111 (.of 111) [a,v1] h2 n3 λv4 h5 n6=>K (F31.fr b f g j l p o w y z a d e c i s q u v A B D E G M P H L) h5 n6:=by kernel_rfl
theorem F31.zfl:IR.run F31.t48 C N O K (F31.fr b f g j l p o w y z a d e c i s q u v A B D E G M P H L) h nx =
 C.fn 96 (.of 96) [(I 1)] h nx λv1 h2 n3=>zK 4 a w λv4=>zS 4 v4 v1 h2 n3 λv5 h6 n7=>K (F31.fr b f g j l p o w y z a d e c i s q u v A B D E G M P H L) h6 n7:=by kernel_rfl
theorem F31.zm4:IR.run F31.t49 C N O K (F31.fr b f g j l p o w y z a d e c i s q u v A B D E G M P H L) h nx =
 zK 4 z c λv1=>zJ 4 v1 h λv2=>C.fn 112 (.of 112) [v2] h nx λv3 h4 n5=>yW [(I 0),.za,(I 0),.za] h4 n5 λv6 h7 n8=>zS 4 v6 v3 h7 n8 λv9 hB nB=>K (F31.fr b f g j l p o w y z a d e c i s v6 u v A B D E G M P H L) hB nB:=by kernel_rfl
theorem F31.zx2:IR.run F31.t50 C N O K (F31.fr b f g j l p o w y z a d e c i s q u v A B D E G M P H L) h nx =
 zJ 4 q h λv1=>C.fn 111 (.of 111) [z,v1] h nx λv2 h3 n4=>K (F31.fr b f g j l p o w y z a d e c i s q u v A B D E G M P H L) h3 n4:=by kernel_rfl
theorem F31.zx3:IR.run F31.t51 C N O K (F31.fr b f g j l p o w y z a d e c i s q u v A B D E G M P H L) h nx =
 zJ 4 q h λv1=>C.fn 111 (.of 111) [a,v1] h nx λv2 h3 n4=>K (F31.fr b f g j l p o w y z a d e c i s q u v A B D E G M P H L) h3 n4:=by kernel_rfl
theorem F31.zfm:IR.run F31.t52 C N O K (F31.fr b f g j l p o w y z a d e c i s q u v A B D E G M P H L) h nx =
 j6 [.za,.za,(I 0)] [(0,1,z),(1,1,a),(2,1,c)] λv1=>yV 3 1 [.za,.za,(I 0)] [(0,3,v1)] h nx λv2 h3 n4=>rJ 3 56 p v2 h3 n4 λv5 h6 n7=>K (F31.fr b f g j l v5 o w y z a d e c i s q u v A B D E G M P H L) h6 n7:=by kernel_rfl
theorem F31.zti:IR.run F31.t64 C N O K (F31.fr b f g j l p o w y z a d e c i s q u v A B D E G M P H L) h nx =
 zb .add .int B (I 1) λv1=>K (F31.fr b f g j l p o w y z a d e c i s q u v A v1 D E G M P H L) h nx:=by kernel_rfl
theorem F31.zx4 (Inv:Nat->AV->AV->AV->T Blk->Pa->Prop) {m:Nat} (hm:m<N) (hi:Inv m p o B h nx)
  (step:∀ (m:Nat) (z2 z3 z5 z6 z7 z8 z9 zF zB zC zG zI zA zM zN zP zQ zT zD zE zU zV:AV) (h:T Blk) (nx:Pa) (R:Ks Prop),Inv m z5 z6 zN h nx->(∀ (m':Nat) (w2 w3 w5 w6 w7 w8 w9 wF wB wC wG wH wA wI wJ wK wL wM wD wE wN wO:AV) (h':T Blk) (nx':Pa),m'<m->Inv m' w5 w6 wJ h' nx'->R (F31.fr b f w2 w3 l w5 w6 w7 w8 w9 wF wB wC wG wH wA wI u v A wJ wK wL wM wD wE wN wO) h' nx'=.ok True)->IR.run F31.t67 C N O R (F31.fr b f z2 z3 l z5 z6 z7 z8 z9 zF zB zC zG zI zA zM u v A zN zP zQ zT zD zE zU zV) h nx=.ok True) :
  IR.run F31.t68 C N O K (F31.fr b f g j l p o w y z a d e c i s q u v A B D E G M P H L) h nx=.ok True:=by
 rw [F31.t68];refine yC (λm tm h nx=>∃ z2 z3 z5 z6 z7 z8 z9 zF zB zC zG zI zA zM zN zP zQ zT zD zE zU zV,tm=(F31.fr b f z2 z3 l z5 z6 z7 z8 z9 zF zB zC zG zI zA zM u v A zN zP zQ zT zD zE zU zV)/\Inv m z5 z6 zN h nx) ?_ hm ⟨_,_,_,_,_,_,_,_,_,_,_,_,_,_,_,_,_,_,_,_,_,_,rfl,hi⟩;rintro m tm h nx R ⟨z2,z3,z5,z6,z7,z8,z9,zF,zB,zC,zG,zI,zA,zM,zN,zP,zQ,zT,zD,zE,zU,zV,rfl,hi⟩ hR;exact step m z2 z3 z5 z6 z7 z8 z9 zF zB zC zG zI zA zM zN zP zQ zT zD zE zU zV h nx R hi λm' w2 w3 w5 w6 w7 w8 w9 wF wB wC wG wH wA wI wJ wK wL wM wD wE wN wO h' nx' hlt hi'=>hR m' _ h' nx' hlt ⟨_,_,_,_,_,_,_,_,_,_,_,_,_,_,_,_,_,_,_,_,_,_,rfl,hi'⟩
theorem F31.zx5:IR.run F31.t71 C N O K (F31.fr b f g j l p o w y z a d e c i s q u v A B D E G M P H L) h nx =
 K (F31.fr b f o (I 0) l p o w y z a d e c i s q u v A B D E G M P H L) h nx:=by kernel_rfl
theorem F31.go:zR tbl N C (.of 31) [a0] h nx K0=IR.run F31.t77 C N (fnO F31.res K0) (zi F31.res K0) (F31.fr a0 .u .u .u .u .u .u .u .u .u .u .u .u .u .u .u .u .u .u .u .u .u .u .u .u .u .u .u) h nx:=yE (F:=F31) (by kernel_rfl) (λ_=>by kernel_rfl) (by kernel_rfl)
theorem F31.ret:zi F31.res K0 (F31.fr b f g j l p o w y z a d e c i s q u v A B D E G M P H L) h nx=K0 (.tup [g,j]) h nx:=by kernel_rfl
theorem F36.zw:IR.run F36.t0 C N O K (F36.fr b f g j l) h nx =
 K (F36.fr b .za g j l) h nx:=by kernel_rfl
theorem F36.zu:IR.run F36.t1 C N O K (F36.fr b f g j l) h nx =
 K (F36.fr b f .za j l) h nx:=by kernel_rfl
theorem F36.jd:IR.run F36.t2 C N O K (F36.fr b f g j l) h nx =
 K (F36.fr b f g (I 0) l) h nx:=by kernel_rfl
theorem F36.pu:IR.run F36.t3 C N O K (F36.fr b f g j l) h nx =
 zb .lss .int j b λv1=>K (F36.fr b f g j v1) h nx:=by kernel_rfl
theorem F36.v4:Arg.ev (.t (.of 4)) ⟨(F36.fr b f g j l),[]⟩=l:=by kernel_rfl
theorem F36.ku:IR.run F36.t6 C N O K (F36.fr b f g j l) h nx =
 yV 1 1 [(.str [])] [(0,1,(.str [48]))] h nx λv1 h2 n3=>rJ 1 16 g v1 h2 n3 λv4 h5 n6=>K (F36.fr b f v4 j l) h5 n6:=by kernel_rfl
theorem F36.fE:IR.run F36.t8 C N O K (F36.fr b f g j l) h nx =
 zb .add .int j (I 1) λv1=>K (F36.fr b f g v1 l) h nx:=by kernel_rfl
theorem F36.oN (Inv:Nat->AV->AV->T Blk->Pa->Prop) {m:Nat} (hm:m<N) (hi:Inv m g j h nx)
  (step:∀ (m:Nat) (z2 z3 z4:AV) (h:T Blk) (nx:Pa) (R:Ks Prop),Inv m z2 z3 h nx->(∀ (m':Nat) (w2 w3 w4:AV) (h':T Blk) (nx':Pa),m'<m->Inv m' w2 w3 h' nx'->R (F36.fr b f w2 w3 w4) h' nx'=.ok True)->IR.run F36.t10 C N O R (F36.fr b f z2 z3 z4) h nx=.ok True) :
  IR.run F36.t11 C N O K (F36.fr b f g j l) h nx=.ok True:=by
 rw [F36.t11];refine yC (λm tm h nx=>∃ z2 z3 z4,tm=(F36.fr b f z2 z3 z4)/\Inv m z2 z3 h nx) ?_ hm ⟨_,_,_,rfl,hi⟩;rintro m tm h nx R ⟨z2,z3,z4,rfl,hi⟩ hR;exact step m z2 z3 z4 h nx R hi λm' w2 w3 w4 h' nx' hlt hi'=>hR m' _ h' nx' hlt ⟨_,_,_,rfl,hi'⟩
theorem F36.nT:IR.run F36.t14 C N O K (F36.fr b f g j l) h nx =
 K (F36.fr b g g j l) h nx:=by kernel_rfl
theorem F36.go:zR tbl N C (.of 36) [a0] h nx K0=IR.run F36.t18 C N (fnO F36.res K0) (zi F36.res K0) (F36.fr a0 .u .u .u .u) h nx:=yE (F:=F36) (by kernel_rfl) (λ_=>by kernel_rfl) (by kernel_rfl)
theorem F36.ret:zi F36.res K0 (F36.fr b f g j l) h nx=K0 f h nx:=by kernel_rfl
theorem F98.zw:IR.run F98.t0 C N O K (F98.fr b f g j l p o) h nx =
 dw b h nx λv1 h2 n3=>K (F98.fr b f v1 .za l p o) h2 n3:=by kernel_rfl
theorem F98.zu:IR.run F98.t1 C N O K (F98.fr b f g j l p o) h nx =
 zL 0 g λv1=>zH v1 h λv2=>C.fn 36 (.of 36) [v2] h nx λv3 h4 n5=>K (F98.fr b f g j v3 p o) h4 n5:=by kernel_rfl
theorem F98.jd:IR.run F98.t2 C N O K (F98.fr b f g j l p o) h nx =
 K (F98.fr b f g j l (I 0) o) h nx:=by kernel_rfl
theorem F98.pu:IR.run F98.t3 C N O K (F98.fr b f g j l p o) h nx =
 zL 1 g λv1=>zH v1 h λv2=>zK 1 v2 f λv3=>zH v3 h λv4=>sLen v4 λv5=>zb .lss .int p v5 λv6=>K (F98.fr b f g j l p v6) h nx:=by kernel_rfl
theorem F98.v6:Arg.ev (.t (.of 6)) ⟨(F98.fr b f g j l p o),[]⟩=o:=by kernel_rfl
theorem F98.ku:IR.run F98.t6 C N O K (F98.fr b f g j l p o) h nx =
 zL 1 g λv1=>zH v1 h λv2=>zK 1 v2 f λv3=>zH v3 h λv4=>zK 1 v4 p λv5=>zH v5 h λv6=>zK 1 l v6 λv7=>zS 1 v7 (.str [49]) h nx λv8 h9 nC=>K (F98.fr b f g j l p o) h9 nC:=by kernel_rfl
theorem F98.fE:IR.run F98.t8 C N O K (F98.fr b f g j l p o) h nx =
 zb .add .int p (I 1) λv1=>K (F98.fr b f g j l v1 o) h nx:=by kernel_rfl
theorem F98.oN (Inv:Nat->AV->T Blk->Pa->Prop) {m:Nat} (hm:m<N) (hi:Inv m p h nx)
  (step:∀ (m:Nat) (z5 z6:AV) (h:T Blk) (nx:Pa) (R:Ks Prop),Inv m z5 h nx->(∀ (m':Nat) (w5 w6:AV) (h':T Blk) (nx':Pa),m'<m->Inv m' w5 h' nx'->R (F98.fr b f g j l w5 w6) h' nx'=.ok True)->IR.run F98.t10 C N O R (F98.fr b f g j l z5 z6) h nx=.ok True) :
  IR.run F98.t11 C N O K (F98.fr b f g j l p o) h nx=.ok True:=by
 rw [F98.t11];refine yC (λm tm h nx=>∃ z5 z6,tm=(F98.fr b f g j l z5 z6)/\Inv m z5 h nx) ?_ hm ⟨_,_,rfl,hi⟩;rintro m tm h nx R ⟨z5,z6,rfl,hi⟩ hR;exact step m z5 z6 h nx R hi λm' w5 w6 h' nx' hlt hi'=>hR m' _ h' nx' hlt ⟨_,_,rfl,hi'⟩
theorem F98.nT:IR.run F98.t14 C N O K (F98.fr b f g j l p o) h nx =
 K (F98.fr b f g l l p o) h nx:=by kernel_rfl
theorem F98.go:zR tbl N C (.of 98) [a0,a1] h nx K0=IR.run F98.t18 C N (fnO F98.res K0) (zi F98.res K0) (F98.fr a0 a1 .u .u .u .u .u) h nx:=yE (F:=F98) (by kernel_rfl) (λ_=>by kernel_rfl) (by kernel_rfl)
theorem F98.ret:zi F98.res K0 (F98.fr b f g j l p o) h nx=K0 j h nx:=by kernel_rfl
theorem zk.zw:IR.run zk.t0 C N O K (zk.fr b f g j l p o w y z a d e c) h nx =
 K (zk.fr b f .za (.bool false) l p o w y z a d e c) h nx:=by kernel_rfl
theorem zk.zu:IR.run zk.t1 C N O K (zk.fr b f g j l p o w y z a d e c) h nx =
 K (zk.fr b f g j .za p o w y z a d e c) h nx:=by kernel_rfl
theorem zk.jd:IR.run zk.t2 C N O K (zk.fr b f g j l p o w y z a d e c) h nx =
 C.fn 196 (.of 196) [b] h nx λv1 h2 n3=>K (zk.fr b f g j l v1 o w y z a d e c) h2 n3:=by kernel_rfl
theorem zk.pu:IR.run zk.t3 C N O K (zk.fr b f g j l p o w y z a d e c) h nx =
 K (zk.fr b f g j l p (I 0) w y z a d e c) h nx:=by kernel_rfl
theorem zk.fG:IR.run zk.t4 C N O K (zk.fr b f g j l p o w y z a d e c) h nx =
 sLen b λv1=>zb .lss .int o v1 λv2=>K (zk.fr b f g j l p o w y z a v2 e c) h nx:=by kernel_rfl
theorem zk.v11:Arg.ev (.t (.of 11)) ⟨(zk.fr b f g j l p o w y z a d e c),[]⟩=d:=by kernel_rfl
theorem zk.fe:IR.run zk.t7 C N O K (zk.fr b f g j l p o w y z a d e c) h nx =
 sChk ((gE (fB 0 [(.str [])]) []).isSome&&true) (zK 1 b o λv1=>zH v1 h λv2=>zK 1 f o λv3=>zH v3 h λv4=>sChk ((gE (fB 1 [(.str [])]) [(0,1,v4)]).isSome&&true) (yV 1 0 [(.str [])] [] h nx λv5 h6 n7=>(zH v3 h6 λvG=>zO vG v4 ((zK 1 f o λvH=>zO vH v3 (zO o o (zO f f ((zH v1 h6 λvI=>zO vI v2 ((zK 1 b o λvJ=>zO vJ v1 (zO o o (zO b b (zO l l (rJ 1 16 v5 v2 h6 n7 λv8 h9 nC=>(zH v3 h9 λvK=>zO vK v4 ((zK 1 f o λvL=>zO vL v3 (zO o o (zO f f ((zH v1 h9 λvM=>zO vM v2 ((zK 1 b o λvN=>zO vN v1 (zO o o (zO b b (zO l l (yV 1 1 [(.str [])] [(0,1,v4)] h9 nC λvD hA nA=>(zH v1 hA λvO=>zO vO v2 ((zK 1 b o λvP=>zO vP v1 (zO o o (zO b b (zO l l (rJ 1 16 v8 vD hA nA λvB hC nD=>zO l l (yV 1 1 [.za] [(0,1,vB)] hC nD λvQ hD nE=>zO l l (rJ 1 24 l vQ hD nE λvR hE nF=>K (zk.fr b f g j vR p o w y z a d e c) hE nF))))))))))))))))))))))))))))))))))))):=by kernel_rfl
theorem zk.nP:IR.run zk.t9 C N O K (zk.fr b f g j l p o w y z a d e c) h nx =
 zb .add .int o (I 1) λv1=>K (zk.fr b f g j l p v1 w y z a d e c) h nx:=by kernel_rfl
theorem zk.zx6 (Inv:Nat->AV->AV->T Blk->Pa->Prop) {m:Nat} (hm:m<N) (hi:Inv m l o h nx)
  (step:∀ (m:Nat) (z4 z6 zB:AV) (h:T Blk) (nx:Pa) (R:Ks Prop),Inv m z4 z6 h nx->(∀ (m':Nat) (w4 w6 wB:AV) (h':T Blk) (nx':Pa),m'<m->Inv m' w4 w6 h' nx'->R (zk.fr b f g j w4 p w6 w y z a wB e c) h' nx'=.ok True)->IR.run zk.t11 C N O R (zk.fr b f g j z4 p z6 w y z a zB e c) h nx=.ok True) :
  IR.run zk.t12 C N O K (zk.fr b f g j l p o w y z a d e c) h nx=.ok True:=by
 rw [zk.t12];refine yC (λm tm h nx=>∃ z4 z6 zB,tm=(zk.fr b f g j z4 p z6 w y z a zB e c)/\Inv m z4 z6 h nx) ?_ hm ⟨_,_,_,rfl,hi⟩;rintro m tm h nx R ⟨z4,z6,zB,rfl,hi⟩ hR;exact step m z4 z6 zB h nx R hi λm' w4 w6 wB h' nx' hlt hi'=>hR m' _ h' nx' hlt ⟨_,_,_,rfl,hi'⟩
theorem zk.tH:IR.run zk.t15 C N O K (zk.fr b f g j l p o w y z a d e c) h nx =
 C.fn 190 (.of 190) [l] h nx λv1 h2 n3=>fw 0 v1 λv4=>fw 1 v1 λv5=>K (zk.fr b f g j l p o v4 v5 z a d e c) h2 n3:=by kernel_rfl
theorem zk.rG:IR.run zk.t16 C N O K (zk.fr b f g j l p o w y z a d e c) h nx =
 C.fn 36 (.of 36) [p] h nx λv1 h2 n3=>K (zk.fr b f g j l p o w y v1 a d e c) h2 n3:=by kernel_rfl
theorem zk.tT:IR.run zk.t17 C N O K (zk.fr b f g j l p o w y z a d e c) h nx =
 K (zk.fr b f g j l p o w y z (I 0) d e c) h nx:=by kernel_rfl
theorem zk.aT:IR.run zk.t18 C N O K (zk.fr b f g j l p o w y z a d e c) h nx =
 sLen y λv1=>zb .lss .int a v1 λv2=>K (zk.fr b f g j l p o w y z a d v2 c) h nx:=by kernel_rfl
theorem zk.v12:Arg.ev (.t (.of 12)) ⟨(zk.fr b f g j l p o w y z a d e c),[]⟩=e:=by kernel_rfl
theorem zk.oM:IR.run zk.t21 C N O K (zk.fr b f g j l p o w y z a d e c) h nx =
 zK 1 y a λv1=>zH v1 h λv2=>zb .eql .int v2 p λv3=>K (zk.fr b f g j l p o w y z a d e v3) h nx:=by kernel_rfl
theorem zk.rW:IR.run zk.t22 C N O K (zk.fr b f g j l p o w y z a d e c) h nx =
 K (zk.fr b f .za (.bool false) l p o w y z a d e c) h nx:=by kernel_rfl
theorem zk.v13:Arg.ev (.t (.of 13)) ⟨(zk.fr b f g j l p o w y z a d e c),[]⟩=c:=by kernel_rfl
theorem zk.eY:IR.run zk.t26 C N O K tm h nx=yB zk.zm5 C ⟨tm,[]⟩ h nx (λtm h nx=>K tm.v h nx):=oQ ..
theorem zk.zq6:yB (zk.zm6 r) C ⟨(zk.fr b f g j l p o w y z a d e c),[]⟩ h nx Kt =
 zK 1 y a λv1=>zH v1 h λv2=>zK 1 w a λv3=>yB r C ⟨(zk.fr b f g j l p o w y z a d e c),v3::a::w::v2::v1::a::y::z::[]⟩ h nx Kt:=by kernel_rfl
theorem zk.zq7:yB (zk.zm7 []) C ⟨(zk.fr b f g j l p o w y z a d e c),s0::s1::s2::s3::s4::s5::s6::s7::[]⟩ h nx Kt =
 zH s0 h λv1=>zK 1 v1 p λv2=>zH v2 h λv3=>zK 1 s7 s3 λv4=>zS 1 v4 v3 h nx λv5 h6 n7=>Kt ⟨(zk.fr b f g j l p o w y z a d e c),v4::v3::v2::p::v1::s0::s1::s2::s3::s4::s5::s6::s7::[]⟩ h6 n7:=by kernel_rfl
theorem zk.zm0:IR.run zk.t29 C N O K (zk.fr b f g j l p o w y z a d e c) h nx =
 zb .add .int a (I 1) λv1=>K (zk.fr b f g j l p o w y z v1 d e c) h nx:=by kernel_rfl
theorem zk.zx7 (Inv:Nat->AV->T Blk->Pa->Prop) {m:Nat} (hm:m<N) (hi:Inv m a h nx)
  (step:∀ (m:Nat) (z2 z3 zF zC zG:AV) (h:T Blk) (nx:Pa) (R:Ks Prop),Inv m zF h nx->(∀ (m':Nat) (w2 w3 wF wC wG:AV) (h':T Blk) (nx':Pa),m'<m->Inv m' wF h' nx'->R (zk.fr b f w2 w3 l p o w y z wF d wC wG) h' nx'=.ok True)->IR.run zk.t31 C N O R (zk.fr b f z2 z3 l p o w y z zF d zC zG) h nx=.ok True) :
  IR.run zk.t32 C N O K (zk.fr b f g j l p o w y z a d e c) h nx=.ok True:=by
 rw [zk.t32];refine yC (λm tm h nx=>∃ z2 z3 zF zC zG,tm=(zk.fr b f z2 z3 l p o w y z zF d zC zG)/\Inv m zF h nx) ?_ hm ⟨_,_,_,_,_,rfl,hi⟩;rintro m tm h nx R ⟨z2,z3,zF,zC,zG,rfl,hi⟩ hR;exact step m z2 z3 zF zC zG h nx R hi λm' w2 w3 wF wC wG h' nx' hlt hi'=>hR m' _ h' nx' hlt ⟨_,_,_,_,_,rfl,hi'⟩
theorem zk.zfj:IR.run zk.t35 C N O K (zk.fr b f g j l p o w y z a d e c) h nx =
 K (zk.fr b f z (.bool true) l p o w y z a d e c) h nx:=by kernel_rfl
theorem zk.go:zR tbl N C (.of 113) [a0,a1] h nx K0=IR.run zk.t43 C N (fnO zk.res K0) (zi zk.res K0) (zk.fr a0 a1 .u .u .u .u .u .u .u .u .u .u .u .u) h nx:=yE (F:=zk) (by kernel_rfl) (λ_=>by kernel_rfl) (by kernel_rfl)
theorem zk.ret:zi zk.res K0 (zk.fr b f g j l p o w y z a d e c) h nx=K0 (.tup [g,j]) h nx:=by kernel_rfl
theorem F32.zw:IR.run F32.t0 C N O K (F32.fr b f g j l p o w y z a d e c i s q u v A B) h nx =
 dw b h nx λv1 h2 n3=>K (F32.fr b v1 .za j l p o w y z a d e c i s q u v A B) h2 n3:=by kernel_rfl
theorem F32.zu:IR.run F32.t1 C N O K (F32.fr b f g j l p o w y z a d e c i s q u v A B) h nx =
 K (F32.fr b f g .za l p o w y z a d e c i s q u v A B) h nx:=by kernel_rfl
theorem F32.jd:IR.run F32.t2 C N O K (F32.fr b f g j l p o w y z a d e c i s q u v A B) h nx =
 K (F32.fr b f g j .za p o w y z a d e c i s q u v A B) h nx:=by kernel_rfl
theorem F32.pu:IR.run F32.t3 C N O K (F32.fr b f g j l p o w y z a d e c i s q u v A B) h nx =
 K (F32.fr b f g j l (I 0) o w y z a d e c i s q u v A B) h nx:=by kernel_rfl
theorem F32.fG:IR.run F32.t4 C N O K (F32.fr b f g j l p o w y z a d e c i s q u v A B) h nx =
 zL 1 f λv1=>zH v1 h λv2=>sLen v2 λv3=>zb .lss .int p v3 λv4=>K (F32.fr b f g j l p o w y z a d e c i v4 q u v A B) h nx:=by kernel_rfl
theorem F32.v15:Arg.ev (.t (.of 15)) ⟨(F32.fr b f g j l p o w y z a d e c i s q u v A B),[]⟩=s:=by kernel_rfl
theorem F32.fe:IR.run F32.t7 C N O K (F32.fr b f g j l p o w y z a d e c i s q u v A B) h nx =
 zJ 2 f h λv1=>C.fn 98 (.of 98) [v1,p] h nx λv2 h3 n4=>K (F32.fr b f g j l p v2 w y z a d e c i s q u v A B) h3 n4:=by kernel_rfl
theorem F32.fE:IR.run F32.t8 C N O K (F32.fr b f g j l p o w y z a d e c i s q u v A B) h nx =
 K (F32.fr b f g j l p o .za y z a d e c i s q u v A B) h nx:=by kernel_rfl
theorem F32.nP:IR.run F32.t9 C N O K (F32.fr b f g j l p o w y z a d e c i s q u v A B) h nx =
 K (F32.fr b f g j l p o w (I 0) z a d e c i s q u v A B) h nx:=by kernel_rfl
theorem F32.nX:IR.run F32.t10 C N O K (F32.fr b f g j l p o w y z a d e c i s q u v A B) h nx =
 zL 0 f λv1=>zH v1 h λv2=>zb .lss .int y v2 λv3=>K (F32.fr b f g j l p o w y z a d e c i s v3 u v A B) h nx:=by kernel_rfl
theorem F32.v16:Arg.ev (.t (.of 16)) ⟨(F32.fr b f g j l p o w y z a d e c i s q u v A B),[]⟩=q:=by kernel_rfl
theorem F32.nS:IR.run F32.t13 C N O K (F32.fr b f g j l p o w y z a d e c i s q u v A B) h nx =
 K (F32.fr b f g j l p o w y .za a d e c i s q u v A B) h nx:=by kernel_rfl
theorem F32.nT:IR.run F32.t14 C N O K (F32.fr b f g j l p o w y z a d e c i s q u v A B) h nx =
 K (F32.fr b f g j l p o w y z (I 0) d e c i s q u v A B) h nx:=by kernel_rfl
theorem F32.tH:IR.run F32.t15 C N O K (F32.fr b f g j l p o w y z a d e c i s q u v A B) h nx =
 sLen l λv1=>zb .lss .int a v1 λv2=>K (F32.fr b f g j l p o w y z a d e c i s q v2 v A B) h nx:=by kernel_rfl
theorem F32.v17:Arg.ev (.t (.of 17)) ⟨(F32.fr b f g j l p o w y z a d e c i s q u v A B),[]⟩=u:=by kernel_rfl
theorem F32.aT:IR.run F32.t18 C N O K (F32.fr b f g j l p o w y z a d e c i s q u v A B) h nx =
 zJ 2 f h λv1=>zK 1 l a λv2=>zH v2 h λv3=>C.fn 98 (.of 98) [v1,v3] h nx λv4 h5 n6=>zO y y (zO z z (zK 1 v4 y λv7=>zH v7 h5 λv8=>yV 1 1 [(.str [])] [(0,1,v8)] h5 n6 λv9 hB nB=>zO z z (rJ 1 16 z v9 hB nB λvF hF nG=>K (F32.fr b f g j l p o w y vF a d e c i s q u v A B) hF nG))):=by kernel_rfl
theorem F32.sQ:IR.run F32.t20 C N O K (F32.fr b f g j l p o w y z a d e c i s q u v A B) h nx =
 zb .add .int a (I 1) λv1=>K (F32.fr b f g j l p o w y z v1 d e c i s q u v A B) h nx:=by kernel_rfl
theorem F32.ztj (Inv:Nat->AV->AV->T Blk->Pa->Prop) {m:Nat} (hm:m<N) (hi:Inv m z a h nx)
  (step:∀ (m:Nat) (z9 zF zW:AV) (h:T Blk) (nx:Pa) (R:Ks Prop),Inv m z9 zF h nx->(∀ (m':Nat) (w9 wF wP:AV) (h':T Blk) (nx':Pa),m'<m->Inv m' w9 wF h' nx'->R (F32.fr b f g j l p o w y w9 wF d e c i s q wP v A B) h' nx'=.ok True)->IR.run F32.t22 C N O R (F32.fr b f g j l p o w y z9 zF d e c i s q zW v A B) h nx=.ok True) :
  IR.run F32.t23 C N O K (F32.fr b f g j l p o w y z a d e c i s q u v A B) h nx=.ok True:=by
 rw [F32.t23];refine yC (λm tm h nx=>∃ z9 zF zW,tm=(F32.fr b f g j l p o w y z9 zF d e c i s q zW v A B)/\Inv m z9 zF h nx) ?_ hm ⟨_,_,_,rfl,hi⟩;rintro m tm h nx R ⟨z9,zF,zW,rfl,hi⟩ hR;exact step m z9 zF zW h nx R hi λm' w9 wF wP h' nx' hlt hi'=>hR m' _ h' nx' hlt ⟨_,_,_,rfl,hi'⟩
theorem F32.eY:IR.run F32.t26 C N O K (F32.fr b f g j l p o w y z a d e c i s q u v A B) h nx =
 yV 1 1 [.za] [(0,1,z)] h nx λv1 h2 n3=>rJ 1 24 w v1 h2 n3 λv4 h5 n6=>K (F32.fr b f g j l p o v4 y z a d e c i s q u v A B) h5 n6:=by kernel_rfl
theorem F32.zcp:IR.run F32.t30 C N O K (F32.fr b f g j l p o w y z a d e c i s q u v A B) h nx =
 zb .add .int y (I 1) λv1=>K (F32.fr b f g j l p o w v1 z a d e c i s q u v A B) h nx:=by kernel_rfl
theorem F32.ztk (Inv:Nat->AV->AV->T Blk->Pa->Prop) {m:Nat} (hm:m<N) (hi:Inv m w y h nx)
  (step:∀ (m:Nat) (z7 z8 z9 zF zM zW:AV) (h:T Blk) (nx:Pa) (R:Ks Prop),Inv m z7 z8 h nx->(∀ (m':Nat) (w7 w8 w9 wF wI wP:AV) (h':T Blk) (nx':Pa),m'<m->Inv m' w7 w8 h' nx'->R (F32.fr b f g j l p o w7 w8 w9 wF d e c i s wI wP v A B) h' nx'=.ok True)->IR.run F32.t32 C N O R (F32.fr b f g j l p o z7 z8 z9 zF d e c i s zM zW v A B) h nx=.ok True) :
  IR.run F32.t33 C N O K (F32.fr b f g j l p o w y z a d e c i s q u v A B) h nx=.ok True:=by
 rw [F32.t33];refine yC (λm tm h nx=>∃ z7 z8 z9 zF zM zW,tm=(F32.fr b f g j l p o z7 z8 z9 zF d e c i s zM zW v A B)/\Inv m z7 z8 h nx) ?_ hm ⟨_,_,_,_,_,_,rfl,hi⟩;rintro m tm h nx R ⟨z7,z8,z9,zF,zM,zW,rfl,hi⟩ hR;exact step m z7 z8 z9 zF zM zW h nx R hi λm' w7 w8 w9 wF wI wP h' nx' hlt hi'=>hR m' _ h' nx' hlt ⟨_,_,_,_,_,_,rfl,hi'⟩
theorem F32.zjn:IR.run F32.t36 C N O K (F32.fr b f g j l p o w y z a d e c i s q u v A B) h nx =
 sLen l λv1=>zb .eql .int v1 (I 0) λv2=>K (F32.fr b f g j l p o w y z a d e c i s q u v2 A B) h nx:=by kernel_rfl
theorem F32.zm8:IR.run F32.t37 C N O K (F32.fr b f g j l p o w y z a d e c i s q u v A B) h nx =
 yV 1 1 [(I 0)] [(0,1,p)] h nx λv1 h2 n3=>rJ 1 8 l v1 h2 n3 λv4 h5 n6=>K (F32.fr b f g j v4 p o w y z a d e c i s q u v A B) h5 n6:=by kernel_rfl
theorem F32.v18:Arg.ev (.t (.of 18)) ⟨(F32.fr b f g j l p o w y z a d e c i s q u v A B),[]⟩=v:=by kernel_rfl
theorem F32.zm2:IR.run F32.t41 C N O K (F32.fr b f g j l p o w y z a d e c i s q u v A B) h nx =
 C.fn 113 (.of 113) [w,o] h nx λv1 h2 n3=>fw 0 v1 λv4=>fw 1 v1 λv5=>K (F32.fr b f g j l p o w y z a v4 v5 c i s q u v A B) h2 n3:=by kernel_rfl
theorem F32.zco:IR.run F32.t42 C N O K (F32.fr b f g j l p o w y z a d e c i s q u v A B) h nx =
 sNot e λv1=>K (F32.fr b f g j l p o w y z a d e c i s q u v v1 B) h nx:=by kernel_rfl
theorem F32.zfk:IR.run F32.t43 C N O K (F32.fr b f g j l p o w y z a d e c i s q u v A B) h nx =
 yV 1 1 [(I 0)] [(0,1,p)] h nx λv1 h2 n3=>rJ 1 8 l v1 h2 n3 λv4 h5 n6=>K (F32.fr b f g j v4 p o w y z a d e c i s q u v A B) h5 n6:=by kernel_rfl
theorem F32.v19:Arg.ev (.t (.of 19)) ⟨(F32.fr b f g j l p o w y z a d e c i s q u v A B),[]⟩=A:=by kernel_rfl
theorem F32.zm3:IR.run F32.t47 C N O K (F32.fr b f g j l p o w y z a d e c i s q u v A B) h nx =
 C.fn 36 (.of 36) [p] h nx λv1 h2 n3=>K (F32.fr b f g j l p o w y z a d e v1 i s q u v A B) h2 n3:=by kernel_rfl
theorem F32.zfl:IR.run F32.t48 C N O K (F32.fr b f g j l p o w y z a d e c i s q u v A B) h nx =
 K (F32.fr b f g j l p o w y z a d e c (I 0) s q u v A B) h nx:=by kernel_rfl
theorem F32.zm4:IR.run F32.t49 C N O K (F32.fr b f g j l p o w y z a d e c i s q u v A B) h nx =
 sLen l λv1=>zb .lss .int i v1 λv2=>K (F32.fr b f g j l p o w y z a d e c i s q u v A v2) h nx:=by kernel_rfl
theorem F32.v20:Arg.ev (.t (.of 20)) ⟨(F32.fr b f g j l p o w y z a d e c i s q u v A B),[]⟩=B:=by kernel_rfl
theorem F32.zfm:IR.run F32.t52 C N O K (F32.fr b f g j l p o w y z a d e c i s q u v A B) h nx =
 zK 1 l i λv1=>zH v1 h λv2=>zK 1 d i λv3=>zH v3 h λv4=>zK 1 c v2 λv5=>zS 1 v5 v4 h nx λv6 h7 n8=>K (F32.fr b f g j l p o w y z a d e c i s q u v A B) h7 n8:=by kernel_rfl
theorem F32.zx8:IR.run F32.t54 C N O K (F32.fr b f g j l p o w y z a d e c i s q u v A B) h nx =
 zb .add .int i (I 1) λv1=>K (F32.fr b f g j l p o w y z a d e c v1 s q u v A B) h nx:=by kernel_rfl
theorem F32.zx9 (Inv:Nat->AV->T Blk->Pa->Prop) {m:Nat} (hm:m<N) (hi:Inv m i h nx)
  (step:∀ (m:Nat) (zI zN:AV) (h:T Blk) (nx:Pa) (R:Ks Prop),Inv m zI h nx->(∀ (m':Nat) (wH wJ:AV) (h':T Blk) (nx':Pa),m'<m->Inv m' wH h' nx'->R (F32.fr b f g j l p o w y z a d e c wH s q u v A wJ) h' nx'=.ok True)->IR.run F32.t56 C N O R (F32.fr b f g j l p o w y z a d e c zI s q u v A zN) h nx=.ok True) :
  IR.run F32.t57 C N O K (F32.fr b f g j l p o w y z a d e c i s q u v A B) h nx=.ok True:=by
 rw [F32.t57];refine yC (λm tm h nx=>∃ zI zN,tm=(F32.fr b f g j l p o w y z a d e c zI s q u v A zN)/\Inv m zI h nx) ?_ hm ⟨_,_,rfl,hi⟩;rintro m tm h nx R ⟨zI,zN,rfl,hi⟩ hR;exact step m zI zN h nx R hi λm' wH wJ h' nx' hlt hi'=>hR m' _ h' nx' hlt ⟨_,_,rfl,hi'⟩
theorem F32.zya:IR.run F32.t60 C N O K (F32.fr b f g j l p o w y z a d e c i s q u v A B) h nx =
 j6 [(I 0),.za] [(0,1,p),(1,1,c)] λv1=>yV 2 1 [(I 0),.za] [(0,2,v1)] h nx λv2 h3 n4=>zcq C 2 32 j v2 h3 n4 λv5 h6 n7=>K (F32.fr b f g v5 l p o w y z a d e c i s q u v A B) h6 n7:=by kernel_rfl
theorem F32.zm9:IR.run F32.t70 C N O K (F32.fr b f g j l p o w y z a d e c i s q u v A B) h nx =
 zb .add .int p (I 1) λv1=>K (F32.fr b f g j l v1 o w y z a d e c i s q u v A B) h nx:=by kernel_rfl
theorem F32.zyb (Inv:Nat->AV->AV->AV->T Blk->Pa->Prop) {m:Nat} (hm:m<N) (hi:Inv m j l p h nx)
  (step:∀ (m:Nat) (z3 z4 z5 z6 z7 z8 z9 zF zB zC zG zI zA zM zW zX zY zN:AV) (h:T Blk) (nx:Pa) (R:Ks Prop),Inv m z3 z4 z5 h nx->(∀ (m':Nat) (w3 w4 w5 w6 w7 w8 w9 wF wB wC wG wH wA wI wP wQ wR wJ:AV) (h':T Blk) (nx':Pa),m'<m->Inv m' w3 w4 w5 h' nx'->R (F32.fr b f g w3 w4 w5 w6 w7 w8 w9 wF wB wC wG wH wA wI wP wQ wR wJ) h' nx'=.ok True)->IR.run F32.t72 C N O R (F32.fr b f g z3 z4 z5 z6 z7 z8 z9 zF zB zC zG zI zA zM zW zX zY zN) h nx=.ok True) :
  IR.run F32.t73 C N O K (F32.fr b f g j l p o w y z a d e c i s q u v A B) h nx=.ok True:=by
 rw [F32.t73];refine yC (λm tm h nx=>∃ z3 z4 z5 z6 z7 z8 z9 zF zB zC zG zI zA zM zW zX zY zN,tm=(F32.fr b f g z3 z4 z5 z6 z7 z8 z9 zF zB zC zG zI zA zM zW zX zY zN)/\Inv m z3 z4 z5 h nx) ?_ hm ⟨_,_,_,_,_,_,_,_,_,_,_,_,_,_,_,_,_,_,rfl,hi⟩;rintro m tm h nx R ⟨z3,z4,z5,z6,z7,z8,z9,zF,zB,zC,zG,zI,zA,zM,zW,zX,zY,zN,rfl,hi⟩ hR;exact step m z3 z4 z5 z6 z7 z8 z9 zF zB zC zG zI zA zM zW zX zY zN h nx R hi λm' w3 w4 w5 w6 w7 w8 w9 wF wB wC wG wH wA wI wP wQ wR wJ h' nx' hlt hi'=>hR m' _ h' nx' hlt ⟨_,_,_,_,_,_,_,_,_,_,_,_,_,_,_,_,_,_,rfl,hi'⟩
theorem F32.zyc:IR.run F32.t76 C N O K (F32.fr b f g j l p o w y z a d e c i s q u v A B) h nx =
 K (F32.fr b f j j l p o w y z a d e c i s q u v A B) h nx:=by kernel_rfl
theorem F32.go:zR tbl N C (.of 32) [a0] h nx K0=IR.run F32.t81 C N (fnO F32.res K0) (zi F32.res K0) (F32.fr a0 .u .u .u .u .u .u .u .u .u .u .u .u .u .u .u .u .u .u .u .u) h nx:=yE (F:=F32) (by kernel_rfl) (λ_=>by kernel_rfl) (by kernel_rfl)
theorem F32.ret:zi F32.res K0 (F32.fr b f g j l p o w y z a d e c i s q u v A B) h nx=K0 g h nx:=by kernel_rfl
theorem F35.zw:IR.run F35.t0 C N O K (F35.fr b f g j l) h nx =
 dw b h nx λv1 h2 n3=>K (F35.fr b f g v1 (.bool false)) h2 n3:=by kernel_rfl
theorem F35.zu:IR.run F35.t1 C N O K tm h nx=yB F35.sD C ⟨tm,[]⟩ h nx (λtm h nx=>K tm.v h nx):=gI ..
theorem F35.sF:yB (F35.rP r) C ⟨(F35.fr b f g j l),[]⟩ h nx Kt =
 zJ 2 j h λv1=>C.fn 16 (.of 16) [v1,f,g] h nx λv2 h3 n4=>yB r C ⟨(F35.fr b f g j l),v2::g::f::v1::[]⟩ h3 n4 Kt:=by kernel_rfl
theorem F35.rU:yB (F35.rQ r) C ⟨(F35.fr b f g j l),s0::sT⟩ h nx Kt =
 sG s0 true (λk=>zJ 2 j h k) λv1=>sGW s0 true (λk=>C.fn 19 (.of 19) [v1] h nx k) h nx λv2 h3 n4=>yB r C ⟨(F35.fr b f g j l),v2::v1::s0::s0::sT⟩ h3 n4 Kt:=by kernel_rfl
theorem F35.zdq:yB (F35.zfn r) C ⟨(F35.fr b f g j l),s0::s1::s2::sT⟩ h nx Kt =
 sG s2 true (λk=>zb .eql .int s0 (I 0) k) λv1=>yZ s2 v1 (.bool false) λv2=>sG v2 true (λk=>zL 0 j k) λv3=>sG v2 true (λk=>zH v3 h k) λv4=>sG v2 true (λk=>k f) λv5=>sG v2 true (λk=>zb .leq .int v4 v5 k) λv6=>yZ v2 v6 (.bool false) λv7=>yB r C ⟨(F35.fr b f g j l),v7::v6::v5::v4::v3::v2::v2::v1::s0::s1::s2::sT⟩ h nx Kt:=by kernel_rfl
theorem F35.oP:yB (F35.zfo []) C ⟨(F35.fr b f g j l),s0::sT⟩ h nx Kt =
 Kt ⟨(F35.fr b f g j s0),s0::sT⟩ h nx:=by kernel_rfl
theorem F35.go:zR tbl N C (.of 35) [a0,a1,a2] h nx K0=IR.run F35.t3 C N (fnO F35.res K0) (zi F35.res K0) (F35.fr a0 a1 a2 .u .u) h nx:=yE (F:=F35) (by kernel_rfl) (λ_=>by kernel_rfl) (by kernel_rfl)
theorem F35.ret:zi F35.res K0 (F35.fr b f g j l) h nx=K0 l h nx:=by kernel_rfl
theorem F22.zw:IR.run F22.t0 C N O K (F22.fr b f g j) h nx =
 dw b h nx λv1 h2 n3=>K (F22.fr b v1 (.bool false) j) h2 n3:=by kernel_rfl
theorem F22.zu:IR.run F22.t1 C N O K (F22.fr b f g j) h nx =
 zJ 2 f h λv1=>C.fn 16 (.of 16) [v1,(I 40),(I 130)] h nx λv2 h3 n4=>sNot v2 λv5=>K (F22.fr b f g v5) h3 n4:=by kernel_rfl
theorem F22.jd:IR.run F22.t2 C N O K (F22.fr b f g j) h nx =
 K (F22.fr b f (.bool false) j) h nx:=by kernel_rfl
theorem F22.v3:Arg.ev (.t (.of 3)) ⟨(F22.fr b f g j),[]⟩=j:=by kernel_rfl
theorem F22.ku:IR.run F22.t6 C N O K (F22.fr b f g j) h nx =
 zJ 2 f h λv1=>C.fn 19 (.of 19) [v1] h nx λv2 h3 n4=>zb .neq .int v2 (I 0) λv5=>sG v5 false (λk=>zJ 2 f h3 k) λv6=>sGW v5 false (λk=>C.fn 35 (.of 35) [v6,(I 16),(I 12)] h3 n4 k) h3 n4 λv7 h8 n9=>yZ v5 (.bool true) v7 λvC=>K (F22.fr b f vC j) h8 n9:=by kernel_rfl
theorem F22.go:zR tbl N C (.of 22) [a0] h nx K0=IR.run F22.t9 C N (fnO F22.res K0) (zi F22.res K0) (F22.fr a0 .u .u .u) h nx:=yE (F:=F22) (by kernel_rfl) (λ_=>by kernel_rfl) (by kernel_rfl)
theorem F22.ret:zi F22.res K0 (F22.fr b f g j) h nx=K0 g h nx:=by kernel_rfl
theorem F5.zw:IR.run F5.t0 C N O K (F5.fr b f g j l p o w y z a d e c i) h nx =
 dw b h nx λv1 h2 n3=>K (F5.fr b v1 (.bool false) j l p o w y z a d e c i) h2 n3:=by kernel_rfl
theorem F5.zu:IR.run F5.t1 C N O K (F5.fr b f g j l p o w y z a d e c i) h nx =
 zJ 2 f h λv1=>C.fn 22 (.of 22) [v1] h nx λv2 h3 n4=>sNot v2 λv5=>K (F5.fr b f g j l p o w v5 z a d e c i) h3 n4:=by kernel_rfl
theorem F5.jd:IR.run F5.t2 C N O K (F5.fr b f g j l p o w y z a d e c i) h nx =
 C.fn 17 (.of 17) [] h nx λv1 h2 n3=>K (F5.fr b f v1 j l p o w y z a d e c i) h2 n3:=by kernel_rfl
theorem F5.v8:Arg.ev (.t (.of 8)) ⟨(F5.fr b f g j l p o w y z a d e c i),[]⟩=y:=by kernel_rfl
theorem F5.ku:IR.run F5.t6 C N O K (F5.fr b f g j l p o w y z a d e c i) h nx =
 zJ 2 f h λv1=>C.fn 31 (.of 31) [v1] h nx λv2 h3 n4=>fw 0 v2 λv5=>fw 1 v2 λv6=>K (F5.fr b f g v5 v6 p o w y z a d e c i) h3 n4:=by kernel_rfl
theorem F5.fe:IR.run F5.t7 C N O K (F5.fr b f g j l p o w y z a d e c i) h nx =
 zJ 2 f h λv1=>C.fn 19 (.of 19) [v1] h nx λv2 h3 n4=>K (F5.fr b f g j l v2 o w y z a d e c i) h3 n4:=by kernel_rfl
theorem F5.fE:IR.run F5.t8 C N O K (F5.fr b f g j l p o w y z a d e c i) h nx =
 zb .neq .int p (I 0) λv1=>K (F5.fr b f g j l p o w y v1 a d e c i) h nx:=by kernel_rfl
theorem F5.nP:IR.run F5.t9 C N O K tm h nx=yB F5.om C ⟨tm,[]⟩ h nx (λtm h nx=>K tm.v h nx):=gI ..
theorem F5.eD:yB (F5.eU r) C ⟨(F5.fr b f g j l p o w y z a d e c i),[]⟩ h nx Kt =
 sLen j λv1=>zb .eql .int v1 (I 0) λv2=>sG v2 true (λk=>k l) λv3=>sG v2 true (λk=>k p) λv4=>sG v2 true (λk=>zb .eql .int v3 v4 k) λv5=>yZ v2 v5 (.bool false) λv6=>yB r C ⟨(F5.fr b f g j l p o w y z a d e c i),v6::v5::v4::v3::v2::v2::v1::j::[]⟩ h nx Kt:=by kernel_rfl
theorem F5.tV:yB (F5.eX r) C ⟨(F5.fr b f g j l p o w y z a d e c i),s0::sT⟩ h nx Kt =
 sGW s0 true (λk=>C.fn 17 (.of 17) [] h nx k) h nx λv1 h2 n3=>yB r C ⟨(F5.fr b f g j l p o w y z a d e c i),v1::s0::s0::sT⟩ h2 n3 Kt:=by kernel_rfl
theorem F5.zdp:yB (F5.zfi []) C ⟨(F5.fr b f g j l p o w y z a d e c i),s0::s1::sT⟩ h nx Kt =
 yZ s1 s0 (.bool false) λv1=>Kt ⟨(F5.fr b f v1 j l p o w y z a d e c i),v1::s0::s1::sT⟩ h nx:=by kernel_rfl
theorem F5.v9:Arg.ev (.t (.of 9)) ⟨(F5.fr b f g j l p o w y z a d e c i),[]⟩=z:=by kernel_rfl
theorem F5.nS:IR.run F5.t13 C N O K (F5.fr b f g j l p o w y z a d e c i) h nx =
 zJ 2 f h λv1=>C.fn 32 (.of 32) [v1] h nx λv2 h3 n4=>K (F5.fr b f g j l p v2 w y z a d e c i) h3 n4:=by kernel_rfl
theorem F5.nT:IR.run F5.t14 C N O K tm h nx=yB F5.r8_0 C ⟨tm,[]⟩ h nx (λtm h nx=>K tm.v h nx):=gI ..
theorem F5.zhy:yB (F5.zfd r) C ⟨(F5.fr b f g j l p o w y z a d e c i),[]⟩ h nx Kt =
 zb .neq .int l (I 0) λv1=>sG v1 false (λk=>k j) λv2=>sG v1 false (λk=>sLen v2 k) λv3=>sG v1 false (λk=>k o) λv4=>sG v1 false (λk=>sLen v4 k) λv5=>sG v1 false (λk=>zb .neq .int v3 v5 k) λv6=>yB r C ⟨(F5.fr b f g j l p o w y z a d e c i),v6::v5::v4::v3::v2::v1::v1::l::[]⟩ h nx Kt:=by kernel_rfl
theorem F5.zhz:yB (F5.zfe []) C ⟨(F5.fr b f g j l p o w y z a d e c i),s0::s1::s2::s3::s4::s5::sT⟩ h nx Kt =
 yZ s5 (.bool true) s0 λv1=>Kt ⟨(F5.fr b f g j l p o w y z v1 d e c i),s0::s1::s2::s3::s4::s5::sT⟩ h nx:=by kernel_rfl
theorem F5.v10:Arg.ev (.t (.of 10)) ⟨(F5.fr b f g j l p o w y z a d e c i),[]⟩=a:=by kernel_rfl
theorem F5.rH:IR.run F5.t19 C N O K (F5.fr b f g j l p o w y z a d e c i) h nx =
 sLen j λv1=>K (F5.fr b f g j l p o w y z a v1 (I 0) c i) h nx:=by kernel_rfl
theorem F5.sQ:IR.run F5.t20 C N O K (F5.fr b f g j l p o w y z a d e c i) h nx =
 zb .lss .int e d λv1=>K (F5.fr b f g j l p o w y z a d e v1 i) h nx:=by kernel_rfl
theorem F5.v13:Arg.ev (.t (.of 13)) ⟨(F5.fr b f g j l p o w y z a d e c i),[]⟩=c:=by kernel_rfl
theorem F5.rW:IR.run F5.t22 C N O K (F5.fr b f g j l p o w y z a d e c i) h nx =
 K (F5.fr b f g j l p o e y z a d e c i) h nx:=by kernel_rfl
theorem F5.zff:IR.run F5.t23 C N O K tm h nx=yB F5.zna C ⟨tm,[]⟩ h nx (λtm h nx=>K tm.v h nx):=oQ ..
theorem F5.zq8:yB (F5.znb r) C ⟨(F5.fr b f g j l p o w y z a d e c i),[]⟩ h nx Kt =
 zK 2 j w λv1=>zL 0 v1 λv2=>zH v2 h λv3=>zK 2 o w λv4=>yB r C ⟨(F5.fr b f g j l p o w y z a d e c i),v4::w::o::v3::v2::v1::w::j::[]⟩ h nx Kt:=by kernel_rfl
theorem F5.zq9:yB (F5.znc r) C ⟨(F5.fr b f g j l p o w y z a d e c i),s0::s1::s2::s3::sT⟩ h nx Kt =
 zL 0 s0 λv1=>zH v1 h λv2=>zb .neq .int s3 v2 λv3=>sG v3 false (λk=>k j) λv4=>sG v3 false (λk=>k w) λv5=>sG v3 false (λk=>zK 2 v4 v5 k) λv6=>sG v3 false (λk=>zL 1 v6 k) λv7=>yB r C ⟨(F5.fr b f g j l p o w y z a d e c i),v7::v6::v5::v4::v3::v3::v2::v1::s0::s1::s2::s3::sT⟩ h nx Kt:=by kernel_rfl
theorem F5.zra:yB (F5.znd r) C ⟨(F5.fr b f g j l p o w y z a d e c i),s0::s1::s2::s3::s4::sT⟩ h nx Kt =
 sG s4 false (λk=>zH s0 h k) λv1=>sG s4 false (λk=>k o) λv2=>sG s4 false (λk=>k w) λv3=>sG s4 false (λk=>zK 2 v2 v3 k) λv4=>sG s4 false (λk=>zL 1 v4 k) λv5=>sG s4 false (λk=>zH v5 h k) λv6=>sGW s4 false (λk=>C.fn 29 (.of 29) [v1,v6] h nx k) h nx λv7 h8 n9=>yB r C ⟨(F5.fr b f g j l p o w y z a d e c i),v7::v6::v5::v4::v3::v2::v1::s0::s1::s2::s3::s4::sT⟩ h8 n9 Kt:=by kernel_rfl
theorem F5.zrb:yB (F5.zne []) C ⟨(F5.fr b f g j l p o w y z a d e c i),s0::s1::s2::s3::s4::s5::s6::s7::s8::s9::s10::s11::sT⟩ h nx Kt =
 sG s11 false (λk=>sNot s0 k) λv1=>yZ s11 (.bool true) v1 λv2=>Kt ⟨(F5.fr b f g j l p o w y z a d e c v2),v1::s0::s1::s2::s3::s4::s5::s6::s7::s8::s9::s10::s11::sT⟩ h nx:=by kernel_rfl
theorem F5.v14:Arg.ev (.t (.of 14)) ⟨(F5.fr b f g j l p o w y z a d e c i),[]⟩=i:=by kernel_rfl
theorem F5.zcp:IR.run F5.t30 C N O K (F5.fr b f g j l p o w y z a d e c i) h nx =
 zb .add .int e (I 1) λv1=>K (F5.fr b f g j l p o w y z a d v1 c i) h nx:=by kernel_rfl
theorem F5.zyd (Inv:Nat->AV->T Blk->Pa->Prop) {m:Nat} (hm:m<N) (hi:Inv m e h nx)
  (step:∀ (m:Nat) (z2 z7 zC zG zI:AV) (h:T Blk) (nx:Pa) (R:Ks Prop),Inv m zC h nx->(∀ (m':Nat) (w2 w7 wC wG wH:AV) (h':T Blk) (nx':Pa),m'<m->Inv m' wC h' nx'->R (F5.fr b f w2 j l p o w7 y z a d wC wG wH) h' nx'=.ok True)->IR.run F5.t33 C N O R (F5.fr b f z2 j l p o z7 y z a d zC zG zI) h nx=.ok True) :
  IR.run F5.t34 C N O K (F5.fr b f g j l p o w y z a d e c i) h nx=.ok True:=by
 rw [F5.t34];refine yC (λm tm h nx=>∃ z2 z7 zC zG zI,tm=(F5.fr b f z2 j l p o z7 y z a d zC zG zI)/\Inv m zC h nx) ?_ hm ⟨_,_,_,_,_,rfl,hi⟩;rintro m tm h nx R ⟨z2,z7,zC,zG,zI,rfl,hi⟩ hR;exact step m z2 z7 zC zG zI h nx R hi λm' w2 w7 wC wG wH h' nx' hlt hi'=>hR m' _ h' nx' hlt ⟨_,_,_,_,_,rfl,hi'⟩
theorem F5.zm8:IR.run F5.t37 C N O K (F5.fr b f g j l p o w y z a d e c i) h nx =
 C.fn 17 (.of 17) [] h nx λv1 h2 n3=>K (F5.fr b f v1 j l p o w y z a d e c i) h2 n3:=by kernel_rfl
theorem F5.go:zR tbl N C (.of 5) [a0] h nx K0=IR.run F5.t46 C N (fnO F5.res K0) (zi F5.res K0) (F5.fr a0 .u .u .u .u .u .u .u .u .u .u .u .u .u .u) h nx:=yE (F:=F5) (by kernel_rfl) (λ_=>by kernel_rfl) (by kernel_rfl)
theorem F5.ret:zi F5.res K0 (F5.fr b f g j l p o w y z a d e c i) h nx=K0 g h nx:=by kernel_rfl
end
end Go.Ev
