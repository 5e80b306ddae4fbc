import Derived.Test.YtfgpjkchdelphaaGreatDoorIrT
import Derived.Test.YtfgpjkchdelphaaGreatDoorEvD
import Derived.KernelRfl
set_option linter.unusedSimpArgs false
set_option linter.unusedVariables false
namespace Go.Ev
open Go Go.Proofs
set_option maxRecDepth 100000
section
variable {N:Nat} {C:Calls Prop} {K0:Kw Prop} {K R:Ks Prop} {h:T Blk} {nx:Pa} {b a e d c f l o a0 a1 s0 s1 s2 s3 s4 s5 s6 s7 s8 s9 s10 s11 s12 s13 s14 s15 s16 s17 s18 s19 s20 s21 s22 s23 s24 s25 s26 s27 s28 s29 s30 s31 s32 s33 s34 s35 s36 s37 s38 s39 s40 s41 s42 s43 s44 s45 s46 s47 s48 s49 s50 s51 s52 s53 s54 s55 s56 s57 s58 s59 p q i j s u v z D w y a2:AV} {O:xw Prop} {tm:T AV} {Kt:KTm} {r:List RO}
theorem jq.gq:IR.run jq.t0 C N O K (jq.fr b a e d c f l o) h nx =
 bH b h nx fun v1 h2 n3=>yS [(I 0),.zf] h2 n3 fun v4 h5 n6=>K (jq.fr b a v1 v4 c f l o) h5 n6:=by kernel_rfl
theorem jq.jv:IR.run jq.t1 C N O K (jq.fr b a e d c f l o) h nx =
 C.fn 187 (.of 187) [(I 1)] h nx fun v1 h2 n3=>yS [(I 0),.zf] h2 n3 fun v4 h5 n6=>zX 2 v4 v1 h5 n6 fun v7 h8 n9=>K (jq.fr b a e d v4 f l o) h8 n9:=by kernel_rfl
theorem jq.uq:IR.run jq.t2 C N O K (jq.fr b a e d c f l o) h nx =
 zh .gtr .int a (I 0) fun v1=>K (jq.fr b a e d c v1 l o) h nx:=by kernel_rfl
theorem jq.v5:Arg.ev (.t (.of 5)) ⟨(jq.fr b a e d c f l o),[]⟩=f:=by kernel_rfl
theorem jq.fZ:IR.run jq.t5 C N O K (jq.fr b a e d c f l o) h nx =
 zh .and .int a (I 1) fun v1=>zh .eql .int v1 (I 1) fun v2=>K (jq.fr b a e d c f v2 o) h nx:=by kernel_rfl
theorem jq.pq:IR.run jq.t6 C N O K (jq.fr b a e d c f l o) h nx =
 zO 2 c h fun v1=>zO 2 e h fun v2=>C.fn 198 (.of 198) [v1,v2] h nx fun v3 h4 n5=>zX 2 c v3 h4 n5 fun v6 h7 n8=>K (jq.fr b a e d c f l o) h7 n8:=by kernel_rfl
theorem jq.v6:Arg.ev (.t (.of 6)) ⟨(jq.fr b a e d c f l o),[]⟩=l:=by kernel_rfl
theorem jq.fC:IR.run jq.t9 C N O K (jq.fr b a e d c f l o) h nx =
 zh .gtr .int a (I 1) fun v1=>K (jq.fr b a e d c f l v1) h nx:=by kernel_rfl
theorem jq.dh:IR.run jq.t10 C N O K (jq.fr b a e d c f l o) h nx =
 zO 2 e h fun v1=>zO 2 e h fun v2=>C.fn 198 (.of 198) [v1,v2] h nx fun v3 h4 n5=>zX 2 e v3 h4 n5 fun v6 h7 n8=>K (jq.fr b a e d c f l o) h7 n8:=by kernel_rfl
theorem jq.v7:Arg.ev (.t (.of 7)) ⟨(jq.fr b a e d c f l o),[]⟩=o:=by kernel_rfl
theorem jq.rJ:IR.run jq.t15 C N O K (jq.fr b a e d c f l o) h nx =
 zh .shr .int a (.int .u64 1) fun v1=>K (jq.fr b v1 e d c f l o) h nx:=by kernel_rfl
theorem jq.zaf (Inv:Nat->AV->T Blk->Pa->Prop) {m:Nat} (hm:m<N) (hi:Inv m a h nx)
  (step:∀ (m:Nat) (z1 z5 z6 z7:AV) (h:T Blk) (nx:Pa) (R:Ks Prop),Inv m z1 h nx->(∀ (m':Nat) (w1 w5 w6 w7:AV) (h':T Blk) (nx':Pa),m'<m->Inv m' w1 h' nx'->R (jq.fr b w1 e d c w5 w6 w7) h' nx'=.ok True)->IR.run jq.t17 C N O R (jq.fr b z1 e d c z5 z6 z7) h nx=.ok True) :
  IR.run jq.t18 C N O K (jq.fr b a e d c f l o) h nx=.ok True:=by
 rw [jq.t18];refine yC (fun m tm h nx=>∃ z1 z5 z6 z7,tm=(jq.fr b z1 e d c z5 z6 z7)/\Inv m z1 h nx) ?_ hm ⟨_,_,_,_,rfl,hi⟩;rintro m tm h nx R ⟨z1,z5,z6,z7,rfl,hi⟩ hR;exact step m z1 z5 z6 z7 h nx R hi fun m' w1 w5 w6 w7 h' nx' hlt hi'=>hR m' _ h' nx' hlt ⟨_,_,_,_,rfl,hi'⟩
theorem jq.rY:IR.run jq.t20 C N O K (jq.fr b a e d c f l o) h nx =
 zO 2 c h fun v1=>zX 2 d v1 h nx fun v2 h3 n4=>K (jq.fr b a e d c f l o) h3 n4:=by kernel_rfl
theorem jq.go:zQ tbl N C (.of 228) [a0,a1] h nx K0=IR.run jq.t24 C N (fnO jq.res K0) (yw jq.res K0) (jq.fr a0 a1 .u .u .u .u .u .u) h nx:=yJ (F:=jq) (by kernel_rfl) (fun _=>by kernel_rfl) (by kernel_rfl)
theorem jq.ret:yw jq.res K0 (jq.fr b a e d c f l o) h nx=zO 2 d h fun v1=>K0 v1 h nx:=by kernel_rfl
theorem yt.gq:IR.run yt.t0 C N O K (yt.fr b a e d c f l o p q i j s u v z D w y) h nx =
 bH b h nx fun v1 h2 n3=>K (yt.fr b a v1 (.bool false) c f l o p q i j s u v z D w y) h2 n3:=by kernel_rfl
theorem yt.jv:IR.run yt.t1 C N O K (yt.fr b a e d c f l o p q i j s u v z D w y) h nx =
 yS [(I 0),.zf] h nx fun v1 h2 n3=>K (yt.fr b a e d v1 f l o p q i j s u v z D w y) h2 n3:=by kernel_rfl
theorem yt.uq:IR.run yt.t2 C N O K (yt.fr b a e d c f l o p q i j s u v z D w y) h nx =
 zH 0 e fun v1=>zC v1 h fun v2=>C.fn 152 (.of 152) [(.str [109,97,103,105,99]),v2] h nx fun v3 h4 n5=>ze1 1 none v3 fun v6=>sLen v6 fun v7=>K (yt.fr b a e d c f l o p v6 v7 (I 0) s u v z D w y) h4 n5:=by kernel_rfl
theorem yt.vk:IR.run yt.t3 C N O K (yt.fr b a e d c f l o p q i j s u v z D w y) h nx =
 zh .lss .int j i fun v1=>K (yt.fr b a e d c f l o p q i j v1 u v z D w y) h nx:=by kernel_rfl
theorem yt.v12:Arg.ev (.t (.of 12)) ⟨(yt.fr b a e d c f l o p q i j s u v z D w y),[]⟩=s:=by kernel_rfl
theorem yt.fZ:IR.run yt.t5 C N O K (yt.fr b a e d c f l o p q i j s u v z D w y) h nx =
 zT 1 q j fun v1=>zC v1 h fun v2=>K (yt.fr b a e d c j v2 o p q i j s u v z D w y) h nx:=by kernel_rfl
theorem yt.pq:IR.run yt.t6 C N O K (yt.fr b a e d c f l o p q i j s u v z D w y) h nx =
 C.fn 187 (.of 187) [(I 0)] h nx fun v1 h2 n3=>yS [(I 0),.zf] h2 n3 fun v4 h5 n6=>zX 2 v4 v1 h5 n6 fun v7 h8 n9=>K (yt.fr b a e d c f l v4 p q i j s u v z D w y) h8 n9:=by kernel_rfl
theorem yt.vz:IR.run yt.t7 C N O K (yt.fr b a e d c f l o p q i j s u v z D w y) h nx =
 sLen l fun v1=>K (yt.fr b a e d c f l o p q i j s l v1 (I 0) D w y) h nx:=by kernel_rfl
theorem yt.dw:IR.run yt.t8 C N O K (yt.fr b a e d c f l o p q i j s u v z D w y) h nx =
 zh .lss .int z v fun v1=>K (yt.fr b a e d c f l o p q i j s u v z v1 w y) h nx:=by kernel_rfl
theorem yt.v16:Arg.ev (.t (.of 16)) ⟨(yt.fr b a e d c f l o p q i j s u v z D w y),[]⟩=D:=by kernel_rfl
theorem yt.dh:IR.run yt.t10 C N O K (yt.fr b a e d c f l o p q i j s u v z D w y) h nx =
 zT 1 u z fun v1=>zC v1 h fun v2=>K (yt.fr b a e d c f l o v2 q i j s u v z D w y) h nx:=by kernel_rfl
theorem yt.xu:IR.run yt.t11 C N O K (yt.fr b a e d c f l o p q i j s u v z D w y) h nx =
 zO 2 o h fun v1=>zH 1 e fun v2=>zC v2 h fun v3=>zT 1 v3 p fun v4=>zC v4 h fun v5=>C.fn 187 (.of 187) [v5] h nx fun v6 h7 n8=>zW a a ((zO 2 o h7 fun vA=>zW vA v1 (C.fn 228 (.of 228) [v6,a] h7 n8 fun v9 hA nA=>(zO 2 o hA fun vB=>zW vB v1 (C.fn 197 (.of 197) [v1,v9] hA nA fun vC hB nB=>zX 2 o vC hB nB fun vD hC nC=>K (yt.fr b a e d c f l o p q i j s u v z D w y) hC nC))))):=by kernel_rfl
theorem yt.fG:IR.run yt.t14 C N O K (yt.fr b a e d c f l o p q i j s u v z D w y) h nx =
 zh .add .int z (I 1) fun v1=>K (yt.fr b a e d c f l o p q i j s u v v1 D w y) h nx:=by kernel_rfl
theorem yt.zaf (Inv:Nat->AV->T Blk->Pa->Prop) {m:Nat} (hm:m<N) (hi:Inv m z h nx)
  (step:∀ (m:Nat) (z8 zB zD:AV) (h:T Blk) (nx:Pa) (R:Ks Prop),Inv m zB h nx->(∀ (m':Nat) (w8 wA wB:AV) (h':T Blk) (nx':Pa),m'<m->Inv m' wA h' nx'->R (yt.fr b a e d c f l o w8 q i j s u v wA wB w y) h' nx'=.ok True)->IR.run yt.t17 C N O R (yt.fr b a e d c f l o z8 q i j s u v zB zD w y) h nx=.ok True) :
  IR.run yt.t18 C N O K (yt.fr b a e d c f l o p q i j s u v z D w y) h nx=.ok True:=by
 rw [yt.t18];refine yC (fun m tm h nx=>∃ z8 zB zD,tm=(yt.fr b a e d c f l o z8 q i j s u v zB zD w y)/\Inv m zB h nx) ?_ hm ⟨_,_,_,rfl,hi⟩;rintro m tm h nx R ⟨z8,zB,zD,rfl,hi⟩ hR;exact step m z8 zB zD h nx R hi fun m' w8 wA wB h' nx' hlt hi'=>hR m' _ h' nx' hlt ⟨_,_,_,rfl,hi'⟩
theorem yt.oK:IR.run yt.t21 C N O K (yt.fr b a e d c f l o p q i j s u v z D w y) h nx =
 zh .eql .int f (I 0) fun v1=>K (yt.fr b a e d c f l o p q i j s u v z D v1 y) h nx:=by kernel_rfl
theorem yt.tu:IR.run yt.t22 C N O K (yt.fr b a e d c f l o p q i j s u v z D w y) h nx =
 zO 2 o h fun v1=>zX 2 c v1 h nx fun v2 h3 n4=>K (yt.fr b a e d c f l o p q i j s u v z D w y) h3 n4:=by kernel_rfl
theorem yt.v17:Arg.ev (.t (.of 17)) ⟨(yt.fr b a e d c f l o p q i j s u v z D w y),[]⟩=w:=by kernel_rfl
theorem yt.zsl:IR.run yt.t25 C N O K (yt.fr b a e d c f l o p q i j s u v z D w y) h nx =
 zO 2 o h fun v1=>zO 2 c h fun v2=>C.fn 229 (.of 229) [v1,v2] h nx fun v3 h4 n5=>zh .neq .int v3 (I 0) fun v6=>K (yt.fr b a e d c f l o p q i j s u v z D w v6) h4 n5:=by kernel_rfl
theorem yt.zcu:IR.run yt.t26 C N O K (yt.fr b a e d c f l o p q i j s u v z D w y) h nx =
 K (yt.fr b a e (.bool false) c f l o p q i j s u v z D w y) h nx:=by kernel_rfl
theorem yt.v18:Arg.ev (.t (.of 18)) ⟨(yt.fr b a e d c f l o p q i j s u v z D w y),[]⟩=y:=by kernel_rfl
theorem yt.za0:IR.run yt.t35 C N O K (yt.fr b a e d c f l o p q i j s u v z D w y) h nx =
 zh .add .int j (I 1) fun v1=>K (yt.fr b a e d c f l o p q i v1 s u v z D w y) h nx:=by kernel_rfl
theorem yt.zw7 (Inv:Nat->AV->T Blk->Pa->Prop) {m:Nat} (hm:m<N) (hi:Inv m j h nx)
  (step:∀ (m:Nat) (z3 z5 z6 z7 z8 zE zF zG zI zB zD zJ zK:AV) (h:T Blk) (nx:Pa) (R:Ks Prop),Inv m zE h nx->(∀ (m':Nat) (w3 w5 w6 w7 w8 wC wD wE wF wA wB wG wH:AV) (h':T Blk) (nx':Pa),m'<m->Inv m' wC h' nx'->R (yt.fr b a e w3 c w5 w6 w7 w8 q i wC wD wE wF wA wB wG wH) h' nx'=.ok True)->IR.run yt.t38 C N O R (yt.fr b a e z3 c z5 z6 z7 z8 q i zE zF zG zI zB zD zJ zK) h nx=.ok True) :
  IR.run yt.t39 C N O K (yt.fr b a e d c f l o p q i j s u v z D w y) h nx=.ok True:=by
 rw [yt.t39];refine yC (fun m tm h nx=>∃ z3 z5 z6 z7 z8 zE zF zG zI zB zD zJ zK,tm=(yt.fr b a e z3 c z5 z6 z7 z8 q i zE zF zG zI zB zD zJ zK)/\Inv m zE h nx) ?_ hm ⟨_,_,_,_,_,_,_,_,_,_,_,_,_,rfl,hi⟩;rintro m tm h nx R ⟨z3,z5,z6,z7,z8,zE,zF,zG,zI,zB,zD,zJ,zK,rfl,hi⟩ hR;exact step m z3 z5 z6 z7 z8 zE zF zG zI zB zD zJ zK h nx R hi fun m' w3 w5 w6 w7 w8 wC wD wE wF wA wB wG wH h' nx' hlt hi'=>hR m' _ h' nx' hlt ⟨_,_,_,_,_,_,_,_,_,_,_,_,_,rfl,hi'⟩
theorem yt.zw8:IR.run yt.t42 C N O K (yt.fr b a e d c f l o p q i j s u v z D w y) h nx =
 K (yt.fr b a e (.bool true) c f l o p q i j s u v z D w y) h nx:=by kernel_rfl
theorem yt.go:zQ tbl N C (.of 145) [a0,a1] h nx K0=IR.run yt.t46 C N (fnO yt.res K0) (yw yt.res K0) (yt.fr a0 a1 .u .u .u .u .u .u .u .u .u .u .u .u .u .u .u .u .u) h nx:=yJ (F:=yt) (by kernel_rfl) (fun _=>by kernel_rfl) (by kernel_rfl)
theorem yt.ret:yw yt.res K0 (yt.fr b a e d c f l o p q i j s u v z D w y) h nx=K0 d h nx:=by kernel_rfl
theorem F42.gq:IR.run F42.t0 C N O K (F42.fr b a) h nx =
 K (F42.fr b (.str [])) h nx:=by kernel_rfl
theorem F42.jv:IR.run F42.t1 C N O K (F42.fr b a) h nx =
 C.fn 134 (.of 134) [b] h nx fun v1 h2 n3=>C.fn 133 (.of 133) [v1] h2 n3 fun v4 h5 n6=>K (F42.fr b v4) h5 n6:=by kernel_rfl
theorem F42.go:zQ tbl N C (.of 42) [a0] h nx K0=IR.run F42.t3 C N (fnO F42.res K0) (yw F42.res K0) (F42.fr a0 .u) h nx:=yJ (F:=F42) (by kernel_rfl) (fun _=>by kernel_rfl) (by kernel_rfl)
theorem F42.ret:yw F42.res K0 (F42.fr b a) h nx=K0 a h nx:=by kernel_rfl
theorem ul.gq:IR.run ul.t0 C N O K (ul.fr b a e d c f l) h nx =
 K (ul.fr b a (.str []) d c f l) h nx:=by kernel_rfl
theorem ul.jv:IR.run ul.t1 C N O K (ul.fr b a e d c f l) h nx =
 zh .lss .int a (I 0) fun v1=>K (ul.fr b a e d v1 f l) h nx:=by kernel_rfl
theorem ul.v4:Arg.ev (.t (.of 4)) ⟨(ul.fr b a e d c f l),[]⟩=c:=by kernel_rfl
theorem ul.pq:IR.run ul.t6 C N O K (ul.fr b a e d c f l) h nx =
 K (ul.fr b a e (.str [49]) c f l) h nx:=by kernel_rfl
theorem ul.vz:IR.run ul.t7 C N O K (ul.fr b a e d c f l) h nx =
 zh .gtr .int a (I 0) fun v1=>K (ul.fr b a e d c v1 l) h nx:=by kernel_rfl
theorem ul.v5:Arg.ev (.t (.of 5)) ⟨(ul.fr b a e d c f l),[]⟩=f:=by kernel_rfl
theorem ul.dh:IR.run ul.t10 C N O K (ul.fr b a e d c f l) h nx =
 zh .rem .int a (I 2) fun v1=>zh .eql .int v1 (I 1) fun v2=>K (ul.fr b a e d c f v2) h nx:=by kernel_rfl
theorem ul.xu:IR.run ul.t11 C N O K (ul.fr b a e d c f l) h nx =
 C.fn 41 (.of 41) [d,b] h nx fun v1 h2 n3=>K (ul.fr b a e v1 c f l) h2 n3:=by kernel_rfl
theorem ul.v6:Arg.ev (.t (.of 6)) ⟨(ul.fr b a e d c f l),[]⟩=l:=by kernel_rfl
theorem ul.fG:IR.run ul.t14 C N O K (ul.fr b a e d c f l) h nx =
 C.fn 41 (.of 41) [b,b] h nx fun v1 h2 n3=>K (ul.fr v1 a e d c f l) h2 n3:=by kernel_rfl
theorem ul.rJ:IR.run ul.t15 C N O K (ul.fr b a e d c f l) h nx =
 zh .quo .int a (I 2) fun v1=>K (ul.fr b v1 e d c f l) h nx:=by kernel_rfl
theorem ul.zln (Inv:Nat->AV->AV->AV->T Blk->Pa->Prop) {m:Nat} (hm:m<N) (hi:Inv m b a d h nx)
  (step:∀ (m:Nat) (z0 z1 z3 z5 z6:AV) (h:T Blk) (nx:Pa) (R:Ks Prop),Inv m z0 z1 z3 h nx->(∀ (m':Nat) (w0 w1 w3 w5 w6:AV) (h':T Blk) (nx':Pa),m'<m->Inv m' w0 w1 w3 h' nx'->R (ul.fr w0 w1 e w3 c w5 w6) h' nx'=.ok True)->IR.run ul.t19 C N O R (ul.fr z0 z1 e z3 c z5 z6) h nx=.ok True) :
  IR.run ul.t20 C N O K (ul.fr b a e d c f l) h nx=.ok True:=by
 rw [ul.t20];refine yC (fun m tm h nx=>∃ z0 z1 z3 z5 z6,tm=(ul.fr z0 z1 e z3 c z5 z6)/\Inv m z0 z1 z3 h nx) ?_ hm ⟨_,_,_,_,_,rfl,hi⟩;rintro m tm h nx R ⟨z0,z1,z3,z5,z6,rfl,hi⟩ hR;exact step m z0 z1 z3 z5 z6 h nx R hi fun m' w0 w1 w3 w5 w6 h' nx' hlt hi'=>hR m' _ h' nx' hlt ⟨_,_,_,_,_,rfl,hi'⟩
theorem ul.tu:IR.run ul.t22 C N O K (ul.fr b a e d c f l) h nx =
 K (ul.fr b a d d c f l) h nx:=by kernel_rfl
theorem ul.go:zQ tbl N C (.of 233) [a0,a1] h nx K0=IR.run ul.t27 C N (fnO ul.res K0) (yw ul.res K0) (ul.fr a0 a1 .u .u .u .u .u) h nx:=yJ (F:=ul) (by kernel_rfl) (fun _=>by kernel_rfl) (by kernel_rfl)
theorem ul.ret:yw ul.res K0 (ul.fr b a e d c f l) h nx=K0 e h nx:=by kernel_rfl
theorem qi.gq:IR.run qi.t0 C N O K (qi.fr b a e d c f) h nx =
 K (qi.fr b a .zf d c f) h nx:=by kernel_rfl
theorem qi.jv:IR.run qi.t1 C N O K (qi.fr b a e d c f) h nx =
 K (qi.fr b a e .zf c f) h nx:=by kernel_rfl
theorem qi.uq:IR.run qi.t2 C N O K (qi.fr b a e d c f) h nx =
 K (qi.fr b a e d (I 0) f) h nx:=by kernel_rfl
theorem qi.vk:IR.run qi.t3 C N O K (qi.fr b a e d c f) h nx =
 sLen b fun v1=>zh .lss .int c v1 fun v2=>K (qi.fr b a e d c v2) h nx:=by kernel_rfl
theorem qi.v5:Arg.ev (.t (.of 5)) ⟨(qi.fr b a e d c f),[]⟩=f:=by kernel_rfl
theorem qi.pq:IR.run qi.t6 C N O K (qi.fr b a e d c f) h nx =
 zT 1 b c fun v1=>zC v1 h fun v2=>C.fn 42 (.of 42) [v2] h nx fun v3 h4 n5=>C.fn 233 (.of 233) [v3,a] h4 n5 fun v6 h7 n8=>yU 1 1 [(.str [])] [(0,1,v6)] h7 n8 fun v9 hA nA=>rD 1 16 d v9 hA nA fun vC hB nB=>K (qi.fr b a e vC c f) hB nB:=by kernel_rfl
theorem qi.dw:IR.run qi.t8 C N O K (qi.fr b a e d c f) h nx =
 zh .add .int c (I 1) fun v1=>K (qi.fr b a e d v1 f) h nx:=by kernel_rfl
theorem qi.zlo (Inv:Nat->AV->AV->T Blk->Pa->Prop) {m:Nat} (hm:m<N) (hi:Inv m d c h nx)
  (step:∀ (m:Nat) (z3 z4 z5:AV) (h:T Blk) (nx:Pa) (R:Ks Prop),Inv m z3 z4 h nx->(∀ (m':Nat) (w3 w4 w5:AV) (h':T Blk) (nx':Pa),m'<m->Inv m' w3 w4 h' nx'->R (qi.fr b a e w3 w4 w5) h' nx'=.ok True)->IR.run qi.t10 C N O R (qi.fr b a e z3 z4 z5) h nx=.ok True) :
  IR.run qi.t11 C N O K (qi.fr b a e d c f) h nx=.ok True:=by
 rw [qi.t11];refine yC (fun m tm h nx=>∃ z3 z4 z5,tm=(qi.fr b a e z3 z4 z5)/\Inv m z3 z4 h nx) ?_ hm ⟨_,_,_,rfl,hi⟩;rintro m tm h nx R ⟨z3,z4,z5,rfl,hi⟩ hR;exact step m z3 z4 z5 h nx R hi fun m' w3 w4 w5 h' nx' hlt hi'=>hR m' _ h' nx' hlt ⟨_,_,_,rfl,hi'⟩
theorem qi.fG:IR.run qi.t14 C N O K (qi.fr b a e d c f) h nx =
 K (qi.fr b a d d c f) h nx:=by kernel_rfl
theorem qi.go:zQ tbl N C (.of 150) [a0,a1] h nx K0=IR.run qi.t18 C N (fnO qi.res K0) (yw qi.res K0) (qi.fr a0 a1 .u .u .u .u) h nx:=yJ (F:=qi) (by kernel_rfl) (fun _=>by kernel_rfl) (by kernel_rfl)
theorem qi.ret:yw qi.res K0 (qi.fr b a e d c f) h nx=K0 e h nx:=by kernel_rfl
theorem zo.gq:IR.run zo.t0 C N O K (zo.fr b a e d c f l o p q i j) h nx =
 K (zo.fr b a e (.bool false) c f l o p q i j) h nx:=by kernel_rfl
theorem zo.jv:IR.run zo.t1 C N O K (zo.fr b a e d c f l o p q i j) h nx =
 C.fn 70 (.of 70) [b,a] h nx fun v1 h2 n3=>dm 0 v1 fun v4=>dm 1 v1 fun v5=>yS [(I 0),.zf] h2 n3 fun v6 h7 n8=>zX 2 v6 v4 h7 n8 fun v9 hA nA=>K (zo.fr b a e d v6 f l o p q i j) hA nA:=by kernel_rfl
theorem zo.uq:IR.run zo.t2 C N O K (zo.fr b a e d c f l o p q i j) h nx =
 K (zo.fr b a e d c (I 0) l o p q i j) h nx:=by kernel_rfl
theorem zo.vk:IR.run zo.t3 C N O K (zo.fr b a e d c f l o p q i j) h nx =
 zH 1 c fun v1=>zC v1 h fun v2=>sLen v2 fun v3=>zh .lss .int f v3 fun v4=>K (zo.fr b a e d c f l o p v4 i j) h nx:=by kernel_rfl
theorem zo.v9:Arg.ev (.t (.of 9)) ⟨(zo.fr b a e d c f l o p q i j),[]⟩=q:=by kernel_rfl
theorem zo.pq:IR.run zo.t6 C N O K (zo.fr b a e d c f l o p q i j) h nx =
 K (zo.fr b a e d c f (.str [48]) (.str [48]) p q i j) h nx:=by kernel_rfl
theorem zo.vz:IR.run zo.t7 C N O K (zo.fr b a e d c f l o p q i j) h nx =
 K (zo.fr b a e d c f l o (I 0) q i j) h nx:=by kernel_rfl
theorem zo.dw:IR.run zo.t8 C N O K (zo.fr b a e d c f l o p q i j) h nx =
 zh .lss .int p a fun v1=>K (zo.fr b a e d c f l o p q v1 j) h nx:=by kernel_rfl
theorem zo.v10:Arg.ev (.t (.of 10)) ⟨(zo.fr b a e d c f l o p q i j),[]⟩=i:=by kernel_rfl
theorem zo.xu:IR.run zo.t11 C N O K tm h nx=zR zo.r7_0 C ⟨tm,[]⟩ h nx (fun tm h nx=>K tm.v h nx):=yZ ..
theorem zo.zam:zR (zo.zas r) C ⟨(zo.fr b a e d c f l o p q i j),[]⟩ h nx Kt =
 zH 1 c fun v1=>zC v1 h fun v2=>zT 1 v2 (I 0) fun v3=>zC v3 h fun v4=>zT 1 v4 p fun v5=>zR r C ⟨(zo.fr b a e d c f l o p q i j),v5::p::v4::v3::v2::v1::e::l::[]⟩ h nx Kt:=by kernel_rfl
theorem zo.zan:zR (zo.zat r) C ⟨(zo.fr b a e d c f l o p q i j),s0::s1::s2::s3::s4::s5::s6::s7::[]⟩ h nx Kt =
 zC s0 h fun v1=>zT 1 s6 v1 fun v2=>zC v2 h fun v3=>C.fn 40 (.of 40) [s7,v3] h nx fun v4 h5 n6=>zR r C ⟨(zo.fr b a e d c f l o p q i j),v4::v3::v2::v1::s0::s1::s2::s3::s4::s5::s6::s7::[]⟩ h5 n6 Kt:=by kernel_rfl
theorem zo.zao:zR (zo.zau []) C ⟨(zo.fr b a e d c f l o p q i j),s0::s1::s2::s3::s4::s5::s6::s7::s8::s9::s10::s11::[]⟩ h nx Kt =
 Kt ⟨(zo.fr b a e d c f s0 o p q i j),s0::s1::s2::s3::s4::s5::s6::s7::s8::s9::s10::s11::[]⟩ h nx:=by kernel_rfl
theorem zo.bT:IR.run zo.t12 C N O K tm h nx=zR zo.ou C ⟨tm,[]⟩ h nx (fun tm h nx=>K tm.v h nx):=yZ ..
theorem zo.aW:zR (zo.aX r) C ⟨(zo.fr b a e d c f l o p q i j),[]⟩ h nx Kt =
 zH 1 c fun v1=>zC v1 h fun v2=>zT 1 v2 f fun v3=>zC v3 h fun v4=>zR r C ⟨(zo.fr b a e d c f l o p q i j),p::v4::v3::f::v2::v1::e::o::[]⟩ h nx Kt:=by kernel_rfl
theorem zo.tX:zR (zo.aY r) C ⟨(zo.fr b a e d c f l o p q i j),s0::s1::s2::s3::s4::s5::s6::s7::[]⟩ h nx Kt =
 zT 1 s1 s0 fun v1=>zC v1 h fun v2=>zT 1 s6 v2 fun v3=>zC v3 h fun v4=>C.fn 40 (.of 40) [s7,v4] h nx fun v5 h6 n7=>zR r C ⟨(zo.fr b a e d c f l o p q i j),v5::v4::v3::v2::v1::s0::s1::s2::s3::s4::s5::s6::s7::[]⟩ h6 n7 Kt:=by kernel_rfl
theorem zo.zdm:zR (zo.ze2 []) C ⟨(zo.fr b a e d c f l o p q i j),s0::s1::s2::s3::s4::s5::s6::s7::s8::s9::s10::s11::s12::[]⟩ h nx Kt =
 Kt ⟨(zo.fr b a e d c f l s0 p q i j),s0::s1::s2::s3::s4::s5::s6::s7::s8::s9::s10::s11::s12::[]⟩ h nx:=by kernel_rfl
theorem zo.rJ:IR.run zo.t15 C N O K (zo.fr b a e d c f l o p q i j) h nx =
 zh .add .int p (I 1) fun v1=>K (zo.fr b a e d c f l o v1 q i j) h nx:=by kernel_rfl
theorem zo.zaf (Inv:Nat->AV->AV->AV->T Blk->Pa->Prop) {m:Nat} (hm:m<N) (hi:Inv m l o p h nx)
  (step:∀ (m:Nat) (z6 z7 z8 zL:AV) (h:T Blk) (nx:Pa) (R:Ks Prop),Inv m z6 z7 z8 h nx->(∀ (m':Nat) (w6 w7 w8 wI:AV) (h':T Blk) (nx':Pa),m'<m->Inv m' w6 w7 w8 h' nx'->R (zo.fr b a e d c f w6 w7 w8 q wI j) h' nx'=.ok True)->IR.run zo.t17 C N O R (zo.fr b a e d c f z6 z7 z8 q zL j) h nx=.ok True) :
  IR.run zo.t18 C N O K (zo.fr b a e d c f l o p q i j) h nx=.ok True:=by
 rw [zo.t18];refine yC (fun m tm h nx=>∃ z6 z7 z8 zL,tm=(zo.fr b a e d c f z6 z7 z8 q zL j)/\Inv m z6 z7 z8 h nx) ?_ hm ⟨_,_,_,_,rfl,hi⟩;rintro m tm h nx R ⟨z6,z7,z8,zL,rfl,hi⟩ hR;exact step m z6 z7 z8 zL h nx R hi fun m' w6 w7 w8 wI h' nx' hlt hi'=>hR m' _ h' nx' hlt ⟨_,_,_,_,rfl,hi'⟩
theorem zo.oK:IR.run zo.t21 C N O K (zo.fr b a e d c f l o p q i j) h nx =
 zh .neq .str l o fun v1=>K (zo.fr b a e d c f l o p q i v1) h nx:=by kernel_rfl
theorem zo.tu:IR.run zo.t22 C N O K (zo.fr b a e d c f l o p q i j) h nx =
 K (zo.fr b a e (.bool false) c f l o p q i j) h nx:=by kernel_rfl
theorem zo.v11:Arg.ev (.t (.of 11)) ⟨(zo.fr b a e d c f l o p q i j),[]⟩=j:=by kernel_rfl
theorem zo.zle:IR.run zo.t29 C N O K (zo.fr b a e d c f l o p q i j) h nx =
 zh .add .int f (I 1) fun v1=>K (zo.fr b a e d c v1 l o p q i j) h nx:=by kernel_rfl
theorem zo.zw9 (Inv:Nat->AV->T Blk->Pa->Prop) {m:Nat} (hm:m<N) (hi:Inv m f h nx)
  (step:∀ (m:Nat) (z3 z5 z6 z7 z8 z9 zL zE:AV) (h:T Blk) (nx:Pa) (R:Ks Prop),Inv m z5 h nx->(∀ (m':Nat) (w3 w5 w6 w7 w8 w9 wI wC:AV) (h':T Blk) (nx':Pa),m'<m->Inv m' w5 h' nx'->R (zo.fr b a e w3 c w5 w6 w7 w8 w9 wI wC) h' nx'=.ok True)->IR.run zo.t31 C N O R (zo.fr b a e z3 c z5 z6 z7 z8 z9 zL zE) h nx=.ok True) :
  IR.run zo.t32 C N O K (zo.fr b a e d c f l o p q i j) h nx=.ok True:=by
 rw [zo.t32];refine yC (fun m tm h nx=>∃ z3 z5 z6 z7 z8 z9 zL zE,tm=(zo.fr b a e z3 c z5 z6 z7 z8 z9 zL zE)/\Inv m z5 h nx) ?_ hm ⟨_,_,_,_,_,_,_,_,rfl,hi⟩;rintro m tm h nx R ⟨z3,z5,z6,z7,z8,z9,zL,zE,rfl,hi⟩ hR;exact step m z3 z5 z6 z7 z8 z9 zL zE h nx R hi fun m' w3 w5 w6 w7 w8 w9 wI wC h' nx' hlt hi'=>hR m' _ h' nx' hlt ⟨_,_,_,_,_,_,_,_,rfl,hi'⟩
theorem zo.za0:IR.run zo.t35 C N O K (zo.fr b a e d c f l o p q i j) h nx =
 K (zo.fr b a e (.bool true) c f l o p q i j) h nx:=by kernel_rfl
theorem zo.go:zQ tbl N C (.of 149) [a0,a1,a2] h nx K0=IR.run zo.t39 C N (fnO zo.res K0) (yw zo.res K0) (zo.fr a0 a1 a2 .u .u .u .u .u .u .u .u .u) h nx:=yJ (F:=zo) (by kernel_rfl) (fun _=>by kernel_rfl) (by kernel_rfl)
theorem zo.ret:yw zo.res K0 (zo.fr b a e d c f l o p q i j) h nx=K0 d h nx:=by kernel_rfl
theorem F63.gq:IR.run F63.t0 C N O K (F63.fr b a e d) h nx =
 bH a h nx fun v1 h2 n3=>K (F63.fr b a v1 (.bool false)) h2 n3:=by kernel_rfl
theorem F63.jv:IR.run F63.t1 C N O K (F63.fr b a e d) h nx =
 zH 0 e fun v1=>zC v1 h fun v2=>zH 2 e fun v3=>zC v3 h fun v4=>C.fn 150 (.of 150) [v4,(I 1)] h nx fun v5 h6 n7=>(zC v1 h6 fun vC=>zW vC v2 ((zH 0 e fun vE=>zW vE v1 (zW b b (C.fn 149 (.of 149) [b,v2,v5] h6 n7 fun v8 h9 nD=>K (F63.fr b a e v8) h9 nD))))):=by kernel_rfl
theorem F63.go:zQ tbl N C (.of 63) [a0,a1] h nx K0=IR.run F63.t3 C N (fnO F63.res K0) (yw F63.res K0) (F63.fr a0 a1 .u .u) h nx:=yJ (F:=F63) (by kernel_rfl) (fun _=>by kernel_rfl) (by kernel_rfl)
theorem F63.ret:yw F63.res K0 (F63.fr b a e d) h nx=K0 d h nx:=by kernel_rfl
theorem F51.ze0 (X3:IR) (C:Calls Prop) (N:Nat) (O:xw Prop) (K:Ks Prop) (b a e d c f l o p q i j s:AV) (h:T Blk) (nx:Pa):IR.run (F51.g2 X3) C N O K (F51.fr b a e d c f l o p q i j s) h nx =
 IR.run X3 C N (O.blk 0 K) K (F51.fr b a e d c f l o p q i j s) h nx:=by kernel_rfl
theorem F51.tab:T.get none (.of 51) tbl=some F51:=by kernel_rfl
theorem F51.go:zQ tbl N C (.of 51) [a0] h nx K0 =
 bH a0 h nx fun v1 h2 n3=>zO 3 v1 h2 fun v4=>C.fn 140 (.of 140) [v4] h2 n3 fun v5 h6 n7=>zh .neq .int v5 (I 0) fun v8=>yH v8 (K0 (.tup [.zf,v5]) h6 n7) (C.fn 141 (.of 141) [] h6 n7 fun v9 hA nA=>sLen v9 fun vC=>IR.run F51.b2 C N (fnO F51.res K0) (IR.run F51.b9 C N (fnO F51.res K0) (yw F51.res K0)) (F51.fr a0 v1 .zf (I 0) v5 .zf .u v8 v9 vC (I 0) .u .u) hA nA):=by
 rw [yA F51.tab];kernel_rfl
theorem F51.e2:IR.run F51.b4 C N ((fnO F51.res K0).blk 0 K) R (F51.fr b a e d c f l o p q i j s) h nx =
 zh .lss .int i q fun v1=>yH v1 (zT 2 p i fun v2=>zO 2 v2 h fun v3=>yS [(.str []),.bM] h nx fun v4 h5 n6=>zX 2 v4 v3 h5 n6 fun v7 h8 n9=>zH 1 v4 fun vF=>zC vF h8 fun vE=>zH 0 a fun vC=>zC vC h8 fun vG=>zH 2 a fun vH=>zC vH h8 fun vD=>C.fn 142 (.of 142) [vD] h8 n9 fun vI hD nE=>(zC vC hD fun vJ=>zW vJ vG ((zH 0 a fun vK=>zW vK vC ((zC vF hD fun vL=>zW vL vE ((zH 1 v4 fun vM=>zW vM vF (yV [(I 0),.zf] [(0,1,vG),(1,1,vI)] fun vA=>uW C vE [vA] hD nE fun vN hE nF=>yH vN (zH 0 v4 fun vO=>zC vO hE fun vP=>yU 1 1 [(.str [])] [(0,1,vP)] hE nF fun vQ hF nG=>rD 1 16 f vQ hF nG fun vR hG nH=>zh .add .int i (I 1) fun vS=>R (F51.fr b a e d c vR v4 o p q vS v1 vN) hG nH) (zh .add .int i (I 1) fun vT=>R (F51.fr b a e d c f v4 o p q vT v1 vN) hE nF)))))))))) (K (F51.fr b a e d c f l o p q i v1 s) h nx):=by kernel_rfl
theorem F51.L2 (Inv:Nat->AV->AV->T Blk->Pa->Prop) {m:Nat} (hm:m<N) (hi:Inv m f i h nx)
  (step:∀ (m:Nat) (z5 z6 zL zE zF:AV) (h:T Blk) (nx:Pa) (R:Ks Prop),Inv m z5 zL h nx->(∀ (m':Nat) (w5 w6 wI wC wD:AV) (h':T Blk) (nx':Pa),m'<m->Inv m' w5 wI h' nx'->R (F51.fr b a e d c w5 w6 o p q wI wC wD) h' nx'=.ok True) ->
   (zh .lss .int zL q fun v1=>yH v1 (zT 2 p zL fun v2=>zO 2 v2 h fun v3=>yS [(.str []),.bM] h nx fun v4 h5 n6=>zX 2 v4 v3 h5 n6 fun v7 h8 n9=>zH 1 v4 fun vF=>zC vF h8 fun vE=>zH 0 a fun vC=>zC vC h8 fun vG=>zH 2 a fun vH=>zC vH h8 fun vD=>C.fn 142 (.of 142) [vD] h8 n9 fun vI hD nE=>(zC vC hD fun vJ=>zW vJ vG ((zH 0 a fun vK=>zW vK vC ((zC vF hD fun vL=>zW vL vE ((zH 1 v4 fun vM=>zW vM vF (yV [(I 0),.zf] [(0,1,vG),(1,1,vI)] fun vA=>uW C vE [vA] hD nE fun vN hE nF=>yH vN (zH 0 v4 fun vO=>zC vO hE fun vP=>yU 1 1 [(.str [])] [(0,1,vP)] hE nF fun vQ hF nG=>rD 1 16 z5 vQ hF nG fun vR hG nH=>zh .add .int zL (I 1) fun vS=>R (F51.fr b a e d c vR v4 o p q vS v1 vN) hG nH) (zh .add .int zL (I 1) fun vT=>R (F51.fr b a e d c z5 v4 o p q vT v1 vN) hE nF)))))))))) (K (F51.fr b a e d c z5 z6 o p q zL v1 zF) h nx))=.ok True) :
  IR.run F51.b2 C N (fnO F51.res K0) K (F51.fr b a e d c f l o p q i j s) h nx=.ok True:=by
 rw [F51.b2,F51.ze0,F51.b3];refine yC (fun m tm h nx=>∃ z5 z6 zL zE zF,tm=(F51.fr b a e d c z5 z6 o p q zL zE zF)/\Inv m z5 zL h nx) ?_ hm ⟨_,_,_,_,_,rfl,hi⟩;rintro m tm h nx R ⟨z5,z6,zL,zE,zF,rfl,hi⟩ hR;rw [F51.e2];exact step m z5 z6 zL zE zF h nx R hi fun m' w5 w6 wI wC wD h' nx' hlt hi'=>hR m' _ h' nx' hlt ⟨_,_,_,_,_,rfl,hi'⟩
theorem F51.k9:IR.run F51.b9 C N (fnO F51.res K0) K (F51.fr b a e d c f l o p q i j s) h nx =
 K0 (.tup [f,(I 0)]) h nx:=by kernel_rfl
theorem F53.ze0 (X3:IR) (C:Calls Prop) (N:Nat) (O:xw Prop) (K:Ks Prop) (b a e d c f l o p:AV) (h:T Blk) (nx:Pa):IR.run (F53.g2 X3) C N O K (F53.fr b a e d c f l o p) h nx =
 IR.run X3 C N (O.blk 0 K) K (F53.fr b a e d c f l o p) h nx:=by kernel_rfl
theorem F53.tab:T.get none (.of 53) tbl=some F53:=by kernel_rfl
theorem F53.go:zQ tbl N C (.of 53) [a0,a1] h nx K0 =
 sLen a0 fun v1=>sLen a1 fun v2=>zh .neq .int v1 v2 fun v3=>yH v3 (K0 (.bool false) h nx) (sLen a0 fun v4=>IR.run F53.b2 C N (fnO F53.res K0) (IR.run F53.b9 C N (fnO F53.res K0) (yw F53.res K0)) (F53.fr a0 a1 (.bool false) .u v3 v4 (I 0) .u .u) h nx):=by
 rw [yA F53.tab];kernel_rfl
theorem F53.e2:IR.run F53.b4 C N ((fnO F53.res K0).blk 0 K) R (F53.fr b a e d c f l o p) h nx =
 zh .lss .int l f fun v1=>yH v1 (zT 1 b l fun v2=>zC v2 h fun v3=>zT 1 a l fun v4=>zC v4 h fun v5=>zh .neq .str v3 v5 fun v6=>yH v6 (K0 (.bool false) h nx) (zh .add .int l (I 1) fun v7=>R (F53.fr b a e l c f v7 v1 v6) h nx)) (K (F53.fr b a e d c f l v1 p) h nx):=by kernel_rfl
theorem F53.L2 (Inv:Nat->AV->T Blk->Pa->Prop) {m:Nat} (hm:m<N) (hi:Inv m l h nx)
  (step:∀ (m:Nat) (z2 z3 z6 z7 z8:AV) (h:T Blk) (nx:Pa) (R:Ks Prop),Inv m z6 h nx->(∀ (m':Nat) (w2 w3 w6 w7 w8:AV) (h':T Blk) (nx':Pa),m'<m->Inv m' w6 h' nx'->R (F53.fr b a w2 w3 c f w6 w7 w8) h' nx'=.ok True) ->
   (zh .lss .int z6 f fun v1=>yH v1 (zT 1 b z6 fun v2=>zC v2 h fun v3=>zT 1 a z6 fun v4=>zC v4 h fun v5=>zh .neq .str v3 v5 fun v6=>yH v6 (K0 (.bool false) h nx) (zh .add .int z6 (I 1) fun v7=>R (F53.fr b a z2 z6 c f v7 v1 v6) h nx)) (K (F53.fr b a z2 z3 c f z6 v1 z8) h nx))=.ok True) :
  IR.run F53.b2 C N (fnO F53.res K0) K (F53.fr b a e d c f l o p) h nx=.ok True:=by
 rw [F53.b2,F53.ze0,F53.b3];refine yC (fun m tm h nx=>∃ z2 z3 z6 z7 z8,tm=(F53.fr b a z2 z3 c f z6 z7 z8)/\Inv m z6 h nx) ?_ hm ⟨_,_,_,_,_,rfl,hi⟩;rintro m tm h nx R ⟨z2,z3,z6,z7,z8,rfl,hi⟩ hR;rw [F53.e2];exact step m z2 z3 z6 z7 z8 h nx R hi fun m' w2 w3 w6 w7 w8 h' nx' hlt hi'=>hR m' _ h' nx' hlt ⟨_,_,_,_,_,rfl,hi'⟩
theorem F53.k9:IR.run F53.b9 C N (fnO F53.res K0) K (F53.fr b a e d c f l o p) h nx =
 K0 (.bool true) h nx:=by kernel_rfl
theorem F50.gq {O:xw Prop}:IR.run F50.t0 C N O K (F50.fr b a e d c) h nx =
 bH b h nx fun v1 h2 n3=>K (F50.fr b v1 (I 0) d c) h2 n3:=by kernel_rfl
theorem F50.jv {O:xw Prop} {tm:T AV}:IR.run F50.t1 C N O K tm h nx=zR F50.aA C ⟨tm,[]⟩ h nx (fun tm h nx=>K tm.v h nx):=yZ ..
theorem F50.aB {r:List RO} {Kt:KTm}:zR (F50.tN r) C ⟨(F50.fr b a e d c),[]⟩ h nx Kt =
 zH 0 a fun v1=>zC v1 h fun v2=>zH 1 a fun v3=>zC v3 h fun v4=>zh .neq .int v2 v4 fun v5=>sG v5 false (fun k=>zH 0 a k) fun v6=>sG v5 false (fun k=>zC v6 h k) fun v7=>zR r C ⟨(F50.fr b a e d c),v7::v6::v5::v5::v4::v3::v2::v1::[]⟩ h nx Kt:=by kernel_rfl
theorem F50.bY {s0 s1 s2 s3 s4 s5 s6 s7:AV} {r:List RO} {Kt:KTm}:zR (F50.tV r) C ⟨(F50.fr b a e d c),s0::s1::s2::s3::s4::s5::s6::s7::[]⟩ h nx Kt =
 sG s2 false (fun k=>zh .lss .int s0 (I 0) k) fun v1=>yE s2 (.bool true) v1 fun v2=>sG v2 false (fun k=>zH 0 a k) fun v3=>sG v2 false (fun k=>zC v3 h k) fun v4=>sG v2 false (fun k=>zh .leq .int v4 (I 1000) k) fun v5=>sG v2 false (fun k=>k v5) fun v6=>sG v6 true (fun k=>zH 2 a k) fun v7=>zR r C ⟨(F50.fr b a e d c),v7::v6::v5::v4::v3::v2::v2::v1::s0::s1::s2::s3::s4::s5::s6::s7::[]⟩ h nx Kt:=by kernel_rfl
theorem F50.tC {s0 s1 s2 s3 s4 s5 s6 s7 s8 s9 s10 s11 s12 s13 s14 s15:AV} {r:List RO} {Kt:KTm}:zR (F50.ze3 r) C ⟨(F50.fr b a e d c),s0::s1::s2::s3::s4::s5::s6::s7::s8::s9::s10::s11::s12::s13::s14::s15::[]⟩ h nx Kt =
 sG s1 true (fun k=>zC s0 h k) fun v1=>sG s1 true (fun k=>sLen v1 k) fun v2=>sG s1 true (fun k=>zH 0 a k) fun v3=>sG s1 true (fun k=>zC v3 h k) fun v4=>sG s1 true (fun k=>zH 0 a k) fun v5=>sG s1 true (fun k=>zC v5 h k) fun v6=>sG s1 true (fun k=>zh .mul .int v4 v6 k) fun v7=>sG s1 true (fun k=>zh .neq .int v2 v7 k) fun v8=>zR r C ⟨(F50.fr b a e d c),v8::v7::v6::v5::v4::v3::v2::v1::s0::s1::s2::s3::s4::s5::s6::s7::s8::s9::s10::s11::s12::s13::s14::s15::[]⟩ h nx Kt:=by kernel_rfl
theorem F50.tH {s0 s1 s2 s3 s4 s5 s6 s7 s8 s9 s10 s11 s12 s13 s14 s15 s16 s17 s18 s19 s20 s21 s22 s23:AV} {Kt:KTm}:zR (F50.ze4 []) C ⟨(F50.fr b a e d c),s0::s1::s2::s3::s4::s5::s6::s7::s8::s9::s10::s11::s12::s13::s14::s15::s16::s17::s18::s19::s20::s21::s22::s23::[]⟩ h nx Kt =
 sG s13 false (fun k=>yE s9 s0 (.bool false) k) fun v1=>yE s13 (.bool true) v1 fun v2=>sG v2 false (fun k=>zH 0 a k) fun v3=>sG v2 false (fun k=>zC v3 h k) fun v4=>sG v2 false (fun k=>zh .gtr .int v4 (I 1000) k) fun v5=>yE v2 (.bool true) v5 fun v6=>Kt ⟨(F50.fr b a e v6 c),v5::v4::v3::v2::v2::v1::s0::s1::s2::s3::s4::s5::s6::s7::s8::s9::s10::s11::s12::s13::s14::s15::s16::s17::s18::s19::s20::s21::s22::s23::[]⟩ h nx:=by kernel_rfl
theorem F50.uq {O:xw Prop}:IR.run F50.t2 C N O K (F50.fr b a e d c) h nx =
 K (F50.fr b a (I 2) d c) h nx:=by kernel_rfl
theorem F50.vk {O:xw Prop} {tm:T AV}:IR.run F50.t3 C N O K tm h nx=IR.run F50.t2 C N O (IR.run .ret C N O K) tm h nx:=zA ..
theorem F50.cu {O:xw Prop}:IR.run F50.t4 C N O K (F50.fr b a e d c) h nx=yH d (IR.run F50.t3 C N O K (F50.fr b a e d c) h nx) (IR.run .skip C N O K (F50.fr b a e d c) h nx):=by
 have g:∀ A B:IR,IR.run (.cond (.t (.of 3)) A B) C N O K (F50.fr b a e d c) h nx=yH d (IR.run A C N O K (F50.fr b a e d c) h nx) (IR.run B C N O K (F50.fr b a e d c) h nx):=fun A B=>by kernel_rfl
 exact g _ _
theorem F50.fZ {O:xw Prop} {tm:T AV}:IR.run F50.t5 C N O K tm h nx=IR.run F50.t1 C N O (IR.run F50.t4 C N O K) tm h nx:=zA ..
theorem F50.pq {O:xw Prop}:IR.run F50.t6 C N O K (F50.fr b a e d c) h nx =
 zH 0 a fun v1=>zC v1 h fun v2=>zh .lss .int v2 (I 1) fun v3=>sG v3 false (fun k=>zH 0 a k) fun v4=>sG v3 false (fun k=>zC v4 h k) fun v5=>sG v3 false (fun k=>zh .gtr .int v5 (I 16) k) fun v6=>yE v3 (.bool true) v6 fun v7=>K (F50.fr b a e d v7) h nx:=by kernel_rfl
theorem F50.vz {O:xw Prop}:IR.run F50.t7 C N O K (F50.fr b a e d c) h nx =
 K (F50.fr b a (I 3) d c) h nx:=by kernel_rfl
theorem F50.dw {O:xw Prop} {tm:T AV}:IR.run F50.t8 C N O K tm h nx=IR.run F50.t7 C N O (IR.run .ret C N O K) tm h nx:=zA ..
theorem F50.fC {O:xw Prop}:IR.run F50.t9 C N O K (F50.fr b a e d c) h nx=yH c (IR.run F50.t8 C N O K (F50.fr b a e d c) h nx) (IR.run .skip C N O K (F50.fr b a e d c) h nx):=by
 have g:∀ A B:IR,IR.run (.cond (.t (.of 4)) A B) C N O K (F50.fr b a e d c) h nx=yH c (IR.run A C N O K (F50.fr b a e d c) h nx) (IR.run B C N O K (F50.fr b a e d c) h nx):=fun A B=>by kernel_rfl
 exact g _ _
theorem F50.dh {O:xw Prop} {tm:T AV}:IR.run F50.t10 C N O K tm h nx=IR.run F50.t6 C N O (IR.run F50.t9 C N O K) tm h nx:=zA ..
theorem F50.xu {O:xw Prop}:IR.run F50.t11 C N O K (F50.fr b a e d c) h nx =
 zH 2 a fun v1=>zC v1 h fun v2=>C.fn 102 (.of 102) [v2] h nx fun v3 h4 n5=>K (F50.fr b a v3 d c) h4 n5:=by kernel_rfl
theorem F50.bT {O:xw Prop} {tm:T AV}:IR.run F50.t12 C N O K tm h nx=IR.run F50.t11 C N O (IR.run .ret C N O K) tm h nx:=zA ..
theorem F50.fD {O:xw Prop} {tm:T AV}:IR.run F50.t13 C N O K tm h nx=IR.run F50.t10 C N O (IR.run F50.t12 C N O K) tm h nx:=zA ..
theorem F50.fG {O:xw Prop} {tm:T AV}:IR.run F50.t14 C N O K tm h nx=IR.run F50.t5 C N O (IR.run F50.t13 C N O K) tm h nx:=zA ..
theorem F50.rJ {O:xw Prop} {tm:T AV}:IR.run F50.t15 C N O K tm h nx=IR.run F50.t0 C N O (IR.run F50.t14 C N O K) tm h nx:=zA ..
theorem F50.go:zQ tbl N C (.of 50) [a0] h nx K0=IR.run F50.t15 C N (fnO F50.res K0) (yw F50.res K0) (F50.fr a0 .u .u .u .u) h nx:=yJ (F:=F50) (by kernel_rfl) (fun _=>by kernel_rfl) (by kernel_rfl)
theorem F50.ret:yw F50.res K0 (F50.fr b a e d c) h nx=K0 e h nx:=by kernel_rfl
theorem jc.gq {O:xw Prop}:IR.run jc.t0 C N O K (jc.fr b a e d) h nx =
 bH b h nx fun v1 h2 n3=>K (jc.fr b v1 (I 0) d) h2 n3:=by kernel_rfl
theorem jc.jv {O:xw Prop} {tm:T AV}:IR.run jc.t1 C N O K tm h nx=zR jc.aA C ⟨tm,[]⟩ h nx (fun tm h nx=>K tm.v h nx):=yZ ..
theorem jc.aB {r:List RO} {Kt:KTm}:zR (jc.tN r) C ⟨(jc.fr b a e d),[]⟩ h nx Kt =
 zH 0 a fun v1=>zC v1 h fun v2=>zH 1 a fun v3=>zC v3 h fun v4=>zh .neq .int v2 v4 fun v5=>sG v5 false (fun k=>zH 0 a k) fun v6=>sG v5 false (fun k=>zC v6 h k) fun v7=>zR r C ⟨(jc.fr b a e d),v7::v6::v5::v5::v4::v3::v2::v1::[]⟩ h nx Kt:=by kernel_rfl
theorem jc.bY {s0 s1 s2 s3 s4 s5 s6 s7:AV} {r:List RO} {Kt:KTm}:zR (jc.tV r) C ⟨(jc.fr b a e d),s0::s1::s2::s3::s4::s5::s6::s7::[]⟩ h nx Kt =
 sG s2 false (fun k=>zh .lss .int s0 (I 0) k) fun v1=>yE s2 (.bool true) v1 fun v2=>sG v2 false (fun k=>zH 0 a k) fun v3=>sG v2 false (fun k=>zC v3 h k) fun v4=>sG v2 false (fun k=>zh .gtr .int v4 (I 1048576) k) fun v5=>yE v2 (.bool true) v5 fun v6=>zR r C ⟨(jc.fr b a e d),v6::v6::v5::v4::v3::v2::v2::v1::s0::s1::s2::s3::s4::s5::s6::s7::[]⟩ h nx Kt:=by kernel_rfl
theorem jc.tC {s0 s1 s2 s3 s4 s5 s6 s7 s8 s9 s10 s11 s12 s13 s14 s15:AV} {r:List RO} {Kt:KTm}:zR (jc.ze3 r) C ⟨(jc.fr b a e d),s0::s1::s2::s3::s4::s5::s6::s7::s8::s9::s10::s11::s12::s13::s14::s15::[]⟩ h nx Kt =
 sG s0 false (fun k=>zH 2 a k) fun v1=>sG s0 false (fun k=>zC v1 h k) fun v2=>sG s0 false (fun k=>sLen v2 k) fun v3=>sG s0 false (fun k=>zH 0 a k) fun v4=>sG s0 false (fun k=>zC v4 h k) fun v5=>sG s0 false (fun k=>zH 1 a k) fun v6=>sG s0 false (fun k=>zC v6 h k) fun v7=>sG s0 false (fun k=>zh .mul .int v5 v7 k) fun v8=>zR r C ⟨(jc.fr b a e d),v8::v7::v6::v5::v4::v3::v2::v1::s0::s1::s2::s3::s4::s5::s6::s7::s8::s9::s10::s11::s12::s13::s14::s15::[]⟩ h nx Kt:=by kernel_rfl
theorem jc.tH {s0 s1 s2 s3 s4 s5 s6 s7 s8 s9 s10 s11 s12 s13 s14 s15 s16 s17 s18 s19 s20 s21 s22 s23:AV} {Kt:KTm}:zR (jc.ze4 []) C ⟨(jc.fr b a e d),s0::s1::s2::s3::s4::s5::s6::s7::s8::s9::s10::s11::s12::s13::s14::s15::s16::s17::s18::s19::s20::s21::s22::s23::[]⟩ h nx Kt =
 sG s8 false (fun k=>zh .neq .int s5 s0 k) fun v1=>yE s8 (.bool true) v1 fun v2=>Kt ⟨(jc.fr b a e v2),v1::s0::s1::s2::s3::s4::s5::s6::s7::s8::s9::s10::s11::s12::s13::s14::s15::s16::s17::s18::s19::s20::s21::s22::s23::[]⟩ h nx:=by kernel_rfl
theorem jc.uq {O:xw Prop}:IR.run jc.t2 C N O K (jc.fr b a e d) h nx =
 K (jc.fr b a (I 2) d) h nx:=by kernel_rfl
theorem jc.vk {O:xw Prop} {tm:T AV}:IR.run jc.t3 C N O K tm h nx=IR.run jc.t2 C N O (IR.run .ret C N O K) tm h nx:=zA ..
theorem jc.cu {O:xw Prop}:IR.run jc.t4 C N O K (jc.fr b a e d) h nx=yH d (IR.run jc.t3 C N O K (jc.fr b a e d) h nx) (IR.run .skip C N O K (jc.fr b a e d) h nx):=by
 have g:∀ A B:IR,IR.run (.cond (.t (.of 3)) A B) C N O K (jc.fr b a e d) h nx=yH d (IR.run A C N O K (jc.fr b a e d) h nx) (IR.run B C N O K (jc.fr b a e d) h nx):=fun A B=>by kernel_rfl
 exact g _ _
theorem jc.fZ {O:xw Prop} {tm:T AV}:IR.run jc.t5 C N O K tm h nx=IR.run jc.t1 C N O (IR.run jc.t4 C N O K) tm h nx:=zA ..
theorem jc.pq {O:xw Prop}:IR.run jc.t6 C N O K (jc.fr b a e d) h nx =
 zH 0 a fun v1=>zC v1 h fun v2=>zH 2 a fun v3=>zC v3 h fun v4=>yU 1 1 [(I 0)] [(0,1,v2)] h nx fun v5 h6 n7=>(zC v3 h6 fun vO=>zW vO v4 ((zH 2 a fun vU=>zW vU v3 (C.fn 87 (.of 87) [(I 1),(I 16),v5] h6 n7 fun v8 h9 nD=>(zC v3 h9 fun vV=>zW vV v4 ((zH 2 a fun vN=>zW vN v3 (C.fn 183 (.of 183) [v4] h9 nD fun vE hH nI=>yU 1 2 [(I 0)] [(0,1,v8),(1,1,vE)] hH nI fun vH hI nJ=>C.fn 86 (.of 86) [vH] hI nJ fun vW hJ nK=>K (jc.fr b a vW d) hJ nK)))))))):=by kernel_rfl
theorem jc.vz {O:xw Prop} {tm:T AV}:IR.run jc.t7 C N O K tm h nx=IR.run jc.t6 C N O (IR.run .ret C N O K) tm h nx:=zA ..
theorem jc.dw {O:xw Prop} {tm:T AV}:IR.run jc.t8 C N O K tm h nx=IR.run jc.t5 C N O (IR.run jc.t7 C N O K) tm h nx:=zA ..
theorem jc.fC {O:xw Prop} {tm:T AV}:IR.run jc.t9 C N O K tm h nx=IR.run jc.t0 C N O (IR.run jc.t8 C N O K) tm h nx:=zA ..
theorem jc.go:zQ tbl N C (.of 140) [a0] h nx K0=IR.run jc.t9 C N (fnO jc.res K0) (yw jc.res K0) (jc.fr a0 .u .u .u) h nx:=yJ (F:=jc) (by kernel_rfl) (fun _=>by kernel_rfl) (by kernel_rfl)
theorem jc.ret:yw jc.res K0 (jc.fr b a e d) h nx=K0 e h nx:=by kernel_rfl
theorem gu.gq:IR.run gu.t0 C N O K (gu.fr b a e d c) h nx =
 K (gu.fr b (.bool false) e d c) h nx:=by kernel_rfl
theorem gu.jv:IR.run gu.t1 C N O K (gu.fr b a e d c) h nx =
 K (gu.fr b a (I 0) d c) h nx:=by kernel_rfl
theorem gu.uq:IR.run gu.t2 C N O K (gu.fr b a e d c) h nx =
 sLen b fun v1=>zh .lss .int e v1 fun v2=>K (gu.fr b a e v2 c) h nx:=by kernel_rfl
theorem gu.v3:Arg.ev (.t (.of 3)) ⟨(gu.fr b a e d c),[]⟩=d:=by kernel_rfl
theorem gu.fZ:IR.run gu.t5 C N O K tm h nx=zR gu.r3_0 C ⟨tm,[]⟩ h nx (fun tm h nx=>K tm.v h nx):=wS ..
theorem gu.zgz:zR (gu.zey r) C ⟨(gu.fr b a e d c),[]⟩ h nx Kt =
 zT 1 b e fun v1=>zC v1 h fun v2=>sLen b fun v3=>zh .sub .int v3 (I 1) fun v4=>zR r C ⟨(gu.fr b a e d c),v4::v3::b::b::v2::v1::e::b::[]⟩ h nx Kt:=by kernel_rfl
theorem gu.zdl:zR (gu.zez r) C ⟨(gu.fr b a e d c),s0::s1::s2::s3::s4::s5::s6::s7::[]⟩ h nx Kt =
 zh .sub .int s0 e fun v1=>zT 1 s3 v1 fun v2=>zC v2 h fun v3=>zh .add .int s4 v3 fun v4=>zT 1 b (I 0) fun v5=>zC v5 h fun v6=>zR r C ⟨(gu.fr b a e d c),v6::v5::b::v4::v3::v2::v1::e::s0::s1::s2::s3::s4::s5::s6::s7::[]⟩ h nx Kt:=by kernel_rfl
theorem gu.zuf:zR (gu.zsm []) C ⟨(gu.fr b a e d c),s0::s1::s2::s3::s4::s5::s6::s7::s8::s9::s10::s11::s12::s13::s14::s15::[]⟩ h nx Kt =
 sLen b fun v1=>zh .sub .int v1 (I 1) fun v2=>zT 1 b v2 fun v3=>zC v3 h fun v4=>zh .add .int s0 v4 fun v5=>zh .neq .int s3 v5 fun v6=>Kt ⟨(gu.fr b a e d v6),v5::v4::v3::v2::v1::b::b::s0::s1::s2::s3::s4::s5::s6::s7::s8::s9::s10::s11::s12::s13::s14::s15::[]⟩ h nx:=by kernel_rfl
theorem gu.pq:IR.run gu.t6 C N O K (gu.fr b a e d c) h nx =
 K (gu.fr b (.bool false) e d c) h nx:=by kernel_rfl
theorem gu.v4:Arg.ev (.t (.of 4)) ⟨(gu.fr b a e d c),[]⟩=c:=by kernel_rfl
theorem gu.xu:IR.run gu.t11 C N O K (gu.fr b a e d c) h nx =
 zh .add .int e (I 1) fun v1=>K (gu.fr b a v1 d c) h nx:=by kernel_rfl
theorem gu.zlp (Inv:Nat->AV->T Blk->Pa->Prop) {m:Nat} (hm:m<N) (hi:Inv m e h nx)
  (step:∀ (m:Nat) (z1 z2 z3 z4:AV) (h:T Blk) (nx:Pa) (R:Ks Prop),Inv m z2 h nx->(∀ (m':Nat) (w1 w2 w3 w4:AV) (h':T Blk) (nx':Pa),m'<m->Inv m' w2 h' nx'->R (gu.fr b w1 w2 w3 w4) h' nx'=.ok True)->IR.run gu.t13 C N O R (gu.fr b z1 z2 z3 z4) h nx=.ok True) :
  IR.run gu.t14 C N O K (gu.fr b a e d c) h nx=.ok True:=by
 rw [gu.t14];refine yC (fun m tm h nx=>∃ z1 z2 z3 z4,tm=(gu.fr b z1 z2 z3 z4)/\Inv m z2 h nx) ?_ hm ⟨_,_,_,_,rfl,hi⟩;rintro m tm h nx R ⟨z1,z2,z3,z4,rfl,hi⟩ hR;exact step m z1 z2 z3 z4 h nx R hi fun m' w1 w2 w3 w4 h' nx' hlt hi'=>hR m' _ h' nx' hlt ⟨_,_,_,_,rfl,hi'⟩
theorem gu.rF:IR.run gu.t17 C N O K (gu.fr b a e d c) h nx =
 K (gu.fr b (.bool true) e d c) h nx:=by kernel_rfl
theorem gu.go:zQ tbl N C (.of 146) [a0] h nx K0=IR.run gu.t20 C N (fnO gu.res K0) (yw gu.res K0) (gu.fr a0 .u .u .u .u) h nx:=yJ (F:=gu) (by kernel_rfl) (fun _=>by kernel_rfl) (by kernel_rfl)
theorem gu.ret:yw gu.res K0 (gu.fr b a e d c) h nx=K0 a h nx:=by kernel_rfl
theorem jf.gq:IR.run jf.t0 C N O K (jf.fr b a e d c f l o p q) h nx =
 bH b h nx fun v1 h2 n3=>K (jf.fr b v1 (.bool false) d c f l o p q) h2 n3:=by kernel_rfl
theorem jf.jv:IR.run jf.t1 C N O K (jf.fr b a e d c f l o p q) h nx =
 zH 0 a fun v1=>zC v1 h fun v2=>K (jf.fr b a e v2 c f l o p q) h nx:=by kernel_rfl
theorem jf.uq:IR.run jf.t2 C N O K (jf.fr b a e d c f l o p q) h nx =
 zh .rem .int d (I 2) fun v1=>zh .eql .int v1 (I 1) fun v2=>K (jf.fr b a e d c f v2 o p q) h nx:=by kernel_rfl
theorem jf.vk:IR.run jf.t3 C N O K (jf.fr b a e d c f l o p q) h nx =
 K (jf.fr b a (.bool false) d c f l o p q) h nx:=by kernel_rfl
theorem jf.v6:Arg.ev (.t (.of 6)) ⟨(jf.fr b a e d c f l o p q),[]⟩=l:=by kernel_rfl
theorem jf.vz:IR.run jf.t7 C N O K (jf.fr b a e d c f l o p q) h nx =
 K (jf.fr b a e d (I 0) f l o p q) h nx:=by kernel_rfl
theorem jf.dw:IR.run jf.t8 C N O K (jf.fr b a e d c f l o p q) h nx =
 zh .lss .int c d fun v1=>K (jf.fr b a e d c f l v1 p q) h nx:=by kernel_rfl
theorem jf.v7:Arg.ev (.t (.of 7)) ⟨(jf.fr b a e d c f l o p q),[]⟩=o:=by kernel_rfl
theorem jf.xu:IR.run jf.t11 C N O K (jf.fr b a e d c f l o p q) h nx =
 K (jf.fr b a e d c (I 0) l o p q) h nx:=by kernel_rfl
theorem jf.bT:IR.run jf.t12 C N O K (jf.fr b a e d c f l o p q) h nx =
 zh .lss .int f d fun v1=>K (jf.fr b a e d c f l o v1 q) h nx:=by kernel_rfl
theorem jf.v8:Arg.ev (.t (.of 8)) ⟨(jf.fr b a e d c f l o p q),[]⟩=p:=by kernel_rfl
theorem jf.rJ:IR.run jf.t15 C N O K (jf.fr b a e d c f l o p q) h nx =
 zO 3 a h fun v1=>zO 3 a h fun v2=>C.fn 230 (.of 230) [v1,c,f] h nx fun v3 h4 n5=>(zO 3 a h4 fun vL=>zW vL v2 (C.fn 230 (.of 230) [v2,(I 0),(I 0)] h4 n5 fun v6 h7 n8=>zh .neq .int v3 v6 fun v9=>sG v9 false (fun k=>zO 3 a h7 k) fun vF=>sG v9 false (fun k=>k c) fun vE=>sG v9 false (fun k=>k f) fun vC=>bif gOk v9 false then (zO 3 a h7 fun vG=>sGW v9 false (fun k=>C.fn 231 (.of 231) [vF,vE,vC] h7 n8 fun vW hJ nK=>(zO 3 a hJ fun vN=>zW vN vG (k vW hJ nK))) h7 n8 fun vH hI nJ=>sGW v9 false (fun k=>C.fn 231 (.of 231) [vG,(I 0),(I 0)] hI nJ k) hI nJ fun vV hK nL=>sG v9 false (fun k=>zh .neq .int vH vV k) fun vP=>yE v9 (.bool true) vP fun vQ=>K (jf.fr b a e d c f l o p vQ) hK nL) else (sGW v9 false (fun k=>C.fn 231 (.of 231) [vF,vE,vC] h7 n8 k) h7 n8 fun vX hL nM=>sGW v9 false (fun k=>C.fn 231 (.of 231) [.u,(I 0),(I 0)] hL nM k) hL nM fun vY hM nN=>sG v9 false (fun k=>zh .neq .int vX vY k) fun vT=>yE v9 (.bool true) vT fun vM=>K (jf.fr b a e d c f l o p vM) hM nN))):=by kernel_rfl
theorem jf.sZ:IR.run jf.t16 C N O K (jf.fr b a e d c f l o p q) h nx =
 K (jf.fr b a (.bool false) d c f l o p q) h nx:=by kernel_rfl
theorem jf.v9:Arg.ev (.t (.of 9)) ⟨(jf.fr b a e d c f l o p q),[]⟩=q:=by kernel_rfl
theorem jf.oK:IR.run jf.t21 C N O K (jf.fr b a e d c f l o p q) h nx =
 zh .add .int f (I 1) fun v1=>K (jf.fr b a e d c v1 l o p q) h nx:=by kernel_rfl
theorem jf.zxa (Inv:Nat->AV->T Blk->Pa->Prop) {m:Nat} (hm:m<N) (hi:Inv m f h nx)
  (step:∀ (m:Nat) (z2 z5 z8 z9:AV) (h:T Blk) (nx:Pa) (R:Ks Prop),Inv m z5 h nx->(∀ (m':Nat) (w2 w5 w8 w9:AV) (h':T Blk) (nx':Pa),m'<m->Inv m' w5 h' nx'->R (jf.fr b a w2 d c w5 l o w8 w9) h' nx'=.ok True)->IR.run jf.t23 C N O R (jf.fr b a z2 d c z5 l o z8 z9) h nx=.ok True) :
  IR.run jf.t24 C N O K (jf.fr b a e d c f l o p q) h nx=.ok True:=by
 rw [jf.t24];refine yC (fun m tm h nx=>∃ z2 z5 z8 z9,tm=(jf.fr b a z2 d c z5 l o z8 z9)/\Inv m z5 h nx) ?_ hm ⟨_,_,_,_,rfl,hi⟩;rintro m tm h nx R ⟨z2,z5,z8,z9,rfl,hi⟩ hR;exact step m z2 z5 z8 z9 h nx R hi fun m' w2 w5 w8 w9 h' nx' hlt hi'=>hR m' _ h' nx' hlt ⟨_,_,_,_,rfl,hi'⟩
theorem jf.zae:IR.run jf.t28 C N O K (jf.fr b a e d c f l o p q) h nx =
 zh .add .int c (I 1) fun v1=>K (jf.fr b a e d v1 f l o p q) h nx:=by kernel_rfl
theorem jf.zew (Inv:Nat->AV->T Blk->Pa->Prop) {m:Nat} (hm:m<N) (hi:Inv m c h nx)
  (step:∀ (m:Nat) (z2 z4 z5 z7 z8 z9:AV) (h:T Blk) (nx:Pa) (R:Ks Prop),Inv m z4 h nx->(∀ (m':Nat) (w2 w4 w5 w7 w8 w9:AV) (h':T Blk) (nx':Pa),m'<m->Inv m' w4 h' nx'->R (jf.fr b a w2 d w4 w5 l w7 w8 w9) h' nx'=.ok True)->IR.run jf.t30 C N O R (jf.fr b a z2 d z4 z5 l z7 z8 z9) h nx=.ok True) :
  IR.run jf.t31 C N O K (jf.fr b a e d c f l o p q) h nx=.ok True:=by
 rw [jf.t31];refine yC (fun m tm h nx=>∃ z2 z4 z5 z7 z8 z9,tm=(jf.fr b a z2 d z4 z5 l z7 z8 z9)/\Inv m z4 h nx) ?_ hm ⟨_,_,_,_,_,_,rfl,hi⟩;rintro m tm h nx R ⟨z2,z4,z5,z7,z8,z9,rfl,hi⟩ hR;exact step m z2 z4 z5 z7 z8 z9 h nx R hi fun m' w2 w4 w5 w7 w8 w9 h' nx' hlt hi'=>hR m' _ h' nx' hlt ⟨_,_,_,_,_,_,rfl,hi'⟩
theorem jf.zex:IR.run jf.t34 C N O K (jf.fr b a e d c f l o p q) h nx =
 K (jf.fr b a (.bool true) d c f l o p q) h nx:=by kernel_rfl
theorem jf.go:zQ tbl N C (.of 147) [a0] h nx K0=IR.run jf.t39 C N (fnO jf.res K0) (yw jf.res K0) (jf.fr a0 .u .u .u .u .u .u .u .u .u) h nx:=yJ (F:=jf) (by kernel_rfl) (fun _=>by kernel_rfl) (by kernel_rfl)
theorem jf.ret:yw jf.res K0 (jf.fr b a e d c f l o p q) h nx=K0 e h nx:=by kernel_rfl
theorem uz.gq:IR.run uz.t0 C N O K (uz.fr b a e d c f l o) h nx =
 bH b h nx fun v1 h2 n3=>K (uz.fr b a e v1 (I 0) f l o) h2 n3:=by kernel_rfl
theorem uz.jv:IR.run uz.t1 C N O K (uz.fr b a e d c f l o) h nx =
 zH 0 d fun v1=>zC v1 h fun v2=>K (uz.fr b a e d c v2 l o) h nx:=by kernel_rfl
theorem uz.uq:IR.run uz.t2 C N O K (uz.fr b a e d c f l o) h nx =
 zh .add .int a (I 1) fun v1=>zh .rem .int v1 f fun v2=>zh .add .int e (I 1) fun v3=>zh .rem .int v3 f fun v4=>K (uz.fr b a e d c f v2 v4) h nx:=by kernel_rfl
theorem uz.vk:IR.run uz.t3 C N O K tm h nx=zR uz.oL C ⟨tm,[]⟩ h nx (fun tm h nx=>K tm.v h nx):=wS ..
theorem uz.oM:zR (uz.aS r) C ⟨(uz.fr b a e d c f l o),[]⟩ h nx Kt =
 zH 2 d fun v1=>zC v1 h fun v2=>zh .mul .int f a fun v3=>zh .add .int v3 e fun v4=>zT 1 v2 v4 fun v5=>zR r C ⟨(uz.fr b a e d c f l o),v5::v4::e::v3::a::f::v2::v1::[]⟩ h nx Kt:=by kernel_rfl
theorem uz.zal:zR (uz.zar r) C ⟨(uz.fr b a e d c f l o),s0::s1::s2::s3::s4::s5::s6::s7::[]⟩ h nx Kt =
 zC s0 h fun v1=>zH 2 d fun v2=>zC v2 h fun v3=>zh .mul .int f a fun v4=>zh .add .int v4 o fun v5=>zR r C ⟨(uz.fr b a e d c f l o),v5::o::v4::a::f::v3::v2::v1::s0::s1::s2::s3::s4::s5::s6::s7::[]⟩ h nx Kt:=by kernel_rfl
theorem uz.zg3:zR (uz.ze5 r) C ⟨(uz.fr b a e d c f l o),s0::s1::s2::s3::s4::s5::s6::s7::s8::s9::s10::s11::s12::s13::s14::s15::[]⟩ h nx Kt =
 zT 1 s5 s0 fun v1=>zC v1 h fun v2=>zh .add .int s7 v2 fun v3=>zH 2 d fun v4=>zC v4 h fun v5=>zh .mul .int f l fun v6=>zR r C ⟨(uz.fr b a e d c f l o),v6::l::f::v5::v4::v3::v2::v1::s0::s1::s2::s3::s4::s5::s6::s7::s8::s9::s10::s11::s12::s13::s14::s15::[]⟩ h nx Kt:=by kernel_rfl
theorem uz.zg4:zR (uz.ze6 r) C ⟨(uz.fr b a e d c f l o),s0::s1::s2::s3::s4::s5::s6::s7::s8::s9::s10::s11::s12::s13::s14::s15::s16::s17::s18::s19::s20::s21::s22::s23::[]⟩ h nx Kt =
 zh .add .int s0 e fun v1=>zT 1 s3 v1 fun v2=>zC v2 h fun v3=>zh .add .int s5 v3 fun v4=>zH 2 d fun v5=>zC v5 h fun v6=>zR r C ⟨(uz.fr b a e d c f l o),f::v6::v5::v4::v3::v2::v1::e::s0::s1::s2::s3::s4::s5::s6::s7::s8::s9::s10::s11::s12::s13::s14::s15::s16::s17::s18::s19::s20::s21::s22::s23::[]⟩ h nx Kt:=by kernel_rfl
theorem uz.zug:zR (uz.zsn []) C ⟨(uz.fr b a e d c f l o),s0::s1::s2::s3::s4::s5::s6::s7::s8::s9::s10::s11::s12::s13::s14::s15::s16::s17::s18::s19::s20::s21::s22::s23::s24::s25::s26::s27::s28::s29::s30::s31::[]⟩ h nx Kt =
 zh .mul .int s0 l fun v1=>zh .add .int v1 o fun v2=>zT 1 s1 v2 fun v3=>zC v3 h fun v4=>zh .add .int s3 v4 fun v5=>Kt ⟨(uz.fr b a e d v5 f l o),v5::v4::v3::v2::o::v1::l::s0::s1::s2::s3::s4::s5::s6::s7::s8::s9::s10::s11::s12::s13::s14::s15::s16::s17::s18::s19::s20::s21::s22::s23::s24::s25::s26::s27::s28::s29::s30::s31::[]⟩ h nx:=by kernel_rfl
theorem uz.go:zQ tbl N C (.of 230) [a0,a1,a2] h nx K0=IR.run uz.t7 C N (fnO uz.res K0) (yw uz.res K0) (uz.fr a0 a1 a2 .u .u .u .u .u) h nx:=yJ (F:=uz) (by kernel_rfl) (fun _=>by kernel_rfl) (by kernel_rfl)
theorem uz.ret:yw uz.res K0 (uz.fr b a e d c f l o) h nx=K0 c h nx:=by kernel_rfl
theorem qm.gq:IR.run qm.t0 C N O K (qm.fr b a e d c f) h nx =
 bH b h nx fun v1 h2 n3=>K (qm.fr b a e v1 (I 0) f) h2 n3:=by kernel_rfl
theorem qm.jv:IR.run qm.t1 C N O K (qm.fr b a e d c f) h nx =
 zH 0 d fun v1=>zC v1 h fun v2=>K (qm.fr b a e d c v2) h nx:=by kernel_rfl
theorem qm.uq:IR.run qm.t2 C N O K tm h nx=zR qm.oL C ⟨tm,[]⟩ h nx (fun tm h nx=>K tm.v h nx):=wS ..
theorem qm.oM:zR (qm.aS r) C ⟨(qm.fr b a e d c f),[]⟩ h nx Kt =
 zH 2 d fun v1=>zC v1 h fun v2=>zh .mul .int f a fun v3=>zh .add .int v3 e fun v4=>zT 1 v2 v4 fun v5=>zR r C ⟨(qm.fr b a e d c f),v5::v4::e::v3::a::f::v2::v1::[]⟩ h nx Kt:=by kernel_rfl
theorem qm.zal:zR (qm.zar r) C ⟨(qm.fr b a e d c f),s0::s1::s2::s3::s4::s5::s6::s7::[]⟩ h nx Kt =
 zC s0 h fun v1=>zH 2 d fun v2=>zC v2 h fun v3=>zh .quo .int f (I 2) fun v4=>zh .add .int a v4 fun v5=>zR r C ⟨(qm.fr b a e d c f),v5::v4::f::a::f::v3::v2::v1::s0::s1::s2::s3::s4::s5::s6::s7::[]⟩ h nx Kt:=by kernel_rfl
theorem qm.zg3:zR (qm.ze5 r) C ⟨(qm.fr b a e d c f),s0::s1::s2::s3::s4::s5::s6::s7::s8::s9::s10::s11::s12::s13::s14::s15::[]⟩ h nx Kt =
 zh .rem .int s0 f fun v1=>zh .mul .int s4 v1 fun v2=>zh .quo .int f (I 2) fun v3=>zh .add .int e v3 fun v4=>zR r C ⟨(qm.fr b a e d c f),f::v4::v3::f::e::v2::v1::f::s0::s1::s2::s3::s4::s5::s6::s7::s8::s9::s10::s11::s12::s13::s14::s15::[]⟩ h nx Kt:=by kernel_rfl
theorem qm.zg4:zR (qm.ze6 []) C ⟨(qm.fr b a e d c f),s0::s1::s2::s3::s4::s5::s6::s7::s8::s9::s10::s11::s12::s13::s14::s15::s16::s17::s18::s19::s20::s21::s22::s23::[]⟩ h nx Kt =
 zh .rem .int s1 s0 fun v1=>zh .add .int s5 v1 fun v2=>zT 1 s13 v2 fun v3=>zC v3 h fun v4=>zh .add .int s15 v4 fun v5=>Kt ⟨(qm.fr b a e d v5 f),v5::v4::v3::v2::v1::s0::s1::s2::s3::s4::s5::s6::s7::s8::s9::s10::s11::s12::s13::s14::s15::s16::s17::s18::s19::s20::s21::s22::s23::[]⟩ h nx:=by kernel_rfl
theorem qm.go:zQ tbl N C (.of 231) [a0,a1,a2] h nx K0=IR.run qm.t5 C N (fnO qm.res K0) (yw qm.res K0) (qm.fr a0 a1 a2 .u .u .u) h nx:=yJ (F:=qm) (by kernel_rfl) (fun _=>by kernel_rfl) (by kernel_rfl)
theorem qm.ret:yw qm.res K0 (qm.fr b a e d c f) h nx=K0 c h nx:=by kernel_rfl
theorem uw.gq:IR.run uw.t0 C N O K (uw.fr b a e d c f) h nx =
 bH b h nx fun v1 h2 n3=>K (uw.fr b v1 (.bool false) d c f) h2 n3:=by kernel_rfl
theorem uw.jv:IR.run uw.t1 C N O K (uw.fr b a e d c f) h nx =
 zH 0 a fun v1=>zC v1 h fun v2=>zh .lss .int v2 (I 5) fun v3=>K (uw.fr b a e v3 c f) h nx:=by kernel_rfl
theorem uw.uq:IR.run uw.t2 C N O K (uw.fr b a e d c f) h nx =
 K (uw.fr b a (.bool false) d c f) h nx:=by kernel_rfl
theorem uw.v3:Arg.ev (.t (.of 3)) ⟨(uw.fr b a e d c f),[]⟩=d:=by kernel_rfl
theorem uw.pq:IR.run uw.t6 C N O K (uw.fr b a e d c f) h nx =
 zH 0 a fun v1=>zC v1 h fun v2=>zh .geq .int v2 (I 5) fun v3=>K (uw.fr b a e d v3 f) h nx:=by kernel_rfl
theorem uw.v4:Arg.ev (.t (.of 4)) ⟨(uw.fr b a e d c f),[]⟩=c:=by kernel_rfl
theorem uw.fC:IR.run uw.t9 C N O K (uw.fr b a e d c f) h nx =
 zO 3 a h fun v1=>C.fn 232 (.of 232) [v1] h nx fun v2 h3 n4=>zX 3 a v2 h3 n4 fun v5 h6 n7=>K (uw.fr b a e d c f) h6 n7:=by kernel_rfl
theorem uw.dh:IR.run uw.t10 C N O K (uw.fr b a e d c f) h nx =
 zO 3 a h fun v1=>C.fn 63 (.of 63) [(.str [109,97,103,105,99]),v1] h nx fun v2 h3 n4=>sNot v2 fun v5=>K (uw.fr b a e d c v5) h3 n4:=by kernel_rfl
theorem uw.xu:IR.run uw.t11 C N O K (uw.fr b a e d c f) h nx =
 K (uw.fr b a (.bool false) d c f) h nx:=by kernel_rfl
theorem uw.v5:Arg.ev (.t (.of 5)) ⟨(uw.fr b a e d c f),[]⟩=f:=by kernel_rfl
theorem uw.zaf (Inv:Nat->T Blk->Pa->Prop) {m:Nat} (hm:m<N) (hi:Inv m h nx)
  (step:∀ (m:Nat) (z2 z4 z5:AV) (h:T Blk) (nx:Pa) (R:Ks Prop),Inv m h nx->(∀ (m':Nat) (w2 w4 w5:AV) (h':T Blk) (nx':Pa),m'<m->Inv m' h' nx'->R (uw.fr b a w2 d w4 w5) h' nx'=.ok True)->IR.run uw.t17 C N O R (uw.fr b a z2 d z4 z5) h nx=.ok True) :
  IR.run uw.t18 C N O K (uw.fr b a e d c f) h nx=.ok True:=by
 rw [uw.t18];refine yC (fun m tm h nx=>∃ z2 z4 z5,tm=(uw.fr b a z2 d z4 z5)/\Inv m h nx) ?_ hm ⟨_,_,_,rfl,hi⟩;rintro m tm h nx R ⟨z2,z4,z5,rfl,hi⟩ hR;exact step m z2 z4 z5 h nx R hi fun m' w2 w4 w5 h' nx' hlt hi'=>hR m' _ h' nx' hlt ⟨_,_,_,rfl,hi'⟩
theorem uw.rY:IR.run uw.t20 C N O K (uw.fr b a e d c f) h nx =
 K (uw.fr b a (.bool true) d c f) h nx:=by kernel_rfl
theorem uw.go:zQ tbl N C (.of 148) [a0] h nx K0=IR.run uw.t24 C N (fnO uw.res K0) (yw uw.res K0) (uw.fr a0 .u .u .u .u .u) h nx:=yJ (F:=uw) (by kernel_rfl) (fun _=>by kernel_rfl) (by kernel_rfl)
theorem uw.ret:yw uw.res K0 (uw.fr b a e d c f) h nx=K0 e h nx:=by kernel_rfl
theorem jo.gq:IR.run jo.t0 C N O K (jo.fr b a e d c f l o p) h nx =
 bH b h nx fun v1 h2 n3=>yS [(I 0),(I 0),.zf] h2 n3 fun v4 h5 n6=>K (jo.fr b v1 v4 d c f l o p) h5 n6:=by kernel_rfl
theorem jo.jv:IR.run jo.t1 C N O K (jo.fr b a e d c f l o p) h nx =
 zH 0 a fun v1=>zC v1 h fun v2=>zh .sub .int v2 (I 2) fun v3=>K (jo.fr b a e v3 c f l o p) h nx:=by kernel_rfl
theorem jo.uq:IR.run jo.t2 C N O K (jo.fr b a e d c f l o p) h nx =
 yV [(I 0),(I 0),.zf] [(0,1,d),(1,1,d)] fun v1=>yS [(I 0),(I 0),.zf] h nx fun v2 h3 n4=>zX 3 v2 v1 h3 n4 fun v5 h6 n7=>K (jo.fr b a e d v2 f l o p) h6 n7:=by kernel_rfl
theorem jo.vk:IR.run jo.t3 C N O K (jo.fr b a e d c f l o p) h nx =
 K (jo.fr b a e d c (I 1) l o p) h nx:=by kernel_rfl
theorem jo.cu:IR.run jo.t4 C N O K (jo.fr b a e d c f l o p) h nx =
 zh .leq .int f d fun v1=>K (jo.fr b a e d c f l v1 p) h nx:=by kernel_rfl
theorem jo.v7:Arg.ev (.t (.of 7)) ⟨(jo.fr b a e d c f l o p),[]⟩=o:=by kernel_rfl
theorem jo.vz:IR.run jo.t7 C N O K (jo.fr b a e d c f l o p) h nx =
 K (jo.fr b a e d c f (I 1) o p) h nx:=by kernel_rfl
theorem jo.dw:IR.run jo.t8 C N O K (jo.fr b a e d c f l o p) h nx =
 zh .leq .int l d fun v1=>K (jo.fr b a e d c f l o v1) h nx:=by kernel_rfl
theorem jo.v8:Arg.ev (.t (.of 8)) ⟨(jo.fr b a e d c f l o p),[]⟩=p:=by kernel_rfl
theorem jo.xu:IR.run jo.t11 C N O K (jo.fr b a e d c f l o p) h nx =
 zH 2 c fun v1=>zC v1 h fun v2=>zH 2 a fun v3=>zC v3 h fun v4=>zH 0 a fun v5=>zC v5 h fun v6=>zh .mul .int v6 f fun v7=>zh .add .int v7 l fun v8=>zT 1 v4 v8 fun v9=>zC v9 h fun vF=>yU 1 1 [(I 0)] [(0,1,vF)] h nx fun vE hH nI=>(zC v1 hH fun vU=>zW vU v2 ((zH 2 c fun vV=>zW vV v1 (rD 1 8 v2 vE hH nI fun vH hI nJ=>zH 2 c fun vW=>zX 1 vW vH hI nJ fun vB hN nO=>K (jo.fr b a e d c f l o p) hN nO)))):=by kernel_rfl
theorem jo.fD:IR.run jo.t13 C N O K (jo.fr b a e d c f l o p) h nx =
 zh .add .int l (I 1) fun v1=>K (jo.fr b a e d c f v1 o p) h nx:=by kernel_rfl
theorem jo.zaz (Inv:Nat->AV->T Blk->Pa->Prop) {m:Nat} (hm:m<N) (hi:Inv m l h nx)
  (step:∀ (m:Nat) (z6 z8:AV) (h:T Blk) (nx:Pa) (R:Ks Prop),Inv m z6 h nx->(∀ (m':Nat) (w6 w8:AV) (h':T Blk) (nx':Pa),m'<m->Inv m' w6 h' nx'->R (jo.fr b a e d c f w6 o w8) h' nx'=.ok True)->IR.run jo.t15 C N O R (jo.fr b a e d c f z6 o z8) h nx=.ok True) :
  IR.run jo.t16 C N O K (jo.fr b a e d c f l o p) h nx=.ok True:=by
 rw [jo.t16];refine yC (fun m tm h nx=>∃ z6 z8,tm=(jo.fr b a e d c f z6 o z8)/\Inv m z6 h nx) ?_ hm ⟨_,_,rfl,hi⟩;rintro m tm h nx R ⟨z6,z8,rfl,hi⟩ hR;exact step m z6 z8 h nx R hi fun m' w6 w8 h' nx' hlt hi'=>hR m' _ h' nx' hlt ⟨_,_,rfl,hi'⟩
theorem jo.rY:IR.run jo.t20 C N O K (jo.fr b a e d c f l o p) h nx =
 zh .add .int f (I 1) fun v1=>K (jo.fr b a e d c v1 l o p) h nx:=by kernel_rfl
theorem jo.zlm (Inv:Nat->AV->T Blk->Pa->Prop) {m:Nat} (hm:m<N) (hi:Inv m f h nx)
  (step:∀ (m:Nat) (z5 z6 z7 z8:AV) (h:T Blk) (nx:Pa) (R:Ks Prop),Inv m z5 h nx->(∀ (m':Nat) (w5 w6 w7 w8:AV) (h':T Blk) (nx':Pa),m'<m->Inv m' w5 h' nx'->R (jo.fr b a e d c w5 w6 w7 w8) h' nx'=.ok True)->IR.run jo.t22 C N O R (jo.fr b a e d c z5 z6 z7 z8) h nx=.ok True) :
  IR.run jo.t23 C N O K (jo.fr b a e d c f l o p) h nx=.ok True:=by
 rw [jo.t23];refine yC (fun m tm h nx=>∃ z5 z6 z7 z8,tm=(jo.fr b a e d c z5 z6 z7 z8)/\Inv m z5 h nx) ?_ hm ⟨_,_,_,_,rfl,hi⟩;rintro m tm h nx R ⟨z5,z6,z7,z8,rfl,hi⟩ hR;exact step m z5 z6 z7 z8 h nx R hi fun m' w5 w6 w7 w8 h' nx' hlt hi'=>hR m' _ h' nx' hlt ⟨_,_,_,_,rfl,hi'⟩
theorem jo.zcu:IR.run jo.t26 C N O K (jo.fr b a e d c f l o p) h nx =
 zO 3 c h fun v1=>zX 3 e v1 h nx fun v2 h3 n4=>K (jo.fr b a e d c f l o p) h3 n4:=by kernel_rfl
theorem jo.go:zQ tbl N C (.of 232) [a0] h nx K0=IR.run jo.t31 C N (fnO jo.res K0) (yw jo.res K0) (jo.fr a0 .u .u .u .u .u .u .u .u) h nx:=yJ (F:=jo) (by kernel_rfl) (fun _=>by kernel_rfl) (by kernel_rfl)
theorem jo.ret:yw jo.res K0 (jo.fr b a e d c f l o p) h nx=zO 3 e h fun v1=>K0 v1 h nx:=by kernel_rfl
theorem F62.gq:IR.run F62.t0 C N O K (F62.fr b a e d c f l o p q i j s) h nx =
 bH b h nx fun v1 h2 n3=>K (F62.fr b v1 .zf d c f l o p q i j s) h2 n3:=by kernel_rfl
theorem F62.jv:IR.run F62.t1 C N O K (F62.fr b a e d c f l o p q i j s) h nx =
 K (F62.fr b a e .zf c f l o p q i j s) h nx:=by kernel_rfl
theorem F62.uq:IR.run F62.t2 C N O K (F62.fr b a e d c f l o p q i j s) h nx =
 zO 3 a h fun v1=>C.fn 63 (.of 63) [(.str [109,97,103,105,99]),v1] h nx fun v2 h3 n4=>K (F62.fr b a e d v2 f l o p q i j s) h3 n4:=by kernel_rfl
theorem F62.vk:IR.run F62.t3 C N O K (F62.fr b a e d c f l o p q i j s) h nx =
 zH 2 a fun v1=>zC v1 h fun v2=>C.fn 46 (.of 46) [v2] h nx fun v3 h4 n5=>K (F62.fr b a e d c v3 l o p q i j s) h4 n5:=by kernel_rfl
theorem F62.cu:IR.run F62.t4 C N O K (F62.fr b a e d c f l o p q i j s) h nx =
 yU 1 1 [(.str [])] [(0,1,(.str [110,111,114,109,97,108]))] h nx fun v1 h2 n3=>rD 1 16 d v1 h2 n3 fun v4 h5 n6=>K (F62.fr b a e v4 c f l o p q i j s) h5 n6:=by kernel_rfl
theorem F62.v5:Arg.ev (.t (.of 5)) ⟨(F62.fr b a e d c f l o p q i j s),[]⟩=f:=by kernel_rfl
theorem F62.vz:IR.run F62.t7 C N O K (F62.fr b a e d c f l o p q i j s) h nx =
 zO 3 a h fun v1=>C.fn 63 (.of 63) [(.str [115,101,109,105,109,97,103,105,99]),v1] h nx fun v2 h3 n4=>K (F62.fr b a e d c f v2 o p q i j s) h3 n4:=by kernel_rfl
theorem F62.dw:IR.run F62.t8 C N O K (F62.fr b a e d c f l o p q i j s) h nx =
 yU 1 1 [(.str [])] [(0,1,(.str [115,101,109,105,109,97,103,105,99]))] h nx fun v1 h2 n3=>rD 1 16 d v1 h2 n3 fun v4 h5 n6=>K (F62.fr b a e v4 c f l o p q i j s) h5 n6:=by kernel_rfl
theorem F62.v6:Arg.ev (.t (.of 6)) ⟨(F62.fr b a e d c f l o p q i j s),[]⟩=l:=by kernel_rfl
theorem F62.xu:IR.run F62.t11 C N O K (F62.fr b a e d c f l o p q i j s) h nx =
 K (F62.fr b a e d c f l c p q i j s) h nx:=by kernel_rfl
theorem F62.bT:IR.run F62.t12 C N O K (F62.fr b a e d c f l o p q i j s) h nx =
 yU 1 1 [(.str [])] [(0,1,(.str [109,97,103,105,99]))] h nx fun v1 h2 n3=>rD 1 16 d v1 h2 n3 fun v4 h5 n6=>K (F62.fr b a e v4 c f l o p q i j s) h5 n6:=by kernel_rfl
theorem F62.v7:Arg.ev (.t (.of 7)) ⟨(F62.fr b a e d c f l o p q i j s),[]⟩=o:=by kernel_rfl
theorem F62.rJ:IR.run F62.t15 C N O K (F62.fr b a e d c f l o p q i j s) h nx =
 zO 3 a h fun v1=>C.fn 63 (.of 63) [(.str [112,97,110,100,105,97,103,111,110,97,108]),v1] h nx fun v2 h3 n4=>K (F62.fr b a e d c f l o v2 q i j s) h3 n4:=by kernel_rfl
theorem F62.sZ:IR.run F62.t16 C N O K (F62.fr b a e d c f l o p q i j s) h nx =
 yU 1 1 [(.str [])] [(0,1,(.str [112,97,110,100,105,97,103,111,110,97,108]))] h nx fun v1 h2 n3=>rD 1 16 d v1 h2 n3 fun v4 h5 n6=>K (F62.fr b a e v4 c f l o p q i j s) h5 n6:=by kernel_rfl
theorem F62.v8:Arg.ev (.t (.of 8)) ⟨(F62.fr b a e d c f l o p q i j s),[]⟩=p:=by kernel_rfl
theorem F62.sK:IR.run F62.t19 C N O K (F62.fr b a e d c f l o p q i j s) h nx =
 sG c true (fun k=>zH 2 a k) fun v1=>sG c true (fun k=>zC v1 h k) fun v2=>sGW c true (fun k=>C.fn 146 (.of 146) [v2] h nx k) h nx fun v3 h4 n5=>yE c v3 (.bool false) fun v6=>K (F62.fr b a e d c f l o p v6 i j s) h4 n5:=by kernel_rfl
theorem F62.rY:IR.run F62.t20 C N O K (F62.fr b a e d c f l o p q i j s) h nx =
 yU 1 1 [(.str [])] [(0,1,(.str [97,115,115,111,99,105,97,116,105,118,101]))] h nx fun v1 h2 n3=>rD 1 16 d v1 h2 n3 fun v4 h5 n6=>K (F62.fr b a e v4 c f l o p q i j s) h5 n6:=by kernel_rfl
theorem F62.v9:Arg.ev (.t (.of 9)) ⟨(F62.fr b a e d c f l o p q i j s),[]⟩=q:=by kernel_rfl
theorem F62.zav:IR.run F62.t23 C N O K (F62.fr b a e d c f l o p q i j s) h nx =
 zO 3 a h fun v1=>C.fn 63 (.of 63) [(.str [112,97,110,100,105,97,103,111,110,97,108]),v1] h nx fun v2 h3 n4=>sG v2 true (fun k=>zO 3 a h3 k) fun v5=>sGW v2 true (fun k=>C.fn 147 (.of 147) [v5] h3 n4 k) h3 n4 fun v6 h7 n8=>yE v2 v6 (.bool false) fun v9=>K (F62.fr b a e d c f l o p q v9 j s) h7 n8:=by kernel_rfl
theorem F62.aj:IR.run F62.t24 C N O K (F62.fr b a e d c f l o p q i j s) h nx =
 yU 1 1 [(.str [])] [(0,1,(.str [109,111,115,116,45,112,101,114,102,101,99,116]))] h nx fun v1 h2 n3=>rD 1 16 d v1 h2 n3 fun v4 h5 n6=>K (F62.fr b a e v4 c f l o p q i j s) h5 n6:=by kernel_rfl
theorem F62.v10:Arg.ev (.t (.of 10)) ⟨(F62.fr b a e d c f l o p q i j s),[]⟩=i:=by kernel_rfl
theorem F62.zcv:IR.run F62.t27 C N O K (F62.fr b a e d c f l o p q i j s) h nx =
 sG c true (fun k=>zO 3 a h k) fun v1=>sGW c true (fun k=>C.fn 148 (.of 148) [v1] h nx k) h nx fun v2 h3 n4=>yE c v2 (.bool false) fun v5=>K (F62.fr b a e d c f l o p q i v5 s) h3 n4:=by kernel_rfl
theorem F62.zae:IR.run F62.t28 C N O K (F62.fr b a e d c f l o p q i j s) h nx =
 yU 1 1 [(.str [])] [(0,1,(.str [98,111,114,100,101,114,101,100]))] h nx fun v1 h2 n3=>rD 1 16 d v1 h2 n3 fun v4 h5 n6=>K (F62.fr b a e v4 c f l o p q i j s) h5 n6:=by kernel_rfl
theorem F62.v11:Arg.ev (.t (.of 11)) ⟨(F62.fr b a e d c f l o p q i j s),[]⟩=j:=by kernel_rfl
theorem F62.zlk:IR.run F62.t31 C N O K (F62.fr b a e d c f l o p q i j s) h nx =
 bif gOk c true then (zH 0 a fun v1=>bif gOk c true then (zC v1 h fun v2=>sG c true (fun k=>zH 2 a k) fun v3=>sG c true (fun k=>zC v3 h k) fun v4=>sGW c true (fun k=>C.fn 150 (.of 150) [v4,(I 2)] h nx fun v8 h9 nD=>(zC v1 h9 fun vC=>zW vC v2 ((zH 0 a fun vE=>zW vE v1 (k v8 h9 nD))))) h nx fun v5 h6 n7=>sGW c true (fun k=>C.fn 149 (.of 149) [(.str [109,97,103,105,99]),v2,v5] h6 n7 k) h6 n7 fun vG hO nP=>yE c vG (.bool false) fun vI=>K (F62.fr b a e d c f l o p q i j vI) hO nP) else (sG c true (fun k=>zH 2 a k) fun vW=>sG c true (fun k=>zC vW h k) fun vB=>sGW c true (fun k=>C.fn 150 (.of 150) [vB,(I 2)] h nx fun vU hP nQ=>(zH 0 a fun vQ=>zW vQ v1 (k vU hP nQ))) h nx fun vA hQ nR=>sGW c true (fun k=>C.fn 149 (.of 149) [(.str [109,97,103,105,99]),.u,vA] hQ nR k) hQ nR fun vX hL nM=>yE c vX (.bool false) fun vY=>K (F62.fr b a e d c f l o p q i j vY) hL nM)) else (bif gOk c true then (zC .u h fun vZ=>sG c true (fun k=>zH 2 a k) fun vS=>sG c true (fun k=>zC vS h k) fun vT=>sGW c true (fun k=>C.fn 150 (.of 150) [vT,(I 2)] h nx fun vJ hS nS=>(zC .u hS fun v39=>zW v39 vZ (k vJ hS nS))) h nx fun vM hT nT=>sGW c true (fun k=>C.fn 149 (.of 149) [(.str [109,97,103,105,99]),vZ,vM] hT nT k) hT nT fun v40 hU nU=>yE c v40 (.bool false) fun v43=>K (F62.fr b a e d c f l o p q i j v43) hU nU) else (sG c true (fun k=>zH 2 a k) fun v44=>sG c true (fun k=>zC v44 h k) fun v45=>sGW c true (fun k=>C.fn 150 (.of 150) [v45,(I 2)] h nx k) h nx fun v46 hV nV=>sGW c true (fun k=>C.fn 149 (.of 149) [(.str [109,97,103,105,99]),.u,v46] hV nV k) hV nV fun v49 hW nW=>yE c v49 (.bool false) fun v52=>K (F62.fr b a e d c f l o p q i j v52) hW nW)):=by kernel_rfl
theorem F62.zxb:IR.run F62.t32 C N O K (F62.fr b a e d c f l o p q i j s) h nx =
 yU 1 1 [(.str [])] [(0,1,(.str [98,105,109,97,103,105,99]))] h nx fun v1 h2 n3=>rD 1 16 d v1 h2 n3 fun v4 h5 n6=>K (F62.fr b a e v4 c f l o p q i j s) h5 n6:=by kernel_rfl
theorem F62.v12:Arg.ev (.t (.of 12)) ⟨(F62.fr b a e d c f l o p q i j s),[]⟩=s:=by kernel_rfl
theorem F62.za0:IR.run F62.t35 C N O K (F62.fr b a e d c f l o p q i j s) h nx =
 K (F62.fr b a d d c f l o p q i j s) h nx:=by kernel_rfl
theorem F62.go:zQ tbl N C (.of 62) [a0] h nx K0=IR.run F62.t47 C N (fnO F62.res K0) (yw F62.res K0) (F62.fr a0 .u .u .u .u .u .u .u .u .u .u .u .u) h nx:=yJ (F:=F62) (by kernel_rfl) (fun _=>by kernel_rfl) (by kernel_rfl)
theorem F62.ret:yw F62.res K0 (F62.fr b a e d c f l o p q i j s) h nx=K0 e h nx:=by kernel_rfl
theorem F61.gq:IR.run F61.t0 C N O K (F61.fr b a e d c f l o p q) h nx =
 bH b h nx fun v1 h2 n3=>K (F61.fr b v1 (I 0) (I 0) c f l o p q) h2 n3:=by kernel_rfl
theorem F61.jv:IR.run F61.t1 C N O K (F61.fr b a e d c f l o p q) h nx =
 zO 3 a h fun v1=>C.fn 140 (.of 140) [v1] h nx fun v2 h3 n4=>K (F61.fr b a e d v2 f l o p q) h3 n4:=by kernel_rfl
theorem F61.uq:IR.run F61.t2 C N O K (F61.fr b a e d c f l o p q) h nx =
 zh .neq .int c (I 0) fun v1=>K (F61.fr b a e d c f l v1 p q) h nx:=by kernel_rfl
theorem F61.vk:IR.run F61.t3 C N O K (F61.fr b a e d c f l o p q) h nx =
 K (F61.fr b a (I 0) c c f l o p q) h nx:=by kernel_rfl
theorem F61.v7:Arg.ev (.t (.of 7)) ⟨(F61.fr b a e d c f l o p q),[]⟩=o:=by kernel_rfl
theorem F61.dw:IR.run F61.t8 C N O K (F61.fr b a e d c f l o p q) h nx =
 zH 0 a fun v1=>zC v1 h fun v2=>zH 2 a fun v3=>zC v3 h fun v4=>yV [(I 0),.zf] [(0,1,v2),(1,1,v4)] fun v5=>yS [(I 0),.zf] h nx fun v6 h7 n8=>zX 2 v6 v5 h7 n8 fun v9 hA nA=>K (F61.fr b a e d c v6 l o p q) hA nA:=by kernel_rfl
theorem F61.fC:IR.run F61.t9 C N O K (F61.fr b a e d c f l o p q) h nx =
 zO 2 f h fun v1=>C.fn 144 (.of 144) [v1,(.str [109,97,103,105,99])] h nx fun v2 h3 n4=>sNot v2 fun v5=>K (F61.fr b a e d c f l o v5 q) h3 n4:=by kernel_rfl
theorem F61.dh:IR.run F61.t10 C N O K (F61.fr b a e d c f l o p q) h nx =
 K (F61.fr b a (I 0) (I 16) c f l o p q) h nx:=by kernel_rfl
theorem F61.v8:Arg.ev (.t (.of 8)) ⟨(F61.fr b a e d c f l o p q),[]⟩=p:=by kernel_rfl
theorem F61.fG:IR.run F61.t14 C N O K (F61.fr b a e d c f l o p q) h nx =
 K (F61.fr b a e d c f (I 1) o p q) h nx:=by kernel_rfl
theorem F61.rJ:IR.run F61.t15 C N O K tm h nx=zR F61.ou C ⟨tm,[]⟩ h nx (fun tm h nx=>K tm.v h nx):=yZ ..
theorem F61.aW:zR (F61.aX r) C ⟨(F61.fr b a e d c f l o p q),[]⟩ h nx Kt =
 zh .lss .int l (I 4) fun v1=>sG v1 true (fun k=>zO 2 f h k) fun v2=>sG v1 true (fun k=>k l) fun v3=>sG v1 true (fun k=>zh .add .int v3 (I 1) k) fun v4=>sGW v1 true (fun k=>C.fn 145 (.of 145) [v2,v4] h nx k) h nx fun v5 h6 n7=>zR r C ⟨(F61.fr b a e d c f l o p q),v5::v4::v3::v2::v1::v1::l::[]⟩ h6 n7 Kt:=by kernel_rfl
theorem F61.tX:zR (F61.aY []) C ⟨(F61.fr b a e d c f l o p q),s0::s1::s2::s3::s4::s5::s6::[]⟩ h nx Kt =
 yE s4 s0 (.bool false) fun v1=>Kt ⟨(F61.fr b a e d c f l o p v1),s0::s1::s2::s3::s4::s5::s6::[]⟩ h nx:=by kernel_rfl
theorem F61.v9:Arg.ev (.t (.of 9)) ⟨(F61.fr b a e d c f l o p q),[]⟩=q:=by kernel_rfl
theorem F61.aT:IR.run F61.t18 C N O K (F61.fr b a e d c f l o p q) h nx =
 zh .add .int l (I 1) fun v1=>K (F61.fr b a e d c f v1 o p q) h nx:=by kernel_rfl
theorem F61.zlj (Inv:Nat->AV->T Blk->Pa->Prop) {m:Nat} (hm:m<N) (hi:Inv m l h nx)
  (step:∀ (m:Nat) (z6 z9:AV) (h:T Blk) (nx:Pa) (R:Ks Prop),Inv m z6 h nx->(∀ (m':Nat) (w6 w9:AV) (h':T Blk) (nx':Pa),m'<m->Inv m' w6 h' nx'->R (F61.fr b a e d c f w6 o p w9) h' nx'=.ok True)->IR.run F61.t20 C N O R (F61.fr b a e d c f z6 o p z9) h nx=.ok True) :
  IR.run F61.t21 C N O K (F61.fr b a e d c f l o p q) h nx=.ok True:=by
 rw [F61.t21];refine yC (fun m tm h nx=>∃ z6 z9,tm=(F61.fr b a e d c f z6 o p z9)/\Inv m z6 h nx) ?_ hm ⟨_,_,rfl,hi⟩;rintro m tm h nx R ⟨z6,z9,rfl,hi⟩ hR;exact step m z6 z9 h nx R hi fun m' w6 w9 h' nx' hlt hi'=>hR m' _ h' nx' hlt ⟨_,_,rfl,hi'⟩
theorem F61.zav:IR.run F61.t23 C N O K (F61.fr b a e d c f l o p q) h nx =
 K (F61.fr b a l (I 0) c f l o p q) h nx:=by kernel_rfl
theorem F61.go:zQ tbl N C (.of 61) [a0] h nx K0=IR.run F61.t30 C N (fnO F61.res K0) (yw F61.res K0) (F61.fr a0 .u .u .u .u .u .u .u .u .u) h nx:=yJ (F:=F61) (by kernel_rfl) (fun _=>by kernel_rfl) (by kernel_rfl)
theorem F61.ret:yw F61.res K0 (F61.fr b a e d c f l o p q) h nx=K0 (.tup [e,d]) h nx:=by kernel_rfl
theorem F64.gq:IR.run F64.t0 C N O K (F64.fr b a e d c) h nx =
 bH b h nx fun v1 h2 n3=>K (F64.fr b v1 (I 0) d c) h2 n3:=by kernel_rfl
theorem F64.jv:IR.run F64.t1 C N O K (F64.fr b a e d c) h nx =
 K (F64.fr b a e (I 0) c) h nx:=by kernel_rfl
theorem F64.uq:IR.run F64.t2 C N O K (F64.fr b a e d c) h nx =
 zh .lss .int d (I 4) fun v1=>bif gOk v1 true then (zH 0 a fun v2=>bif gOk v1 true then (zC v2 h fun v3=>sG v1 true (fun k=>zH 2 a k) fun v4=>sG v1 true (fun k=>zC v4 h k) fun v5=>sG v1 true (fun k=>k d) fun v6=>sG v1 true (fun k=>zh .add .int v6 (I 1) k) fun v7=>sGW v1 true (fun k=>C.fn 150 (.of 150) [v5,v7] h nx fun vE hH nI=>(zC v2 hH fun vD=>zW vD v3 ((zH 0 a fun vH=>zW vH v2 (k vE hH nI))))) h nx fun v8 h9 nD=>sGW v1 true (fun k=>C.fn 149 (.of 149) [(.str [109,97,103,105,99]),v3,v8] h9 nD k) h9 nD fun vI hD nE=>yE v1 vI (.bool false) fun vA=>K (F64.fr b a e d vA) hD nE) else (sG v1 true (fun k=>zH 2 a k) fun vN=>sG v1 true (fun k=>zC vN h k) fun vV=>sG v1 true (fun k=>k d) fun vU=>sG v1 true (fun k=>zh .add .int vU (I 1) k) fun vO=>sGW v1 true (fun k=>C.fn 150 (.of 150) [vV,vO] h nx fun v27 hX nX=>(zH 0 a fun vZ=>zW vZ v2 (k v27 hX nX))) h nx fun vP hY nY=>sGW v1 true (fun k=>C.fn 149 (.of 149) [(.str [109,97,103,105,99]),.u,vP] hY nY k) hY nY fun vS hZ nZ=>yE v1 vS (.bool false) fun vL=>K (F64.fr b a e d vL) hZ nZ)) else (bif gOk v1 true then (zC .u h fun vK=>sG v1 true (fun k=>zH 2 a k) fun vJ=>sG v1 true (fun k=>zC vJ h k) fun v37=>sG v1 true (fun k=>k d) fun v38=>sG v1 true (fun k=>zh .add .int v38 (I 1) k) fun v39=>sGW v1 true (fun k=>C.fn 150 (.of 150) [v37,v39] h nx fun v43 h44 n45=>(zC .u h44 fun v46=>zW v46 vK (k v43 h44 n45))) h nx fun v40 hU nU=>sGW v1 true (fun k=>C.fn 149 (.of 149) [(.str [109,97,103,105,99]),vK,v40] hU nU k) hU nU fun v47 h48 n49=>yE v1 v47 (.bool false) fun v50=>K (F64.fr b a e d v50) h48 n49) else (sG v1 true (fun k=>zH 2 a k) fun v51=>sG v1 true (fun k=>zC v51 h k) fun v52=>sG v1 true (fun k=>k d) fun v53=>sG v1 true (fun k=>zh .add .int v53 (I 1) k) fun v54=>sGW v1 true (fun k=>C.fn 150 (.of 150) [v52,v54] h nx k) h nx fun v55 h56 n57=>sGW v1 true (fun k=>C.fn 149 (.of 149) [(.str [109,97,103,105,99]),.u,v55] h56 n57 k) h56 n57 fun v58 h59 n60=>yE v1 v58 (.bool false) fun v61=>K (F64.fr b a e d v61) h59 n60)):=by kernel_rfl
theorem F64.v4:Arg.ev (.t (.of 4)) ⟨(F64.fr b a e d c),[]⟩=c:=by kernel_rfl
theorem F64.fZ:IR.run F64.t5 C N O K (F64.fr b a e d c) h nx =
 zh .add .int d (I 1) fun v1=>K (F64.fr b a e v1 c) h nx:=by kernel_rfl
theorem F64.t8_L (Inv:Nat->AV->T Blk->Pa->Prop) {m:Nat} (hm:m<N) (hi:Inv m d h nx)
  (step:∀ (m:Nat) (z3 z4:AV) (h:T Blk) (nx:Pa) (R:Ks Prop),Inv m z3 h nx->(∀ (m':Nat) (w3 w4:AV) (h':T Blk) (nx':Pa),m'<m->Inv m' w3 h' nx'->R (F64.fr b a e w3 w4) h' nx'=.ok True)->IR.run F64.t7 C N O R (F64.fr b a e z3 z4) h nx=.ok True) :
  IR.run F64.t8 C N O K (F64.fr b a e d c) h nx=.ok True:=by
 rw [F64.t8];refine yC (fun m tm h nx=>∃ z3 z4,tm=(F64.fr b a e z3 z4)/\Inv m z3 h nx) ?_ hm ⟨_,_,rfl,hi⟩;rintro m tm h nx R ⟨z3,z4,rfl,hi⟩ hR;exact step m z3 z4 h nx R hi fun m' w3 w4 h' nx' hlt hi'=>hR m' _ h' nx' hlt ⟨_,_,rfl,hi'⟩
theorem F64.dh:IR.run F64.t10 C N O K (F64.fr b a e d c) h nx =
 K (F64.fr b a d d c) h nx:=by kernel_rfl
theorem F64.go:zQ tbl N C (.of 64) [a0] h nx K0=IR.run F64.t14 C N (fnO F64.res K0) (yw F64.res K0) (F64.fr a0 .u .u .u .u) h nx:=yJ (F:=F64) (by kernel_rfl) (fun _=>by kernel_rfl) (by kernel_rfl)
theorem F64.ret:yw F64.res K0 (F64.fr b a e d c) h nx=K0 e h nx:=by kernel_rfl
theorem F13.gq:IR.run F13.t0 C N O K (F13.fr b a e d c f l o p q i j) h nx =
 bH b h nx fun v1 h2 n3=>K (F13.fr b v1 (.bool false) d c f l o p q i j) h2 n3:=by kernel_rfl
theorem F13.jv:IR.run F13.t1 C N O K tm h nx=zR F13.aA C ⟨tm,[]⟩ h nx (fun tm h nx=>K tm.v h nx):=yZ ..
theorem F13.aB:zR (F13.tN r) C ⟨(F13.fr b a e d c f l o p q i j),[]⟩ h nx Kt =
 zH 2 a fun v1=>zC v1 h fun v2=>sLen v2 fun v3=>zh .gtr .int v3 (I 300) fun v4=>sG v4 false (fun k=>zH 0 a k) fun v5=>sG v4 false (fun k=>zC v5 h k) fun v6=>sG v4 false (fun k=>zh .gtr .int v6 (I 8) k) fun v7=>zR r C ⟨(F13.fr b a e d c f l o p q i j),v7::v6::v5::v4::v4::v3::v2::v1::[]⟩ h nx Kt:=by kernel_rfl
theorem F13.bY:zR (F13.tV []) C ⟨(F13.fr b a e d c f l o p q i j),s0::s1::s2::s3::s4::s5::s6::s7::[]⟩ h nx Kt =
 sG s3 false (fun k=>k s0) fun v1=>sG v1 true (fun k=>zH 0 a k) fun v2=>sG v1 true (fun k=>zC v2 h k) fun v3=>sG v1 true (fun k=>zh .leq .int v3 (I 16) k) fun v4=>sG s3 false (fun k=>yE v1 v4 (.bool false) k) fun v5=>yE s3 (.bool true) v5 fun v6=>Kt ⟨(F13.fr b a e d c f l o v6 q i j),v5::v4::v3::v2::v1::s0::s1::s2::s3::s4::s5::s6::s7::[]⟩ h nx:=by kernel_rfl
theorem F13.uq:IR.run F13.t2 C N O K (F13.fr b a e d c f l o p q i j) h nx =
 C.fn 17 (.of 17) [] h nx fun v1 h2 n3=>K (F13.fr b a v1 d c f l o p q i j) h2 n3:=by kernel_rfl
theorem F13.v8:Arg.ev (.t (.of 8)) ⟨(F13.fr b a e d c f l o p q i j),[]⟩=p:=by kernel_rfl
theorem F13.pq:IR.run F13.t6 C N O K (F13.fr b a e d c f l o p q i j) h nx =
 zO 3 a h fun v1=>C.fn 51 (.of 51) [v1] h nx fun v2 h3 n4=>dm 0 v2 fun v5=>dm 1 v2 fun v6=>K (F13.fr b a e v5 v6 f l o p q i j) h3 n4:=by kernel_rfl
theorem F13.vz:IR.run F13.t7 C N O K (F13.fr b a e d c f l o p q i j) h nx =
 zO 3 a h fun v1=>C.fn 61 (.of 61) [v1] h nx fun v2 h3 n4=>dm 0 v2 fun v5=>dm 1 v2 fun v6=>K (F13.fr b a e d c v5 v6 o p q i j) h3 n4:=by kernel_rfl
theorem F13.dw:IR.run F13.t8 C N O K (F13.fr b a e d c f l o p q i j) h nx =
 zO 3 a h fun v1=>C.fn 50 (.of 50) [v1] h nx fun v2 h3 n4=>K (F13.fr b a e d c f l v2 p q i j) h3 n4:=by kernel_rfl
theorem F13.fC:IR.run F13.t9 C N O K (F13.fr b a e d c f l o p q i j) h nx =
 zh .neq .int o (I 0) fun v1=>K (F13.fr b a e d c f l o p v1 i j) h nx:=by kernel_rfl
theorem F13.dh:IR.run F13.t10 C N O K tm h nx=zR F13.r7_0 C ⟨tm,[]⟩ h nx (fun tm h nx=>K tm.v h nx):=yZ ..
theorem F13.zam:zR (F13.zas r) C ⟨(F13.fr b a e d c f l o p q i j),[]⟩ h nx Kt =
 sLen d fun v1=>zh .eql .int v1 (I 0) fun v2=>sG v2 true (fun k=>k c) fun v3=>sG v2 true (fun k=>k o) fun v4=>sG v2 true (fun k=>zh .eql .int v3 v4 k) fun v5=>yE v2 v5 (.bool false) fun v6=>zR r C ⟨(F13.fr b a e d c f l o p q i j),v6::v5::v4::v3::v2::v2::v1::d::[]⟩ h nx Kt:=by kernel_rfl
theorem F13.zan:zR (F13.zat r) C ⟨(F13.fr b a e d c f l o p q i j),s0::s1::s2::s3::s4::s5::s6::s7::[]⟩ h nx Kt =
 sG s0 true (fun k=>k f) fun v1=>sG s0 true (fun k=>zh .eql .int v1 (I 0) k) fun v2=>yE s0 v2 (.bool false) fun v3=>sG v3 true (fun k=>k l) fun v4=>sG v3 true (fun k=>k o) fun v5=>sG v3 true (fun k=>zh .eql .int v4 v5 k) fun v6=>zR r C ⟨(F13.fr b a e d c f l o p q i j),v6::v5::v4::v3::v3::v2::v1::s0::s0::s1::s2::s3::s4::s5::s6::s7::[]⟩ h nx Kt:=by kernel_rfl
theorem F13.zao:zR (F13.zau r) C ⟨(F13.fr b a e d c f l o p q i j),s0::s1::s2::s3::s4::s5::s6::s7::s8::s9::s10::s11::s12::s13::s14::s15::[]⟩ h nx Kt =
 yE s3 s0 (.bool false) fun v1=>sGW v1 true (fun k=>C.fn 17 (.of 17) [] h nx k) h nx fun v2 h3 n4=>zR r C ⟨(F13.fr b a e d c f l o p q i j),v2::v1::v1::s0::s1::s2::s3::s4::s5::s6::s7::s8::s9::s10::s11::s12::s13::s14::s15::[]⟩ h3 n4 Kt:=by kernel_rfl
theorem F13.zlr:zR (F13.zso []) C ⟨(F13.fr b a e d c f l o p q i j),s0::s1::s2::s3::s4::s5::s6::s7::s8::s9::s10::s11::s12::s13::s14::s15::s16::s17::s18::[]⟩ h nx Kt =
 yE s1 s0 (.bool false) fun v1=>Kt ⟨(F13.fr b a v1 d c f l o p q i j),v1::s0::s1::s2::s3::s4::s5::s6::s7::s8::s9::s10::s11::s12::s13::s14::s15::s16::s17::s18::[]⟩ h nx:=by kernel_rfl
theorem F13.v9:Arg.ev (.t (.of 9)) ⟨(F13.fr b a e d c f l o p q i j),[]⟩=q:=by kernel_rfl
theorem F13.fG:IR.run F13.t14 C N O K tm h nx=zR F13.ou C ⟨tm,[]⟩ h nx (fun tm h nx=>K tm.v h nx):=yZ ..
theorem F13.aW:zR (F13.aX r) C ⟨(F13.fr b a e d c f l o p q i j),[]⟩ h nx Kt =
 zh .neq .int c (I 0) fun v1=>sG v1 false (fun k=>k d) fun v2=>sG v1 false (fun k=>zO 3 a h k) fun v3=>sGW v1 false (fun k=>C.fn 62 (.of 62) [v3] h nx k) h nx fun v4 h5 n6=>zR r C ⟨(F13.fr b a e d c f l o p q i j),v4::v3::v2::v1::v1::c::[]⟩ h5 n6 Kt:=by kernel_rfl
theorem F13.tX:zR (F13.aY r) C ⟨(F13.fr b a e d c f l o p q i j),s0::s1::s2::s3::s4::s5::[]⟩ h nx Kt =
 sGW s3 false (fun k=>C.fn 53 (.of 53) [s2,s0] h nx k) h nx fun v1 h2 n3=>zR r C ⟨(F13.fr b a e d c f l o p q i j),v1::s0::s1::s2::s3::s4::s5::[]⟩ h2 n3 Kt:=by kernel_rfl
theorem F13.zdm:zR (F13.ze2 []) C ⟨(F13.fr b a e d c f l o p q i j),s0::s1::s2::s3::s4::s5::s6::[]⟩ h nx Kt =
 sG s4 false (fun k=>sNot s0 k) fun v1=>yE s4 (.bool true) v1 fun v2=>Kt ⟨(F13.fr b a e d c f l o p q v2 j),v1::s0::s1::s2::s3::s4::s5::s6::[]⟩ h nx:=by kernel_rfl
theorem F13.v10:Arg.ev (.t (.of 10)) ⟨(F13.fr b a e d c f l o p q i j),[]⟩=i:=by kernel_rfl
theorem F13.sK:IR.run F13.t19 C N O K (F13.fr b a e d c f l o p q i j) h nx =
 zO 3 a h fun v1=>C.fn 63 (.of 63) [(.str [109,97,103,105,99]),v1] h nx fun v2 h3 n4=>sNot v2 fun v5=>K (F13.fr b a e d c f l o p q i v5) h3 n4:=by kernel_rfl
theorem F13.rY:IR.run F13.t20 C N O K (F13.fr b a e d c f l o p q i j) h nx =
 zh .eql .int f (I 0) fun v1=>sG v1 true (fun k=>k l) fun v2=>sG v1 true (fun k=>zh .eql .int v2 (I 16) k) fun v3=>yE v1 v3 (.bool false) fun v4=>sGW v4 true (fun k=>C.fn 17 (.of 17) [] h nx k) h nx fun v5 h6 n7=>yE v4 v5 (.bool false) fun v8=>K (F13.fr b a v8 d c f l o p q i j) h6 n7:=by kernel_rfl
theorem F13.v11:Arg.ev (.t (.of 11)) ⟨(F13.fr b a e d c f l o p q i j),[]⟩=j:=by kernel_rfl
theorem F13.aj:IR.run F13.t24 C N O K tm h nx=zR F13.zls C ⟨tm,[]⟩ h nx (fun tm h nx=>K tm.v h nx):=yZ ..
theorem F13.zpw:zR (F13.zlt r) C ⟨(F13.fr b a e d c f l o p q i j),[]⟩ h nx Kt =
 zh .eql .int l (I 0) fun v1=>sG v1 true (fun k=>k f) fun v2=>sG v1 true (fun k=>zO 3 a h k) fun v3=>sGW v1 true (fun k=>C.fn 64 (.of 64) [v3] h nx k) h nx fun v4 h5 n6=>zR r C ⟨(F13.fr b a e d c f l o p q i j),v4::v3::v2::v1::v1::l::[]⟩ h5 n6 Kt:=by kernel_rfl
theorem F13.zpx:zR (F13.zlu r) C ⟨(F13.fr b a e d c f l o p q i j),s0::s1::s2::s3::s4::s5::[]⟩ h nx Kt =
 sG s3 true (fun k=>zh .eql .int s2 s0 k) fun v1=>yE s3 v1 (.bool false) fun v2=>sGW v2 true (fun k=>C.fn 17 (.of 17) [] h nx k) h nx fun v3 h4 n5=>zR r C ⟨(F13.fr b a e d c f l o p q i j),v3::v2::v2::v1::s0::s1::s2::s3::s4::s5::[]⟩ h4 n5 Kt:=by kernel_rfl
theorem F13.zpy:zR (F13.zlv []) C ⟨(F13.fr b a e d c f l o p q i j),s0::s1::s2::s3::s4::s5::s6::s7::s8::s9::[]⟩ h nx Kt =
 yE s1 s0 (.bool false) fun v1=>Kt ⟨(F13.fr b a v1 d c f l o p q i j),v1::s0::s1::s2::s3::s4::s5::s6::s7::s8::s9::[]⟩ h nx:=by kernel_rfl
theorem F13.go:zQ tbl N C (.of 13) [a0] h nx K0=IR.run F13.t33 C N (fnO F13.res K0) (yw F13.res K0) (F13.fr a0 .u .u .u .u .u .u .u .u .u .u .u) h nx:=yJ (F:=F13) (by kernel_rfl) (fun _=>by kernel_rfl) (by kernel_rfl)
theorem F13.ret:yw F13.res K0 (F13.fr b a e d c f l o p q i j) h nx=K0 e h nx:=by kernel_rfl
end
end Go.Ev
