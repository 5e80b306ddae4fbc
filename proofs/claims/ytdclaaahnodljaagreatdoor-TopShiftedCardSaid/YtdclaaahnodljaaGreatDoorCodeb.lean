import Derived.Test.YtdclaaahnodljaaGreatDoorIrT
import Derived.Test.YtdclaaahnodljaaGreatDoorEvD
import Derived.KernelRfl
set_option linter.unusedSimpArgs false
set_option linter.unusedVariables false
noncomputable section
namespace Go.Ev
open Go Go.Proofs
set_option maxRecDepth 100000
section
variable {N:Nat} {C:Calls Prop} {K0:Kw Prop} {K:Ks Prop} {h:T Blk} {nx:Pa} {x0 x1 x2 x3 x4 x5 x6 x7 x8 x9 a0:AV} {O:yu Prop} {tm:T AV} {Kt:KTm} {r:List RO} {s0 s1 s2 s3 s4 s5 s6 s7 s8 s9 s10 s11 s12 s13 s14 s15 s16 s17 s18 s19 s20 s21 s22 s23 s24 s25 s26 s27 s28 s29 s30 s31 s32 s33 s34 s35 s36 s37 s38 s39 s40 s41 s42 s43 s44 s45 s46 s47 s48 s49 s50 s51 s52 s53 s54 s55 s56 s57 s58 s59:AV}
def F30.t0:IR:=.reg [.w (.loc (.of 1)) none (.box (.t (.of 0))),.q (.of 2) (.mv (.c .zh)),.q (.of 3) (.mv (.c (I 0)))]
def F30.t1:IR:=.yh [] [(.s (.load (.t (.of 1))),0,[]),(.s (.load (.t (.of 1))),1,[]),(.s (.bin .geq .int (.s 0) (.c (I 10))),1,[]),(.w .push none (.call (.c (.fn 57 (.of 57) [])) [(.s 2)]),0,[]),(.w .push none (.call (.c (.fn 76 (.of 76) [])) [(.s 1),(.c (I 5))]),0,[]),(.w .push none (.yc 1 2 [(I 0)] [(0,1,(.s 1)),(1,1,(.s 0))]),0,[]),(.w .push none (.call (.c (.fn 72 (.of 72) [])) [(.s 0)]),0,[]),(.q (.of 4) (.mv (.s 0)),0,[])]
def F30.t2:IR:=.reg [.s (.mv (.t (.of 4))),.q (.of 9) (.bin .neq .int (.s 0) (.c (I 0)))]
def F30.t3:IR:=.reg [.s (.mv (.t (.of 4))),.q (.of 2) (.mv (.c .zh)),.q (.of 3) (.mv (.s 0))]
def F30.t4:IR:=.seq F30.t3 .ret
def F30.t5:IR:=.cond (.t (.of 9)) F30.t4 .skip
def F30.t6:IR:=.seq F30.t2 F30.t5
def F30.t7:IR:=.seq F30.t1 F30.t6
def F30.t8:IR:=.reg [.w .push none .rF,.w (.loc (.of 5)) none (.alloc [.qj]),.w .none none (.store 1 (.t (.of 5)) (.s 0))]
def F30.t9:IR:=.reg [.s (.load (.t (.of 1))),.w .push none (.vk 1 8 [(I 0)] (.s 0) (.s 0)),.w (.loc (.of 6)) none (.alloc [.zh]),.w .none none (.store 1 (.t (.of 6)) (.s 0))]
def F30.t10:IR:=.reg [.s (.load (.t (.of 1))),.w .push none (.vk 1 1 [(.bool false)] (.s 0) (.s 0)),.w (.loc (.of 7)) none (.alloc [.zh]),.w .none none (.store 1 (.t (.of 7)) (.s 0))]
def F30.t11:IR:=.reg [.w (.loc (.of 8)) none (.alloc [.xw])]
def F30.t12:IR:=.reg [.s (.fn 77 (.of 77) [(.t (.of 1)),(.t (.of 5)),(.t (.of 6)),(.t (.of 7)),(.t (.of 8))]),.w .none none (.store 1 (.t (.of 8)) (.s 0))]
def F30.t13:IR:=.reg [.s (.load (.t (.of 8))),.w .push none (.call (.s 0) [(.c (I 0))])]
def F30.t14:IR:=.reg [.s (.load (.t (.of 5))),.w .push none (.call (.c (.fn 60 (.of 60) [])) [(.s 0)]),.q (.of 2) (.mv (.s 0)),.q (.of 3) (.mv (.c (I 0)))]
def F30.t15:IR:=.seq F30.t14 .ret
def F30.t16:IR:=.seq F30.t13 F30.t15
def F30.t17:IR:=.seq F30.t12 F30.t16
def F30.t18:IR:=.seq F30.t11 F30.t17
def F30.t19:IR:=.seq F30.t10 F30.t18
def F30.t20:IR:=.seq F30.t9 F30.t19
def F30.t21:IR:=.seq F30.t8 F30.t20
def F30.t22:IR:=.seq F30.t7 F30.t21
def F30.t23:IR:=.seq F30.t0 F30.t22
theorem F30.fG:IR.run F30.t0 C N O K (F30.fr x0 x1 x2 x3 x4 x5 x6 x7 x8 x9) h nx =
 vw x0 h nx fun v1 h2 n3=>K (F30.fr x0 v1 .zh (I 0) x4 x5 x6 x7 x8 x9) h2 n3:=by kernel_rfl
theorem F30.fK:IR.run F30.t1 C N O K (F30.fr x0 x1 x2 x3 x4 x5 x6 x7 x8 x9) h nx =
 zB x1 h fun v1=>zB x1 h fun v2=>zf .geq .int v2 (I 10) fun v3=>C.fn 57 (.of 57) [v1] h nx fun v4 h5 n6=>(zf .geq .int v2 (I 10) fun vA=>zH vA v3 ((zB x1 h5 fun vB=>zH vB v2 (C.fn 76 (.of 76) [v3,(I 5)] h5 n6 fun v7 h8 n9=>yS 1 2 [(I 0)] [(0,1,v4),(1,1,v7)] h8 n9 fun vC hA nA=>C.fn 72 (.of 72) [vC] hA nA fun vD hB nB=>K (F30.fr x0 x1 x2 x3 vD x5 x6 x7 x8 x9) hB nB)))):=by kernel_rfl
theorem F30.rE:IR.run F30.t2 C N O K (F30.fr x0 x1 x2 x3 x4 x5 x6 x7 x8 x9) h nx =
 zf .neq .int x4 (I 0) fun v1=>K (F30.fr x0 x1 x2 x3 x4 x5 x6 x7 x8 v1) h nx:=by kernel_rfl
theorem F30.v9:Arg.ev (.t (.of 9)) ⟨(F30.fr x0 x1 x2 x3 x4 x5 x6 x7 x8 x9),[]⟩=x9:=by kernel_rfl
theorem F30.oL:IR.run F30.t8 C N O K (F30.fr x0 x1 x2 x3 x4 x5 x6 x7 x8 x9) h nx =
 d6 h nx fun v1 h2 n3=>yJ [.qj] h2 n3 fun v4 h5 n6=>zQ 1 v4 v1 h5 n6 fun v7 h8 n9=>K (F30.fr x0 x1 x2 x3 x4 v4 x6 x7 x8 x9) h8 n9:=by kernel_rfl
theorem F30.ak:IR.run F30.t9 C N O K (F30.fr x0 x1 x2 x3 x4 x5 x6 x7 x8 x9) h nx =
 zB x1 h fun v1=>uF 1 8 [(I 0)] v1 v1 h nx fun v2 h3 n4=>yJ [.zh] h3 n4 fun v5 h6 n7=>zQ 1 v5 v2 h6 n7 fun v8 h9 nC=>K (F30.fr x0 x1 x2 x3 x4 x5 v5 x7 x8 x9) h9 nC:=by kernel_rfl
theorem F30.tq:IR.run F30.t10 C N O K (F30.fr x0 x1 x2 x3 x4 x5 x6 x7 x8 x9) h nx =
 zB x1 h fun v1=>uF 1 1 [(.bool false)] v1 v1 h nx fun v2 h3 n4=>yJ [.zh] h3 n4 fun v5 h6 n7=>zQ 1 v5 v2 h6 n7 fun v8 h9 nC=>K (F30.fr x0 x1 x2 x3 x4 x5 x6 v5 x8 x9) h9 nC:=by kernel_rfl
theorem F30.ze0:IR.run F30.t11 C N O K (F30.fr x0 x1 x2 x3 x4 x5 x6 x7 x8 x9) h nx =
 yJ [.xw] h nx fun v1 h2 n3=>K (F30.fr x0 x1 x2 x3 x4 x5 x6 x7 v1 x9) h2 n3:=by kernel_rfl
theorem F30.eP:IR.run F30.t12 C N O K (F30.fr x0 x1 x2 x3 x4 x5 x6 x7 x8 x9) h nx =
 zQ 1 x8 (.fn 77 (.of 77) [x1,x5,x6,x7,x8]) h nx fun v1 h2 n3=>K (F30.fr x0 x1 x2 x3 x4 x5 x6 x7 x8 x9) h2 n3:=by kernel_rfl
theorem F30.zad:IR.run F30.t13 C N O K (F30.fr x0 x1 x2 x3 x4 x5 x6 x7 x8 x9) h nx =
 zB x8 h fun v1=>u6 C v1 [(I 0)] h nx fun v2 h3 n4=>K (F30.fr x0 x1 x2 x3 x4 x5 x6 x7 x8 x9) h3 n4:=by kernel_rfl
theorem F30.aS:IR.run F30.t14 C N O K (F30.fr x0 x1 x2 x3 x4 x5 x6 x7 x8 x9) h nx =
 zB x5 h fun v1=>C.fn 60 (.of 60) [v1] h nx fun v2 h3 n4=>K (F30.fr x0 x1 v2 (I 0) x4 x5 x6 x7 x8 x9) h3 n4:=by kernel_rfl
theorem F30.tab:T.get none (.of 30) tbl=some F30:=by kernel_rfl
theorem F30.bind (k:T AV->OP):yK F30.params [a0] F30.init k=k (F30.fr a0 .undef .undef .undef .undef .undef .undef .undef .undef .undef):=by kernel_rfl
theorem F30.je:F30.body=F30.t23:=by kernel_rfl
theorem F30.go:zO tbl N C (.of 30) [a0] h nx K0=IR.run F30.t23 C N (fnO F30.res K0) (ji F30.res K0) (F30.fr a0 .undef .undef .undef .undef .undef .undef .undef .undef .undef) h nx:=by
 rw [zF F30.tab,F30.bind,F30.je];kernel_rfl
theorem F30.ret:ji F30.res K0 (F30.fr x0 x1 x2 x3 x4 x5 x6 x7 x8 x9) h nx=K0 (.tup [x2,x3]) h nx:=by kernel_rfl
end
end Go.Ev
namespace Go.Ev
open Go Go.Proofs
set_option maxRecDepth 100000
section
variable {N:Nat} {C:Calls Prop} {K0:Kw Prop} {K:Ks Prop} {h:T Blk} {nx:Pa} {x0 x1 x2 x3 x4 x5 x6 x7 a0 a1:AV} {O:yu Prop} {tm:T AV} {Kt:KTm} {r:List RO} {s0 s1 s2 s3 s4 s5 s6 s7 s8 s9 s10 s11 s12 s13 s14 s15 s16 s17 s18 s19 s20 s21 s22 s23 s24 s25 s26 s27 s28 s29 s30 s31 s32 s33 s34 s35 s36 s37 s38 s39 s40 s41 s42 s43 s44 s45 s46 s47 s48 s49 s50 s51 s52 s53 s54 s55 s56 s57 s58 s59:AV}
def F28.t0:IR:=.reg [.q (.of 2) (.mv (.c (.bool false)))]
def F28.t1:IR:=.reg [.s (.mv (.t (.of 0))),.q (.of 4) (.len (.s 0)),.q (.of 5) (.mv (.c (I 0)))]
def F28.t2:IR:=.reg [.q (.of 6) (.bin .lss .int (.t (.of 5)) (.t (.of 4)))]
def F28.t3:IR:=.cond (.t (.of 6)) .skip (.exit 0)
def F28.t4:IR:=.reg [.s (.mv (.t (.of 5))),.q (.of 3) (.mv (.s 0))]
def F28.t5:IR:=.reg [.s (.mv (.t (.of 0))),.s (.mv (.t (.of 3))),.s (.zn 1 (.s 1) (.s 0)),.s (.load (.s 0)),.s (.mv (.t (.of 1))),.q (.of 7) (.bin .eql .str (.s 1) (.s 0))]
def F28.t6:IR:=.reg [.q (.of 2) (.mv (.c (.bool true)))]
def F28.t7:IR:=.seq F28.t6 .ret
def F28.t8:IR:=.cond (.t (.of 7)) F28.t7 .skip
def F28.t9:IR:=.seq F28.t5 F28.t8
def F28.t10:IR:=.seq F28.t4 F28.t9
def F28.t11:IR:=.block 1 F28.t10
def F28.t12:IR:=.reg [.s (.bin .add .int (.t (.of 5)) (.c (I 1))),.q (.of 5) (.mv (.s 0))]
def F28.t13:IR:=.seq F28.t11 F28.t12
def F28.t14:IR:=.seq F28.t3 F28.t13
def F28.t15:IR:=.seq F28.t2 F28.t14
def F28.t16:IR:=.loop F28.t15
def F28.t17:IR:=.block 0 F28.t16
def F28.t18:IR:=.seq F28.t1 F28.t17
def F28.t19:IR:=.reg [.q (.of 2) (.mv (.c (.bool false)))]
def F28.t20:IR:=.seq F28.t19 .ret
def F28.t21:IR:=.seq F28.t18 F28.t20
def F28.t22:IR:=.seq F28.t0 F28.t21
theorem F28.fG:IR.run F28.t0 C N O K (F28.fr x0 x1 x2 x3 x4 x5 x6 x7) h nx =
 K (F28.fr x0 x1 (.bool false) x3 x4 x5 x6 x7) h nx:=by kernel_rfl
theorem F28.fK:IR.run F28.t1 C N O K (F28.fr x0 x1 x2 x3 x4 x5 x6 x7) h nx =
 sLen x0 fun v1=>K (F28.fr x0 x1 x2 x3 v1 (I 0) x6 x7) h nx:=by kernel_rfl
theorem F28.rE:IR.run F28.t2 C N O K (F28.fr x0 x1 x2 x3 x4 x5 x6 x7) h nx =
 zf .lss .int x5 x4 fun v1=>K (F28.fr x0 x1 x2 x3 x4 x5 v1 x7) h nx:=by kernel_rfl
theorem F28.v6:Arg.ev (.t (.of 6)) ⟨(F28.fr x0 x1 x2 x3 x4 x5 x6 x7),[]⟩=x6:=by kernel_rfl
theorem F28.t4_s:IR.run F28.t4 C N O K (F28.fr x0 x1 x2 x3 x4 x5 x6 x7) h nx =
 K (F28.fr x0 x1 x2 x5 x4 x5 x6 x7) h nx:=by kernel_rfl
theorem F28.eH:IR.run F28.t5 C N O K (F28.fr x0 x1 x2 x3 x4 x5 x6 x7) h nx =
 zS 1 x0 x3 fun v1=>zB v1 h fun v2=>zf .eql .str v2 x1 fun v3=>K (F28.fr x0 x1 x2 x3 x4 x5 x6 v3) h nx:=by kernel_rfl
theorem F28.tY:IR.run F28.t6 C N O K (F28.fr x0 x1 x2 x3 x4 x5 x6 x7) h nx =
 K (F28.fr x0 x1 (.bool true) x3 x4 x5 x6 x7) h nx:=by kernel_rfl
theorem F28.v7:Arg.ev (.t (.of 7)) ⟨(F28.fr x0 x1 x2 x3 x4 x5 x6 x7),[]⟩=x7:=by kernel_rfl
theorem F28.eP:IR.run F28.t12 C N O K (F28.fr x0 x1 x2 x3 x4 x5 x6 x7) h nx =
 zf .add .int x5 (I 1) fun v1=>K (F28.fr x0 x1 x2 x3 x4 v1 x6 x7) h nx:=by kernel_rfl
theorem F28.zxk (Inv:Nat->AV->T Blk->Pa->Prop) {m:Nat} (hm:m<N) (hi:Inv m x5 h nx)
  (step:∀ (m:Nat) (z2 z3 z5 z6 z7:AV) (h:T Blk) (nx:Pa) (R:Ks Prop),Inv m z5 h nx->(∀ (m':Nat) (w2 w3 w5 w6 w7:AV) (h':T Blk) (nx':Pa),m'<m->Inv m' w5 h' nx'->R (F28.fr x0 x1 w2 w3 x4 w5 w6 w7) h' nx'=.ok True)->IR.run F28.t15 C N O R (F28.fr x0 x1 z2 z3 x4 z5 z6 z7) h nx=.ok True) :
  IR.run F28.t16 C N O K (F28.fr x0 x1 x2 x3 x4 x5 x6 x7) h nx=.ok True:=by
 rw [F28.t16];refine yG (fun m tm h nx=>∃ z2 z3 z5 z6 z7,tm=(F28.fr x0 x1 z2 z3 x4 z5 z6 z7)/\Inv m z5 h nx) ?_ hm ⟨_,_,_,_,_,rfl,hi⟩;rintro m tm h nx R ⟨z2,z3,z5,z6,z7,rfl,hi⟩ hR;exact step m z2 z3 z5 z6 z7 h nx R hi fun m' w2 w3 w5 w6 w7 h' nx' hlt hi'=>hR m' _ h' nx' hlt ⟨_,_,_,_,_,rfl,hi'⟩
theorem F28.zmv:IR.run F28.t19 C N O K (F28.fr x0 x1 x2 x3 x4 x5 x6 x7) h nx =
 K (F28.fr x0 x1 (.bool false) x3 x4 x5 x6 x7) h nx:=by kernel_rfl
theorem F28.tab:T.get none (.of 28) tbl=some F28:=by kernel_rfl
theorem F28.bind (k:T AV->OP):yK F28.params [a0,a1] F28.init k=k (F28.fr a0 a1 .undef .undef .undef .undef .undef .undef):=by kernel_rfl
theorem F28.je:F28.body=F28.t22:=by kernel_rfl
theorem F28.go:zO tbl N C (.of 28) [a0,a1] h nx K0=IR.run F28.t22 C N (fnO F28.res K0) (ji F28.res K0) (F28.fr a0 a1 .undef .undef .undef .undef .undef .undef) h nx:=by
 rw [zF F28.tab,F28.bind,F28.je];kernel_rfl
theorem F28.ret:ji F28.res K0 (F28.fr x0 x1 x2 x3 x4 x5 x6 x7) h nx=K0 x2 h nx:=by kernel_rfl
end
end Go.Ev
namespace Go.Ev
open Go Go.Proofs
set_option maxRecDepth 100000
section
variable {N:Nat} {C:Calls Prop} {K0:Kw Prop} {K:Ks Prop} {h:T Blk} {nx:Pa} {x0 x1 x2 x3 x4 x5 x6 x7 x8 x9 a b c d e f g i j l o z L E M F A P G Q H p q s u v B U V w y D W Z a0 a1:AV} {O:yu Prop} {tm:T AV} {Kt:KTm} {r:List RO} {s0 s1 s2 s3 s4 s5 s6 s7 s8 s9 s10 s11 s12 s13 s14 s15 s16 s17 s18 s19 s20 s21 s22 s23 s24 s25 s26 s27 s28 s29 s30 s31 s32 s33 s34 s35 s36 s37 s38 s39 s40 s41 s42 s43 s44 s45 s46 s47 s48 s49 s50 s51 s52 s53 s54 s55 s56 s57 s58 s59:AV}
def F5.t0:IR:=.reg [.w (.loc (.of 2)) none (.box (.t (.of 0))),.q (.of 3) (.mv (.c (.bool false)))]
def F5.aU:List RO:=.p .push (some ((.s 3),false)) (.bin .neq .int (.s 0) (.c (I 0)))::.q (.of 31) (.pick (.s 4) (.c (.bool true)) (.s 0))::[]
def F5.aV:List RO:=.p .push (some ((.s 1),false)) (.load (.s 0))::.w .push (some ((.s 2),false)) (.call (.c (.fn 17 (.of 17) [])) [(.s 0)])::F5.aU
def F5.oK:List RO:=.s (.bin .neq .int (.s 0) (.c (I 0)))::.s (.mv (.s 0))::.p .push (some ((.s 0),false)) (.zi 0 (.t (.of 2)))::.p .push (some ((.s 1),false)) (.load (.s 0))::.p .push (some ((.s 2),false)) (.bin .gtr .int (.s 0) (.c (I 5)))::.s (.pick (.s 3) (.c (.bool true)) (.s 0))::.s (.mv (.s 0))::.p .push (some ((.s 0),false)) (.zi 2 (.t (.of 2)))::F5.aV
def F5.r1_0:List RO:=.s (.zk 3 (.t (.of 2)))::.w .push none (.call (.c (.fn 16 (.of 16) [])) [(.s 0)])::F5.oK
def F5.t1:IR:=.reg F5.r1_0
def F5.t2:IR:=.reg [.w .push none (.call (.c (.fn 18 (.of 18) [])) []),.q (.of 3) (.mv (.s 0))]
def F5.t3:IR:=.seq F5.t2 .ret
def F5.t4:IR:=.cond (.t (.of 31)) F5.t3 .skip
def F5.t5:IR:=.seq F5.t1 F5.t4
def F5.t6:IR:=.reg [.s (.zi 0 (.t (.of 2))),.s (.load (.s 0)),.q (.of 4) (.mv (.s 0))]
def F5.t7:IR:=.reg [.s (.mv (.t (.of 4))),.w .push none (.call (.c (.fn 29 (.of 29) [])) [(.s 0)]),.s (.mv (.s 0)),.s (.ext 0 (.s 0)),.s (.ext 1 (.s 1)),.q (.of 5) (.mv (.s 1)),.q (.of 6) (.mv (.s 0))]
def F5.t8:IR:=.reg [.s (.mv (.t (.of 4))),.w .push none (.call (.c (.fn 30 (.of 30) [])) [(.s 0)]),.s (.mv (.s 0)),.s (.ext 0 (.s 0)),.s (.ext 1 (.s 1)),.q (.of 7) (.mv (.s 1)),.q (.of 8) (.mv (.s 0))]
def F5.t9:IR:=.reg [.s (.zk 3 (.t (.of 2))),.w .push none (.call (.c (.fn 20 (.of 20) [])) [(.s 0)]),.s (.mv (.s 0)),.s (.ext 0 (.s 0)),.s (.ext 1 (.s 1)),.q (.of 9) (.mv (.s 1)),.q (.of 10) (.mv (.s 0))]
def F5.r7_2:List RO:=.p .push (some ((.s 1),false)) (.len (.s 0))::.p .push (some ((.s 2),false)) (.bin .eql .int (.s 0) (.c (I 0)))::.q (.of 32) (.pick (.s 3) (.c (.bool true)) (.s 0))::[]
def F5.r7_1:List RO:=.p .push (some ((.s 1),false)) (.len (.s 0))::.p .push (some ((.s 2),false)) (.mv (.t (.of 4)))::.p .push (some ((.s 3),false)) (.mv (.t (.of 4)))::.p .push (some ((.s 4),false)) (.bin .mul .int (.s 1) (.s 0))::.p .push (some ((.s 5),false)) (.bin .neq .int (.s 3) (.s 0))::.s (.pick (.s 6) (.c (.bool true)) (.s 0))::.s (.mv (.s 0))::.p .push (some ((.s 0),false)) (.mv (.t (.of 7)))::F5.r7_2
def F5.r7_0:List RO:=.s (.mv (.t (.of 6)))::.s (.mv (.t (.of 8)))::.s (.bin .add .int (.s 1) (.s 0))::.s (.mv (.t (.of 10)))::.s (.bin .add .int (.s 1) (.s 0))::.s (.bin .neq .int (.s 0) (.c (I 0)))::.s (.mv (.s 0))::.p .push (some ((.s 0),false)) (.mv (.t (.of 5)))::F5.r7_1
def F5.t10:IR:=.reg F5.r7_0
def F5.t11:IR:=.reg [.q (.of 3) (.mv (.c (.bool false)))]
def F5.t12:IR:=.seq F5.t11 .ret
def F5.t13:IR:=.cond (.t (.of 32)) F5.t12 .skip
def F5.t14:IR:=.seq F5.t10 F5.t13
def F5.t15:IR:=.yh [(.alloc [.zh,(.bool false)]),(.alloc [.zh,(.bool false)])] [(.s (.mv (.t (.of 5))),2,[]),(.s (.mv (.t (.of 1))),2,[]),(.s (.conv .i64 (.s 0)),2,[]),(.s (.mv (.t (.of 5))),2,[]),(.s (.len (.s 0)),2,[]),(.s (.bin .rem .int (.s 2) (.s 0)),2,[]),(.s (.zn 2 (.s 5) (.s 0)),2,[]),(.s (.zk 2 (.s 0)),2,[]),(.s (.mv (.t (.of 7))),3,[]),(.s (.mv (.t (.of 1))),3,[]),(.s (.conv .i64 (.s 0)),3,[]),(.s (.mv (.t (.of 7))),3,[]),(.s (.len (.s 0)),3,[]),(.s (.bin .rem .int (.s 2) (.s 0)),3,[]),(.s (.zn 2 (.s 5) (.s 0)),3,[]),(.s (.zk 2 (.s 0)),3,[]),(.w (.loc (.of 11)) none (.alloc [.zh,(.bool false)]),0,[]),(.w (.loc (.of 12)) none (.alloc [.zh,(.bool false)]),0,[]),(.w .none none (.store 2 (.t (.of 11)) (.s 8)),0,[]),(.w .none none (.store 2 (.t (.of 12)) (.s 0)),0,[])]
def F5.t16:IR:=.reg [.s (.zk 2 (.t (.of 11))),.s (.zi 2 (.t (.of 2))),.s (.load (.s 0)),.w .push none (.call (.c (.fn 22 (.of 22) [])) [(.s 2),(.s 0)]),.s (.mv (.s 0)),.s (.ext 0 (.s 0)),.s (.ext 1 (.s 1)),.q (.of 13) (.mv (.s 1)),.q (.of 14) (.mv (.s 0))]
def F5.t17:IR:=.reg [.s (.zk 2 (.t (.of 12))),.s (.zi 2 (.t (.of 2))),.s (.load (.s 0)),.w .push none (.call (.c (.fn 22 (.of 22) [])) [(.s 2),(.s 0)]),.s (.mv (.s 0)),.s (.ext 0 (.s 0)),.s (.ext 1 (.s 1)),.q (.of 15) (.mv (.s 1)),.q (.of 16) (.mv (.s 0))]
def F5.t18:IR:=.reg [.s (.mv (.t (.of 4))),.s (.mv (.t (.of 4))),.s (.mv (.t (.of 13))),.s (.build [(I 0),(I 0),.zh] [(0,1,(.s 2)),(1,1,(.s 1)),(2,1,(.s 0))]),.w .push none (.call (.c (.fn 20 (.of 20) [])) [(.s 0)]),.s (.mv (.s 0)),.s (.ext 0 (.s 0)),.s (.ext 1 (.s 1)),.q (.of 17) (.mv (.s 1)),.q (.of 18) (.mv (.s 0))]
def F5.t19:IR:=.reg [.s (.mv (.t (.of 4))),.s (.mv (.t (.of 4))),.s (.mv (.t (.of 15))),.s (.build [(I 0),(I 0),.zh] [(0,1,(.s 2)),(1,1,(.s 1)),(2,1,(.s 0))]),.w .push none (.call (.c (.fn 20 (.of 20) [])) [(.s 0)]),.s (.mv (.s 0)),.s (.ext 0 (.s 0)),.s (.ext 1 (.s 1)),.q (.of 19) (.mv (.s 1)),.q (.of 20) (.mv (.s 0))]
def F5.t20:IR:=.reg [.s (.mv (.t (.of 14))),.s (.mv (.t (.of 16))),.s (.bin .add .int (.s 1) (.s 0)),.s (.mv (.t (.of 18))),.s (.bin .add .int (.s 1) (.s 0)),.s (.mv (.t (.of 20))),.s (.bin .add .int (.s 1) (.s 0)),.q (.of 33) (.bin .neq .int (.s 0) (.c (I 0)))]
def F5.t21:IR:=.reg [.q (.of 3) (.mv (.c (.bool false)))]
def F5.t22:IR:=.seq F5.t21 .ret
def F5.t23:IR:=.cond (.t (.of 33)) F5.t22 .skip
def F5.t24:IR:=.seq F5.t20 F5.t23
def F5.t25:IR:=.reg [.w (.loc (.of 34)) none (.yc 1 2 [(.str [])] [(0,1,(.c (.str [115,101,109,105,109,97,103,105,99]))),(1,1,(.c (.str [112,97,110,100,105,97,103,111,110,97,108])))]),.q (.of 35) (.len (.t (.of 34))),.q (.of 36) (.mv (.c (I 0)))]
def F5.t26:IR:=.reg [.q (.of 37) (.bin .lss .int (.t (.of 36)) (.t (.of 35)))]
def F5.t27:IR:=.cond (.t (.of 37)) .skip (.exit 0)
def F5.t28:IR:=.reg [.s (.zn 1 (.t (.of 34)) (.t (.of 36))),.s (.load (.s 0)),.q (.of 21) (.mv (.s 0))]
def F5.t29:IR:=.reg [.s (.mv (.t (.of 21))),.s (.mv (.t (.of 4))),.w .push none (.call (.c (.fn 26 (.of 26) [])) [(.s 1),(.s 0)]),.s (.mv (.s 0)),.s (.ext 0 (.s 0)),.s (.ext 1 (.s 1)),.w (.loc (.of 22)) none (.alloc [(I 0),.zh]),.w .none none (.store 2 (.t (.of 22)) (.s 1)),.q (.of 23) (.mv (.s 0))]
def F5.t30:IR:=.reg [.s (.zk 2 (.t (.of 22))),.s (.zk 2 (.t (.of 11))),.w .push none (.call (.c (.fn 27 (.of 27) [])) [(.s 1),(.s 0)]),.s (.mv (.s 0)),.s (.ext 0 (.s 0)),.s (.ext 1 (.s 1)),.q (.of 24) (.mv (.s 1)),.q (.of 25) (.mv (.s 0))]
def F5.ztq:List RO:=.p .push (some ((.s 6),false)) (.bin .neq .bool (.s 3) (.s 0))::.q (.of 38) (.pick (.s 7) (.c (.bool true)) (.s 0))::[]
def F5.ztr:List RO:=.p .push (some ((.s 3),false)) (.mv (.t (.of 17)))::.p .push (some ((.s 4),false)) (.mv (.t (.of 21)))::.w .push (some ((.s 5),false)) (.call (.c (.fn 28 (.of 28) [])) [(.s 1),(.s 0)])::F5.ztq
def F5.zts:List RO:=.s (.mv (.s 0))::.p .push (some ((.s 0),false)) (.mv (.t (.of 9)))::.p .push (some ((.s 1),false)) (.mv (.t (.of 21)))::.w .push (some ((.s 2),false)) (.call (.c (.fn 28 (.of 28) [])) [(.s 1),(.s 0)])::F5.ztr
def F5.zmw:List RO:=.s (.mv (.t (.of 23)))::.s (.mv (.t (.of 25)))::.s (.bin .add .int (.s 1) (.s 0))::.s (.bin .neq .int (.s 0) (.c (I 0)))::.s (.mv (.s 0))::.p .push (some ((.s 0),false)) (.mv (.t (.of 24)))::.p .push (some ((.s 1),false)) (.not (.s 0))::.s (.pick (.s 2) (.c (.bool true)) (.s 0))::F5.zts
def F5.t31:IR:=.reg F5.zmw
def F5.t32:IR:=.reg [.q (.of 3) (.mv (.c (.bool false)))]
def F5.t33:IR:=.seq F5.t32 .ret
def F5.t34:IR:=.cond (.t (.of 38)) F5.t33 .skip
def F5.t35:IR:=.seq F5.t31 F5.t34
def F5.t36:IR:=.seq F5.t30 F5.t35
def F5.t37:IR:=.seq F5.t29 F5.t36
def F5.t38:IR:=.seq F5.t28 F5.t37
def F5.t39:IR:=.block 1 F5.t38
def F5.t40:IR:=.reg [.s (.bin .add .int (.t (.of 36)) (.c (I 1))),.q (.of 36) (.mv (.s 0))]
def F5.t41:IR:=.seq F5.t39 F5.t40
def F5.t42:IR:=.seq F5.t27 F5.t41
def F5.t43:IR:=.seq F5.t26 F5.t42
def F5.t44:IR:=.loop F5.t43
def F5.t45:IR:=.block 0 F5.t44
def F5.t46:IR:=.seq F5.t25 F5.t45
def F5.t47:IR:=.reg [.w (.loc (.of 39)) none (.yc 1 2 [(.str [])] [(0,1,(.c (.str [115,101,109,105,109,97,103,105,99]))),(1,1,(.c (.str [109,97,103,105,99])))]),.q (.of 40) (.len (.t (.of 39))),.q (.of 41) (.mv (.c (I 0)))]
def F5.t48:IR:=.reg [.q (.of 42) (.bin .lss .int (.t (.of 41)) (.t (.of 40)))]
def F5.t49:IR:=.cond (.t (.of 42)) .skip (.exit 2)
def F5.t50:IR:=.reg [.s (.zn 1 (.t (.of 39)) (.t (.of 41))),.s (.load (.s 0)),.q (.of 26) (.mv (.s 0))]
def F5.t51:IR:=.reg [.s (.mv (.t (.of 26))),.s (.mv (.t (.of 4))),.w .push none (.call (.c (.fn 26 (.of 26) [])) [(.s 1),(.s 0)]),.s (.mv (.s 0)),.s (.ext 0 (.s 0)),.s (.ext 1 (.s 1)),.w (.loc (.of 27)) none (.alloc [(I 0),.zh]),.w .none none (.store 2 (.t (.of 27)) (.s 1)),.q (.of 28) (.mv (.s 0))]
def F5.t52:IR:=.reg [.s (.zk 2 (.t (.of 27))),.s (.zk 2 (.t (.of 12))),.w .push none (.call (.c (.fn 27 (.of 27) [])) [(.s 1),(.s 0)]),.s (.mv (.s 0)),.s (.ext 0 (.s 0)),.s (.ext 1 (.s 1)),.q (.of 29) (.mv (.s 1)),.q (.of 30) (.mv (.s 0))]
def F5.ztt:List RO:=.p .push (some ((.s 6),false)) (.bin .neq .bool (.s 3) (.s 0))::.q (.of 43) (.pick (.s 7) (.c (.bool true)) (.s 0))::[]
def F5.ztu:List RO:=.p .push (some ((.s 3),false)) (.mv (.t (.of 19)))::.p .push (some ((.s 4),false)) (.mv (.t (.of 26)))::.w .push (some ((.s 5),false)) (.call (.c (.fn 28 (.of 28) [])) [(.s 1),(.s 0)])::F5.ztt
def F5.ztv:List RO:=.s (.mv (.s 0))::.p .push (some ((.s 0),false)) (.mv (.t (.of 9)))::.p .push (some ((.s 1),false)) (.mv (.t (.of 26)))::.w .push (some ((.s 2),false)) (.call (.c (.fn 28 (.of 28) [])) [(.s 1),(.s 0)])::F5.ztu
def F5.zmx:List RO:=.s (.mv (.t (.of 28)))::.s (.mv (.t (.of 30)))::.s (.bin .add .int (.s 1) (.s 0))::.s (.bin .neq .int (.s 0) (.c (I 0)))::.s (.mv (.s 0))::.p .push (some ((.s 0),false)) (.mv (.t (.of 29)))::.p .push (some ((.s 1),false)) (.not (.s 0))::.s (.pick (.s 2) (.c (.bool true)) (.s 0))::F5.ztv
def F5.t53:IR:=.reg F5.zmx
def F5.t54:IR:=.reg [.q (.of 3) (.mv (.c (.bool false)))]
def F5.t55:IR:=.seq F5.t54 .ret
def F5.t56:IR:=.cond (.t (.of 43)) F5.t55 .skip
def F5.t57:IR:=.seq F5.t53 F5.t56
def F5.t58:IR:=.seq F5.t52 F5.t57
def F5.t59:IR:=.seq F5.t51 F5.t58
def F5.t60:IR:=.seq F5.t50 F5.t59
def F5.t61:IR:=.block 3 F5.t60
def F5.t62:IR:=.reg [.s (.bin .add .int (.t (.of 41)) (.c (I 1))),.q (.of 41) (.mv (.s 0))]
def F5.t63:IR:=.seq F5.t61 F5.t62
def F5.t64:IR:=.seq F5.t49 F5.t63
def F5.t65:IR:=.seq F5.t48 F5.t64
def F5.t66:IR:=.loop F5.t65
def F5.t67:IR:=.block 2 F5.t66
def F5.t68:IR:=.seq F5.t47 F5.t67
def F5.t69:IR:=.reg [.w .push none (.call (.c (.fn 18 (.of 18) [])) []),.q (.of 3) (.mv (.s 0))]
def F5.t70:IR:=.seq F5.t69 .ret
def F5.t71:IR:=.seq F5.t68 F5.t70
def F5.t72:IR:=.seq F5.t46 F5.t71
def F5.t73:IR:=.seq F5.t24 F5.t72
def F5.t74:IR:=.seq F5.t19 F5.t73
def F5.t75:IR:=.seq F5.t18 F5.t74
def F5.t76:IR:=.seq F5.t17 F5.t75
def F5.t77:IR:=.seq F5.t16 F5.t76
def F5.t78:IR:=.seq F5.t15 F5.t77
def F5.t79:IR:=.seq F5.t14 F5.t78
def F5.t80:IR:=.seq F5.t9 F5.t79
def F5.t81:IR:=.seq F5.t8 F5.t80
def F5.t82:IR:=.seq F5.t7 F5.t81
def F5.t83:IR:=.seq F5.t6 F5.t82
def F5.t84:IR:=.seq F5.t5 F5.t83
def F5.t85:IR:=.seq F5.t0 F5.t84
theorem F5.fG:IR.run F5.t0 C N O K (F5.fr x0 x1 x2 x3 x4 x5 x6 x7 x8 x9 a b c d e f g i j l o z L E M F A P G Q H p q s u v B U V w y D W Z) h nx =
 vw x0 h nx fun v1 h2 n3=>K (F5.fr x0 x1 v1 (.bool false) x4 x5 x6 x7 x8 x9 a b c d e f g i j l o z L E M F A P G Q H p q s u v B U V w y D W Z) h2 n3:=by kernel_rfl
theorem F5.fK:IR.run F5.t1 C N O K tm h nx=yO F5.r1_0 C ⟨tm,[]⟩ h nx (fun tm h nx=>K tm.v h nx):=kZ ..
theorem F5.zar:yO (.s (.zk 3 (.t (.of 2)))::.w .push none (.call (.c (.fn 16 (.of 16) [])) [(.s 0)])::r) C ⟨(F5.fr x0 x1 x2 x3 x4 x5 x6 x7 x8 x9 a b c d e f g i j l o z L E M F A P G Q H p q s u v B U V w y D W Z),[]⟩ h nx Kt =
 zN 3 x2 h fun v1=>C.fn 16 (.of 16) [v1] h nx fun v2 h3 n4=>yO r C ⟨(F5.fr x0 x1 x2 x3 x4 x5 x6 x7 x8 x9 a b c d e f g i j l o z L E M F A P G Q H p q s u v B U V w y D W Z),v2::v1::[]⟩ h3 n4 Kt:=by kernel_rfl
theorem F5.sN:yO (.s (.bin .neq .int (.s 0) (.c (I 0)))::.s (.mv (.s 0))::.p .push (some ((.s 0),false)) (.zi 0 (.t (.of 2)))::.p .push (some ((.s 1),false)) (.load (.s 0))::.p .push (some ((.s 2),false)) (.bin .gtr .int (.s 0) (.c (I 5)))::.s (.pick (.s 3) (.c (.bool true)) (.s 0))::.s (.mv (.s 0))::.p .push (some ((.s 0),false)) (.zi 2 (.t (.of 2)))::r) C ⟨(F5.fr x0 x1 x2 x3 x4 x5 x6 x7 x8 x9 a b c d e f g i j l o z L E M F A P G Q H p q s u v B U V w y D W Z),s0::s1::[]⟩ h nx Kt =
 zf .neq .int s0 (I 0) fun v1=>sG v1 false (fun k=>zJ 0 x2 k) fun v2=>sG v1 false (fun k=>zB v2 h k) fun v3=>sG v1 false (fun k=>zf .gtr .int v3 (I 5) k) fun v4=>jC v1 (.bool true) v4 fun v5=>sG v5 false (fun k=>zJ 2 x2 k) fun v6=>yO r C ⟨(F5.fr x0 x1 x2 x3 x4 x5 x6 x7 x8 x9 a b c d e f g i j l o z L E M F A P G Q H p q s u v B U V w y D W Z),v6::v5::v5::v4::v3::v2::v1::v1::s0::s1::[]⟩ h nx Kt:=by kernel_rfl
theorem F5.rY:yO (.p .push (some ((.s 1),false)) (.load (.s 0))::.w .push (some ((.s 2),false)) (.call (.c (.fn 17 (.of 17) [])) [(.s 0)])::r) C ⟨(F5.fr x0 x1 x2 x3 x4 x5 x6 x7 x8 x9 a b c d e f g i j l o z L E M F A P G Q H p q s u v B U V w y D W Z),s0::s1::s2::s3::s4::s5::s6::s7::s8::s9::[]⟩ h nx Kt =
 sG s1 false (fun k=>zB s0 h k) fun v1=>sGW s1 false (fun k=>C.fn 17 (.of 17) [v1] h nx k) h nx fun v2 h3 n4=>yO r C ⟨(F5.fr x0 x1 x2 x3 x4 x5 x6 x7 x8 x9 a b c d e f g i j l o z L E M F A P G Q H p q s u v B U V w y D W Z),v2::v1::s0::s1::s2::s3::s4::s5::s6::s7::s8::s9::[]⟩ h3 n4 Kt:=by kernel_rfl
theorem F5.rZ:yO (.p .push (some ((.s 3),false)) (.bin .neq .int (.s 0) (.c (I 0)))::.q (.of 31) (.pick (.s 4) (.c (.bool true)) (.s 0))::[]) C ⟨(F5.fr x0 x1 x2 x3 x4 x5 x6 x7 x8 x9 a b c d e f g i j l o z L E M F A P G Q H p q s u v B U V w y D W Z),s0::s1::s2::s3::s4::s5::s6::s7::s8::s9::s10::s11::[]⟩ h nx Kt =
 sG s3 false (fun k=>zf .neq .int s0 (I 0) k) fun v1=>jC s3 (.bool true) v1 fun v2=>Kt ⟨(F5.fr x0 x1 x2 x3 x4 x5 x6 x7 x8 x9 a b c d e f g i j l o z L E M F A P G Q H v2 q s u v B U V w y D W Z),v1::s0::s1::s2::s3::s4::s5::s6::s7::s8::s9::s10::s11::[]⟩ h nx:=by kernel_rfl
theorem F5.rE:IR.run F5.t2 C N O K (F5.fr x0 x1 x2 x3 x4 x5 x6 x7 x8 x9 a b c d e f g i j l o z L E M F A P G Q H p q s u v B U V w y D W Z) h nx =
 C.fn 18 (.of 18) [] h nx fun v1 h2 n3=>K (F5.fr x0 x1 x2 v1 x4 x5 x6 x7 x8 x9 a b c d e f g i j l o z L E M F A P G Q H p q s u v B U V w y D W Z) h2 n3:=by kernel_rfl
theorem F5.v31:Arg.ev (.t (.of 31)) ⟨(F5.fr x0 x1 x2 x3 x4 x5 x6 x7 x8 x9 a b c d e f g i j l o z L E M F A P G Q H p q s u v B U V w y D W Z),[]⟩=p:=by kernel_rfl
theorem F5.tY:IR.run F5.t6 C N O K (F5.fr x0 x1 x2 x3 x4 x5 x6 x7 x8 x9 a b c d e f g i j l o z L E M F A P G Q H p q s u v B U V w y D W Z) h nx =
 zJ 0 x2 fun v1=>zB v1 h fun v2=>K (F5.fr x0 x1 x2 x3 v2 x5 x6 x7 x8 x9 a b c d e f g i j l o z L E M F A P G Q H p q s u v B U V w y D W Z) h nx:=by kernel_rfl
theorem F5.t7_s:IR.run F5.t7 C N O K (F5.fr x0 x1 x2 x3 x4 x5 x6 x7 x8 x9 a b c d e f g i j l o z L E M F A P G Q H p q s u v B U V w y D W Z) h nx =
 C.fn 29 (.of 29) [x4] h nx fun v1 h2 n3=>fC 0 v1 fun v4=>fC 1 v1 fun v5=>K (F5.fr x0 x1 x2 x3 x4 v4 v5 x7 x8 x9 a b c d e f g i j l o z L E M F A P G Q H p q s u v B U V w y D W Z) h2 n3:=by kernel_rfl
theorem F5.oL:IR.run F5.t8 C N O K (F5.fr x0 x1 x2 x3 x4 x5 x6 x7 x8 x9 a b c d e f g i j l o z L E M F A P G Q H p q s u v B U V w y D W Z) h nx =
 C.fn 30 (.of 30) [x4] h nx fun v1 h2 n3=>fC 0 v1 fun v4=>fC 1 v1 fun v5=>K (F5.fr x0 x1 x2 x3 x4 x5 x6 v4 v5 x9 a b c d e f g i j l o z L E M F A P G Q H p q s u v B U V w y D W Z) h2 n3:=by kernel_rfl
theorem F5.ak:IR.run F5.t9 C N O K (F5.fr x0 x1 x2 x3 x4 x5 x6 x7 x8 x9 a b c d e f g i j l o z L E M F A P G Q H p q s u v B U V w y D W Z) h nx =
 zN 3 x2 h fun v1=>C.fn 20 (.of 20) [v1] h nx fun v2 h3 n4=>fC 0 v2 fun v5=>fC 1 v2 fun v6=>K (F5.fr x0 x1 x2 x3 x4 x5 x6 x7 x8 v5 v6 b c d e f g i j l o z L E M F A P G Q H p q s u v B U V w y D W Z) h3 n4:=by kernel_rfl
theorem F5.tq:IR.run F5.t10 C N O K tm h nx=yO F5.r7_0 C ⟨tm,[]⟩ h nx (fun tm h nx=>K tm.v h nx):=kZ ..
theorem F5.zu3:yO (.s (.mv (.t (.of 6)))::.s (.mv (.t (.of 8)))::.s (.bin .add .int (.s 1) (.s 0))::.s (.mv (.t (.of 10)))::.s (.bin .add .int (.s 1) (.s 0))::.s (.bin .neq .int (.s 0) (.c (I 0)))::.s (.mv (.s 0))::.p .push (some ((.s 0),false)) (.mv (.t (.of 5)))::r) C ⟨(F5.fr x0 x1 x2 x3 x4 x5 x6 x7 x8 x9 a b c d e f g i j l o z L E M F A P G Q H p q s u v B U V w y D W Z),[]⟩ h nx Kt =
 zf .add .int x6 x8 fun v1=>zf .add .int v1 a fun v2=>zf .neq .int v2 (I 0) fun v3=>sG v3 false (fun k=>k x5) fun v4=>yO r C ⟨(F5.fr x0 x1 x2 x3 x4 x5 x6 x7 x8 x9 a b c d e f g i j l o z L E M F A P G Q H p q s u v B U V w y D W Z),v4::v3::v3::v2::a::v1::x8::x6::[]⟩ h nx Kt:=by kernel_rfl
theorem F5.zu4:yO (.p .push (some ((.s 1),false)) (.len (.s 0))::.p .push (some ((.s 2),false)) (.mv (.t (.of 4)))::.p .push (some ((.s 3),false)) (.mv (.t (.of 4)))::.p .push (some ((.s 4),false)) (.bin .mul .int (.s 1) (.s 0))::.p .push (some ((.s 5),false)) (.bin .neq .int (.s 3) (.s 0))::.s (.pick (.s 6) (.c (.bool true)) (.s 0))::.s (.mv (.s 0))::.p .push (some ((.s 0),false)) (.mv (.t (.of 7)))::r) C ⟨(F5.fr x0 x1 x2 x3 x4 x5 x6 x7 x8 x9 a b c d e f g i j l o z L E M F A P G Q H p q s u v B U V w y D W Z),s0::s1::s2::s3::s4::s5::s6::s7::[]⟩ h nx Kt =
 sG s1 false (fun k=>sLen s0 k) fun v1=>sG s1 false (fun k=>k x4) fun v2=>sG s1 false (fun k=>k x4) fun v3=>sG s1 false (fun k=>zf .mul .int v2 v3 k) fun v4=>sG s1 false (fun k=>zf .neq .int v1 v4 k) fun v5=>jC s1 (.bool true) v5 fun v6=>sG v6 false (fun k=>k x7) fun v7=>yO r C ⟨(F5.fr x0 x1 x2 x3 x4 x5 x6 x7 x8 x9 a b c d e f g i j l o z L E M F A P G Q H p q s u v B U V w y D W Z),v7::v6::v6::v5::v4::v3::v2::v1::s0::s1::s2::s3::s4::s5::s6::s7::[]⟩ h nx Kt:=by kernel_rfl
theorem F5.zu5:yO (.p .push (some ((.s 1),false)) (.len (.s 0))::.p .push (some ((.s 2),false)) (.bin .eql .int (.s 0) (.c (I 0)))::.q (.of 32) (.pick (.s 3) (.c (.bool true)) (.s 0))::[]) C ⟨(F5.fr x0 x1 x2 x3 x4 x5 x6 x7 x8 x9 a b c d e f g i j l o z L E M F A P G Q H p q s u v B U V w y D W Z),s0::s1::s2::s3::s4::s5::s6::s7::s8::s9::s10::s11::s12::s13::s14::s15::[]⟩ h nx Kt =
 sG s1 false (fun k=>sLen s0 k) fun v1=>sG s1 false (fun k=>zf .eql .int v1 (I 0) k) fun v2=>jC s1 (.bool true) v2 fun v3=>Kt ⟨(F5.fr x0 x1 x2 x3 x4 x5 x6 x7 x8 x9 a b c d e f g i j l o z L E M F A P G Q H p v3 s u v B U V w y D W Z),v2::v1::s0::s1::s2::s3::s4::s5::s6::s7::s8::s9::s10::s11::s12::s13::s14::s15::[]⟩ h nx:=by kernel_rfl
theorem F5.v32:Arg.ev (.t (.of 32)) ⟨(F5.fr x0 x1 x2 x3 x4 x5 x6 x7 x8 x9 a b c d e f g i j l o z L E M F A P G Q H p q s u v B U V w y D W Z),[]⟩=q:=by kernel_rfl
theorem F5.zas:IR.run F5.t15 C N O K (F5.fr x0 x1 x2 x3 x4 x5 x6 x7 x8 x9 a b c d e f g i j l o z L E M F A P G Q H p q s u v B U V w y D W Z) h nx =
 sChk (true&&(true&&true)) (kL .i64 x1 fun v1=>sLen x5 fun v2=>zf .rem .int v1 v2 fun v3=>zS 2 x5 v3 fun v4=>zN 2 v4 h fun v5=>kL .i64 x1 fun v6=>sLen x7 fun v7=>zf .rem .int v6 v7 fun v8=>zS 2 x7 v8 fun v9=>zN 2 v9 h fun vC=>yJ [.zh,(.bool false)] h nx fun vE hC nD=>(zN 2 v9 hC fun vF=>zH vF vC ((zS 2 x7 v8 fun vG=>zH vG v9 ((zf .rem .int v6 v7 fun vH=>zH vH v8 ((sLen x7 fun vI=>zH vI v7 (zH x7 x7 ((kL .i64 x1 fun vJ=>zH vJ v6 (zH x1 x1 (zH x7 x7 ((zN 2 v4 hC fun vK=>zH vK v5 ((zS 2 x5 v3 fun vL=>zH vL v4 ((zf .rem .int v1 v2 fun vM=>zH vM v3 ((sLen x5 fun vN=>zH vN v2 (zH x5 x5 ((kL .i64 x1 fun vO=>zH vO v1 (zH x1 x1 (zH x5 x5 (yJ [.zh,(.bool false)] hC nD fun vP hD nE=>(zN 2 v9 hD fun vQ=>zH vQ vC ((zS 2 x7 v8 fun vR=>zH vR v9 ((zf .rem .int v6 v7 fun vS=>zH vS v8 ((sLen x7 fun vT=>zH vT v7 (zH x7 x7 ((kL .i64 x1 fun vU=>zH vU v6 (zH x1 x1 (zH x7 x7 ((zN 2 v4 hD fun vV=>zH vV v5 ((zS 2 x5 v3 fun vW=>zH vW v4 ((zf .rem .int v1 v2 fun vX=>zH vX v3 ((sLen x5 fun vY=>zH vY v2 (zH x5 x5 ((kL .i64 x1 fun vZ=>zH vZ v1 (zH x1 x1 (zH x5 x5 (zQ 2 vE v5 hD nE fun vA hE nF=>(zN 2 v9 hE fun v27=>zH v27 vC ((zS 2 x7 v8 fun v26=>zH v26 v9 ((zf .rem .int v6 v7 fun v25=>zH v25 v8 ((sLen x7 fun v24=>zH v24 v7 (zH x7 x7 ((kL .i64 x1 fun v23=>zH v23 v6 (zH x1 x1 (zH x7 x7 (zQ 2 vP vC hE nF fun v20 hF nG=>K (F5.fr x0 x1 x2 x3 x4 x5 x6 x7 x8 x9 a vE vP d e f g i j l o z L E M F A P G Q H p q s u v B U V w y D W Z) hF nG)))))))))))))))))))))))))))))))))))))))))))))))))))))))))))))))))):=by kernel_rfl
theorem F5.zae:IR.run F5.t16 C N O K (F5.fr x0 x1 x2 x3 x4 x5 x6 x7 x8 x9 a b c d e f g i j l o z L E M F A P G Q H p q s u v B U V w y D W Z) h nx =
 zN 2 b h fun v1=>zJ 2 x2 fun v2=>zB v2 h fun v3=>C.fn 22 (.of 22) [v1,v3] h nx fun v4 h5 n6=>fC 0 v4 fun v7=>fC 1 v4 fun v8=>K (F5.fr x0 x1 x2 x3 x4 x5 x6 x7 x8 x9 a b c v7 v8 f g i j l o z L E M F A P G Q H p q s u v B U V w y D W Z) h5 n6:=by kernel_rfl
theorem F5.eU:IR.run F5.t17 C N O K (F5.fr x0 x1 x2 x3 x4 x5 x6 x7 x8 x9 a b c d e f g i j l o z L E M F A P G Q H p q s u v B U V w y D W Z) h nx =
 zN 2 c h fun v1=>zJ 2 x2 fun v2=>zB v2 h fun v3=>C.fn 22 (.of 22) [v1,v3] h nx fun v4 h5 n6=>fC 0 v4 fun v7=>fC 1 v4 fun v8=>K (F5.fr x0 x1 x2 x3 x4 x5 x6 x7 x8 x9 a b c d e v7 v8 i j l o z L E M F A P G Q H p q s u v B U V w y D W Z) h5 n6:=by kernel_rfl
theorem F5.zxl:IR.run F5.t18 C N O K (F5.fr x0 x1 x2 x3 x4 x5 x6 x7 x8 x9 a b c d e f g i j l o z L E M F A P G Q H p q s u v B U V w y D W Z) h nx =
 y9 [(I 0),(I 0),.zh] [(0,1,x4),(1,1,x4),(2,1,d)] fun v1=>C.fn 20 (.of 20) [v1] h nx fun v2 h3 n4=>fC 0 v2 fun v5=>fC 1 v2 fun v6=>K (F5.fr x0 x1 x2 x3 x4 x5 x6 x7 x8 x9 a b c d e f g v5 v6 l o z L E M F A P G Q H p q s u v B U V w y D W Z) h3 n4:=by kernel_rfl
theorem F5.zmv:IR.run F5.t19 C N O K (F5.fr x0 x1 x2 x3 x4 x5 x6 x7 x8 x9 a b c d e f g i j l o z L E M F A P G Q H p q s u v B U V w y D W Z) h nx =
 y9 [(I 0),(I 0),.zh] [(0,1,x4),(1,1,x4),(2,1,f)] fun v1=>C.fn 20 (.of 20) [v1] h nx fun v2 h3 n4=>fC 0 v2 fun v5=>fC 1 v2 fun v6=>K (F5.fr x0 x1 x2 x3 x4 x5 x6 x7 x8 x9 a b c d e f g i j v5 v6 z L E M F A P G Q H p q s u v B U V w y D W Z) h3 n4:=by kernel_rfl
theorem F5.ze1:IR.run F5.t20 C N O K (F5.fr x0 x1 x2 x3 x4 x5 x6 x7 x8 x9 a b c d e f g i j l o z L E M F A P G Q H p q s u v B U V w y D W Z) h nx =
 zf .add .int e g fun v1=>zf .add .int v1 j fun v2=>zf .add .int v2 o fun v3=>zf .neq .int v3 (I 0) fun v4=>K (F5.fr x0 x1 x2 x3 x4 x5 x6 x7 x8 x9 a b c d e f g i j l o z L E M F A P G Q H p q v4 u v B U V w y D W Z) h nx:=by kernel_rfl
theorem F5.v33:Arg.ev (.t (.of 33)) ⟨(F5.fr x0 x1 x2 x3 x4 x5 x6 x7 x8 x9 a b c d e f g i j l o z L E M F A P G Q H p q s u v B U V w y D W Z),[]⟩=s:=by kernel_rfl
theorem F5.zxm:IR.run F5.t25 C N O K (F5.fr x0 x1 x2 x3 x4 x5 x6 x7 x8 x9 a b c d e f g i j l o z L E M F A P G Q H p q s u v B U V w y D W Z) h nx =
 yS 1 2 [(.str [])] [(0,1,(.str [115,101,109,105,109,97,103,105,99])),(1,1,(.str [112,97,110,100,105,97,103,111,110,97,108]))] h nx fun v1 h2 n3=>sLen v1 fun v4=>K (F5.fr x0 x1 x2 x3 x4 x5 x6 x7 x8 x9 a b c d e f g i j l o z L E M F A P G Q H p q s v1 v4 (I 0) U V w y D W Z) h2 n3:=by kernel_rfl
theorem F5.zxn:IR.run F5.t26 C N O K (F5.fr x0 x1 x2 x3 x4 x5 x6 x7 x8 x9 a b c d e f g i j l o z L E M F A P G Q H p q s u v B U V w y D W Z) h nx =
 zf .lss .int B v fun v1=>K (F5.fr x0 x1 x2 x3 x4 x5 x6 x7 x8 x9 a b c d e f g i j l o z L E M F A P G Q H p q s u v B v1 V w y D W Z) h nx:=by kernel_rfl
theorem F5.v37:Arg.ev (.t (.of 37)) ⟨(F5.fr x0 x1 x2 x3 x4 x5 x6 x7 x8 x9 a b c d e f g i j l o z L E M F A P G Q H p q s u v B U V w y D W Z),[]⟩=U:=by kernel_rfl
theorem F5.zxo:IR.run F5.t28 C N O K (F5.fr x0 x1 x2 x3 x4 x5 x6 x7 x8 x9 a b c d e f g i j l o z L E M F A P G Q H p q s u v B U V w y D W Z) h nx =
 zS 1 u B fun v1=>zB v1 h fun v2=>K (F5.fr x0 x1 x2 x3 x4 x5 x6 x7 x8 x9 a b c d e f g i j l o v2 L E M F A P G Q H p q s u v B U V w y D W Z) h nx:=by kernel_rfl
theorem F5.zmr:IR.run F5.t29 C N O K (F5.fr x0 x1 x2 x3 x4 x5 x6 x7 x8 x9 a b c d e f g i j l o z L E M F A P G Q H p q s u v B U V w y D W Z) h nx =
 C.fn 26 (.of 26) [z,x4] h nx fun v1 h2 n3=>fC 0 v1 fun v4=>fC 1 v1 fun v5=>yJ [(I 0),.zh] h2 n3 fun v6 h7 n8=>zQ 2 v6 v4 h7 n8 fun v9 hG nH=>K (F5.fr x0 x1 x2 x3 x4 x5 x6 x7 x8 x9 a b c d e f g i j l o z v6 v5 M F A P G Q H p q s u v B U V w y D W Z) hG nH:=by kernel_rfl
theorem F5.zxp:IR.run F5.t30 C N O K (F5.fr x0 x1 x2 x3 x4 x5 x6 x7 x8 x9 a b c d e f g i j l o z L E M F A P G Q H p q s u v B U V w y D W Z) h nx =
 zN 2 L h fun v1=>zN 2 b h fun v2=>C.fn 27 (.of 27) [v1,v2] h nx fun v3 h4 n5=>fC 0 v3 fun v6=>fC 1 v3 fun v7=>K (F5.fr x0 x1 x2 x3 x4 x5 x6 x7 x8 x9 a b c d e f g i j l o z L E v6 v7 A P G Q H p q s u v B U V w y D W Z) h4 n5:=by kernel_rfl
theorem F5.zxq:IR.run F5.t31 C N O K tm h nx=yO F5.zmw C ⟨tm,[]⟩ h nx (fun tm h nx=>K tm.v h nx):=kZ ..
theorem F5.zq4:yO (.s (.mv (.t (.of 23)))::.s (.mv (.t (.of 25)))::.s (.bin .add .int (.s 1) (.s 0))::.s (.bin .neq .int (.s 0) (.c (I 0)))::.s (.mv (.s 0))::.p .push (some ((.s 0),false)) (.mv (.t (.of 24)))::.p .push (some ((.s 1),false)) (.not (.s 0))::.s (.pick (.s 2) (.c (.bool true)) (.s 0))::r) C ⟨(F5.fr x0 x1 x2 x3 x4 x5 x6 x7 x8 x9 a b c d e f g i j l o z L E M F A P G Q H p q s u v B U V w y D W Z),[]⟩ h nx Kt =
 zf .add .int E F fun v1=>zf .neq .int v1 (I 0) fun v2=>sG v2 false (fun k=>k M) fun v3=>sG v2 false (fun k=>sNot v3 k) fun v4=>jC v2 (.bool true) v4 fun v5=>yO r C ⟨(F5.fr x0 x1 x2 x3 x4 x5 x6 x7 x8 x9 a b c d e f g i j l o z L E M F A P G Q H p q s u v B U V w y D W Z),v5::v4::v3::v2::v2::v1::F::E::[]⟩ h nx Kt:=by kernel_rfl
theorem F5.zq5:yO (.s (.mv (.s 0))::.p .push (some ((.s 0),false)) (.mv (.t (.of 9)))::.p .push (some ((.s 1),false)) (.mv (.t (.of 21)))::.w .push (some ((.s 2),false)) (.call (.c (.fn 28 (.of 28) [])) [(.s 1),(.s 0)])::r) C ⟨(F5.fr x0 x1 x2 x3 x4 x5 x6 x7 x8 x9 a b c d e f g i j l o z L E M F A P G Q H p q s u v B U V w y D W Z),s0::s1::s2::s3::s4::s5::s6::s7::[]⟩ h nx Kt =
 sG s0 false (fun k=>k x9) fun v1=>sG s0 false (fun k=>k z) fun v2=>sGW s0 false (fun k=>C.fn 28 (.of 28) [v1,v2] h nx k) h nx fun v3 h4 n5=>yO r C ⟨(F5.fr x0 x1 x2 x3 x4 x5 x6 x7 x8 x9 a b c d e f g i j l o z L E M F A P G Q H p q s u v B U V w y D W Z),v3::v2::v1::s0::s0::s1::s2::s3::s4::s5::s6::s7::[]⟩ h4 n5 Kt:=by kernel_rfl
theorem F5.zq6:yO (.p .push (some ((.s 3),false)) (.mv (.t (.of 17)))::.p .push (some ((.s 4),false)) (.mv (.t (.of 21)))::.w .push (some ((.s 5),false)) (.call (.c (.fn 28 (.of 28) [])) [(.s 1),(.s 0)])::r) C ⟨(F5.fr x0 x1 x2 x3 x4 x5 x6 x7 x8 x9 a b c d e f g i j l o z L E M F A P G Q H p q s u v B U V w y D W Z),s0::s1::s2::s3::s4::s5::s6::s7::s8::s9::s10::s11::[]⟩ h nx Kt =
 sG s3 false (fun k=>k i) fun v1=>sG s3 false (fun k=>k z) fun v2=>sGW s3 false (fun k=>C.fn 28 (.of 28) [v1,v2] h nx k) h nx fun v3 h4 n5=>yO r C ⟨(F5.fr x0 x1 x2 x3 x4 x5 x6 x7 x8 x9 a b c d e f g i j l o z L E M F A P G Q H p q s u v B U V w y D W Z),v3::v2::v1::s0::s1::s2::s3::s4::s5::s6::s7::s8::s9::s10::s11::[]⟩ h4 n5 Kt:=by kernel_rfl
theorem F5.zq7:yO (.p .push (some ((.s 6),false)) (.bin .neq .bool (.s 3) (.s 0))::.q (.of 38) (.pick (.s 7) (.c (.bool true)) (.s 0))::[]) C ⟨(F5.fr x0 x1 x2 x3 x4 x5 x6 x7 x8 x9 a b c d e f g i j l o z L E M F A P G Q H p q s u v B U V w y D W Z),s0::s1::s2::s3::s4::s5::s6::s7::s8::s9::s10::s11::s12::s13::s14::[]⟩ h nx Kt =
 sG s6 false (fun k=>zf .neq .bool s3 s0 k) fun v1=>jC s6 (.bool true) v1 fun v2=>Kt ⟨(F5.fr x0 x1 x2 x3 x4 x5 x6 x7 x8 x9 a b c d e f g i j l o z L E M F A P G Q H p q s u v B U v2 w y D W Z),v1::s0::s1::s2::s3::s4::s5::s6::s7::s8::s9::s10::s11::s12::s13::s14::[]⟩ h nx:=by kernel_rfl
theorem F5.v38:Arg.ev (.t (.of 38)) ⟨(F5.fr x0 x1 x2 x3 x4 x5 x6 x7 x8 x9 a b c d e f g i j l o z L E M F A P G Q H p q s u v B U V w y D W Z),[]⟩=V:=by kernel_rfl
theorem F5.zxr:IR.run F5.t40 C N O K (F5.fr x0 x1 x2 x3 x4 x5 x6 x7 x8 x9 a b c d e f g i j l o z L E M F A P G Q H p q s u v B U V w y D W Z) h nx =
 zf .add .int B (I 1) fun v1=>K (F5.fr x0 x1 x2 x3 x4 x5 x6 x7 x8 x9 a b c d e f g i j l o z L E M F A P G Q H p q s u v v1 U V w y D W Z) h nx:=by kernel_rfl
theorem F5.zxs (Inv:Nat->AV->T Blk->Pa->Prop) {m:Nat} (hm:m<N) (hi:Inv m B h nx)
  (step:∀ (m:Nat) (z3 zA zC zD zE zG zI zK zL:AV) (h:T Blk) (nx:Pa) (R:Ks Prop),Inv m zI h nx->(∀ (m':Nat) (w3 wA wB wC wD wE wF wG wH:AV) (h':T Blk) (nx':Pa),m'<m->Inv m' wF h' nx'->R (F5.fr x0 x1 x2 w3 x4 x5 x6 x7 x8 x9 a b c d e f g i j l o wA wB wC wD wE A P G Q H p q s u v wF wG wH w y D W Z) h' nx'=.ok True)->IR.run F5.t43 C N O R (F5.fr x0 x1 x2 z3 x4 x5 x6 x7 x8 x9 a b c d e f g i j l o zA zC zD zE zG A P G Q H p q s u v zI zK zL w y D W Z) h nx=.ok True) :
  IR.run F5.t44 C N O K (F5.fr x0 x1 x2 x3 x4 x5 x6 x7 x8 x9 a b c d e f g i j l o z L E M F A P G Q H p q s u v B U V w y D W Z) h nx=.ok True:=by
 rw [F5.t44];refine yG (fun m tm h nx=>∃ z3 zA zC zD zE zG zI zK zL,tm=(F5.fr x0 x1 x2 z3 x4 x5 x6 x7 x8 x9 a b c d e f g i j l o zA zC zD zE zG A P G Q H p q s u v zI zK zL w y D W Z)/\Inv m zI h nx) ?_ hm ⟨_,_,_,_,_,_,_,_,_,rfl,hi⟩;rintro m tm h nx R ⟨z3,zA,zC,zD,zE,zG,zI,zK,zL,rfl,hi⟩ hR;exact step m z3 zA zC zD zE zG zI zK zL h nx R hi fun m' w3 wA wB wC wD wE wF wG wH h' nx' hlt hi'=>hR m' _ h' nx' hlt ⟨_,_,_,_,_,_,_,_,_,rfl,hi'⟩
theorem F5.zxt:IR.run F5.t47 C N O K (F5.fr x0 x1 x2 x3 x4 x5 x6 x7 x8 x9 a b c d e f g i j l o z L E M F A P G Q H p q s u v B U V w y D W Z) h nx =
 yS 1 2 [(.str [])] [(0,1,(.str [115,101,109,105,109,97,103,105,99])),(1,1,(.str [109,97,103,105,99]))] h nx fun v1 h2 n3=>sLen v1 fun v4=>K (F5.fr x0 x1 x2 x3 x4 x5 x6 x7 x8 x9 a b c d e f g i j l o z L E M F A P G Q H p q s u v B U V v1 v4 (I 0) W Z) h2 n3:=by kernel_rfl
theorem F5.zxu:IR.run F5.t48 C N O K (F5.fr x0 x1 x2 x3 x4 x5 x6 x7 x8 x9 a b c d e f g i j l o z L E M F A P G Q H p q s u v B U V w y D W Z) h nx =
 zf .lss .int D y fun v1=>K (F5.fr x0 x1 x2 x3 x4 x5 x6 x7 x8 x9 a b c d e f g i j l o z L E M F A P G Q H p q s u v B U V w y D v1 Z) h nx:=by kernel_rfl
theorem F5.v42:Arg.ev (.t (.of 42)) ⟨(F5.fr x0 x1 x2 x3 x4 x5 x6 x7 x8 x9 a b c d e f g i j l o z L E M F A P G Q H p q s u v B U V w y D W Z),[]⟩=W:=by kernel_rfl
theorem F5.zxv:IR.run F5.t50 C N O K (F5.fr x0 x1 x2 x3 x4 x5 x6 x7 x8 x9 a b c d e f g i j l o z L E M F A P G Q H p q s u v B U V w y D W Z) h nx =
 zS 1 w D fun v1=>zB v1 h fun v2=>K (F5.fr x0 x1 x2 x3 x4 x5 x6 x7 x8 x9 a b c d e f g i j l o z L E M F v2 P G Q H p q s u v B U V w y D W Z) h nx:=by kernel_rfl
theorem F5.zxw:IR.run F5.t51 C N O K (F5.fr x0 x1 x2 x3 x4 x5 x6 x7 x8 x9 a b c d e f g i j l o z L E M F A P G Q H p q s u v B U V w y D W Z) h nx =
 C.fn 26 (.of 26) [A,x4] h nx fun v1 h2 n3=>fC 0 v1 fun v4=>fC 1 v1 fun v5=>yJ [(I 0),.zh] h2 n3 fun v6 h7 n8=>zQ 2 v6 v4 h7 n8 fun v9 hG nH=>K (F5.fr x0 x1 x2 x3 x4 x5 x6 x7 x8 x9 a b c d e f g i j l o z L E M F A v6 v5 Q H p q s u v B U V w y D W Z) hG nH:=by kernel_rfl
theorem F5.zxx:IR.run F5.t52 C N O K (F5.fr x0 x1 x2 x3 x4 x5 x6 x7 x8 x9 a b c d e f g i j l o z L E M F A P G Q H p q s u v B U V w y D W Z) h nx =
 zN 2 P h fun v1=>zN 2 c h fun v2=>C.fn 27 (.of 27) [v1,v2] h nx fun v3 h4 n5=>fC 0 v3 fun v6=>fC 1 v3 fun v7=>K (F5.fr x0 x1 x2 x3 x4 x5 x6 x7 x8 x9 a b c d e f g i j l o z L E M F A P G v6 v7 p q s u v B U V w y D W Z) h4 n5:=by kernel_rfl
theorem F5.zxy:IR.run F5.t53 C N O K tm h nx=yO F5.zmx C ⟨tm,[]⟩ h nx (fun tm h nx=>K tm.v h nx):=kZ ..
theorem F5.zq8:yO (.s (.mv (.t (.of 28)))::.s (.mv (.t (.of 30)))::.s (.bin .add .int (.s 1) (.s 0))::.s (.bin .neq .int (.s 0) (.c (I 0)))::.s (.mv (.s 0))::.p .push (some ((.s 0),false)) (.mv (.t (.of 29)))::.p .push (some ((.s 1),false)) (.not (.s 0))::.s (.pick (.s 2) (.c (.bool true)) (.s 0))::r) C ⟨(F5.fr x0 x1 x2 x3 x4 x5 x6 x7 x8 x9 a b c d e f g i j l o z L E M F A P G Q H p q s u v B U V w y D W Z),[]⟩ h nx Kt =
 zf .add .int G H fun v1=>zf .neq .int v1 (I 0) fun v2=>sG v2 false (fun k=>k Q) fun v3=>sG v2 false (fun k=>sNot v3 k) fun v4=>jC v2 (.bool true) v4 fun v5=>yO r C ⟨(F5.fr x0 x1 x2 x3 x4 x5 x6 x7 x8 x9 a b c d e f g i j l o z L E M F A P G Q H p q s u v B U V w y D W Z),v5::v4::v3::v2::v2::v1::H::G::[]⟩ h nx Kt:=by kernel_rfl
theorem F5.zq9:yO (.s (.mv (.s 0))::.p .push (some ((.s 0),false)) (.mv (.t (.of 9)))::.p .push (some ((.s 1),false)) (.mv (.t (.of 26)))::.w .push (some ((.s 2),false)) (.call (.c (.fn 28 (.of 28) [])) [(.s 1),(.s 0)])::r) C ⟨(F5.fr x0 x1 x2 x3 x4 x5 x6 x7 x8 x9 a b c d e f g i j l o z L E M F A P G Q H p q s u v B U V w y D W Z),s0::s1::s2::s3::s4::s5::s6::s7::[]⟩ h nx Kt =
 sG s0 false (fun k=>k x9) fun v1=>sG s0 false (fun k=>k A) fun v2=>sGW s0 false (fun k=>C.fn 28 (.of 28) [v1,v2] h nx k) h nx fun v3 h4 n5=>yO r C ⟨(F5.fr x0 x1 x2 x3 x4 x5 x6 x7 x8 x9 a b c d e f g i j l o z L E M F A P G Q H p q s u v B U V w y D W Z),v3::v2::v1::s0::s0::s1::s2::s3::s4::s5::s6::s7::[]⟩ h4 n5 Kt:=by kernel_rfl
theorem F5.zra:yO (.p .push (some ((.s 3),false)) (.mv (.t (.of 19)))::.p .push (some ((.s 4),false)) (.mv (.t (.of 26)))::.w .push (some ((.s 5),false)) (.call (.c (.fn 28 (.of 28) [])) [(.s 1),(.s 0)])::r) C ⟨(F5.fr x0 x1 x2 x3 x4 x5 x6 x7 x8 x9 a b c d e f g i j l o z L E M F A P G Q H p q s u v B U V w y D W Z),s0::s1::s2::s3::s4::s5::s6::s7::s8::s9::s10::s11::[]⟩ h nx Kt =
 sG s3 false (fun k=>k l) fun v1=>sG s3 false (fun k=>k A) fun v2=>sGW s3 false (fun k=>C.fn 28 (.of 28) [v1,v2] h nx k) h nx fun v3 h4 n5=>yO r C ⟨(F5.fr x0 x1 x2 x3 x4 x5 x6 x7 x8 x9 a b c d e f g i j l o z L E M F A P G Q H p q s u v B U V w y D W Z),v3::v2::v1::s0::s1::s2::s3::s4::s5::s6::s7::s8::s9::s10::s11::[]⟩ h4 n5 Kt:=by kernel_rfl
theorem F5.zrb:yO (.p .push (some ((.s 6),false)) (.bin .neq .bool (.s 3) (.s 0))::.q (.of 43) (.pick (.s 7) (.c (.bool true)) (.s 0))::[]) C ⟨(F5.fr x0 x1 x2 x3 x4 x5 x6 x7 x8 x9 a b c d e f g i j l o z L E M F A P G Q H p q s u v B U V w y D W Z),s0::s1::s2::s3::s4::s5::s6::s7::s8::s9::s10::s11::s12::s13::s14::[]⟩ h nx Kt =
 sG s6 false (fun k=>zf .neq .bool s3 s0 k) fun v1=>jC s6 (.bool true) v1 fun v2=>Kt ⟨(F5.fr x0 x1 x2 x3 x4 x5 x6 x7 x8 x9 a b c d e f g i j l o z L E M F A P G Q H p q s u v B U V w y D W v2),v1::s0::s1::s2::s3::s4::s5::s6::s7::s8::s9::s10::s11::s12::s13::s14::[]⟩ h nx:=by kernel_rfl
theorem F5.v43:Arg.ev (.t (.of 43)) ⟨(F5.fr x0 x1 x2 x3 x4 x5 x6 x7 x8 x9 a b c d e f g i j l o z L E M F A P G Q H p q s u v B U V w y D W Z),[]⟩=Z:=by kernel_rfl
theorem F5.zxz:IR.run F5.t62 C N O K (F5.fr x0 x1 x2 x3 x4 x5 x6 x7 x8 x9 a b c d e f g i j l o z L E M F A P G Q H p q s u v B U V w y D W Z) h nx =
 zf .add .int D (I 1) fun v1=>K (F5.fr x0 x1 x2 x3 x4 x5 x6 x7 x8 x9 a b c d e f g i j l o z L E M F A P G Q H p q s u v B U V w y v1 W Z) h nx:=by kernel_rfl
theorem F5.zx0 (Inv:Nat->AV->T Blk->Pa->Prop) {m:Nat} (hm:m<N) (hi:Inv m D h nx)
  (step:∀ (m:Nat) (z3 zM zP zR zT zU zV zW zX:AV) (h:T Blk) (nx:Pa) (R:Ks Prop),Inv m zV h nx->(∀ (m':Nat) (w3 wI wJ wK wL wM wN wO wP:AV) (h':T Blk) (nx':Pa),m'<m->Inv m' wN h' nx'->R (F5.fr x0 x1 x2 w3 x4 x5 x6 x7 x8 x9 a b c d e f g i j l o z L E M F wI wJ wK wL wM p q s u v B U V w y wN wO wP) h' nx'=.ok True)->IR.run F5.t65 C N O R (F5.fr x0 x1 x2 z3 x4 x5 x6 x7 x8 x9 a b c d e f g i j l o z L E M F zM zP zR zT zU p q s u v B U V w y zV zW zX) h nx=.ok True) :
  IR.run F5.t66 C N O K (F5.fr x0 x1 x2 x3 x4 x5 x6 x7 x8 x9 a b c d e f g i j l o z L E M F A P G Q H p q s u v B U V w y D W Z) h nx=.ok True:=by
 rw [F5.t66];refine yG (fun m tm h nx=>∃ z3 zM zP zR zT zU zV zW zX,tm=(F5.fr x0 x1 x2 z3 x4 x5 x6 x7 x8 x9 a b c d e f g i j l o z L E M F zM zP zR zT zU p q s u v B U V w y zV zW zX)/\Inv m zV h nx) ?_ hm ⟨_,_,_,_,_,_,_,_,_,rfl,hi⟩;rintro m tm h nx R ⟨z3,zM,zP,zR,zT,zU,zV,zW,zX,rfl,hi⟩ hR;exact step m z3 zM zP zR zT zU zV zW zX h nx R hi fun m' w3 wI wJ wK wL wM wN wO wP h' nx' hlt hi'=>hR m' _ h' nx' hlt ⟨_,_,_,_,_,_,_,_,_,rfl,hi'⟩
theorem F5.zx1:IR.run F5.t69 C N O K (F5.fr x0 x1 x2 x3 x4 x5 x6 x7 x8 x9 a b c d e f g i j l o z L E M F A P G Q H p q s u v B U V w y D W Z) h nx =
 C.fn 18 (.of 18) [] h nx fun v1 h2 n3=>K (F5.fr x0 x1 x2 v1 x4 x5 x6 x7 x8 x9 a b c d e f g i j l o z L E M F A P G Q H p q s u v B U V w y D W Z) h2 n3:=by kernel_rfl
theorem F5.tab:T.get none (.of 5) tbl=some F5:=by kernel_rfl
theorem F5.bind (k:T AV->OP):yK F5.params [a0,a1] F5.init k=k (F5.fr a0 a1 .undef .undef .undef .undef .undef .undef .undef .undef .undef .undef .undef .undef .undef .undef .undef .undef .undef .undef .undef .undef .undef .undef .undef .undef .undef .undef .undef .undef .undef .undef .undef .undef .undef .undef .undef .undef .undef .undef .undef .undef .undef .undef):=by kernel_rfl
theorem F5.je:F5.body=F5.t85:=by kernel_rfl
theorem F5.go:zO tbl N C (.of 5) [a0,a1] h nx K0=IR.run F5.t85 C N (fnO F5.res K0) (ji F5.res K0) (F5.fr a0 a1 .undef .undef .undef .undef .undef .undef .undef .undef .undef .undef .undef .undef .undef .undef .undef .undef .undef .undef .undef .undef .undef .undef .undef .undef .undef .undef .undef .undef .undef .undef .undef .undef .undef .undef .undef .undef .undef .undef .undef .undef .undef .undef) h nx:=by
 rw [zF F5.tab,F5.bind,F5.je];kernel_rfl
theorem F5.ret:ji F5.res K0 (F5.fr x0 x1 x2 x3 x4 x5 x6 x7 x8 x9 a b c d e f g i j l o z L E M F A P G Q H p q s u v B U V w y D W Z) h nx=K0 x3 h nx:=by kernel_rfl
end
end Go.Ev
