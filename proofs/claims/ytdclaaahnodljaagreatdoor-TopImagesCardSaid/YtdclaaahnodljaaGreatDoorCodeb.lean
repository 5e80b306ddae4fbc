import Derived.Test.YtdclaaahnodljaaGreatDoorIrT
import Derived.Test.YtdclaaahnodljaaGreatDoorEvD
import Derived.KernelRfl
set_option linter.unusedSimpArgs false
set_option linter.unusedVariables false
noncomputable section
namespace Go.Ev
open Go Go.Proofs
set_option maxRecDepth 100000
section
variable {N:Nat} {C:Calls Prop} {K0:Kw Prop} {K:Ks Prop} {h:T Blk} {nx:Pa} {L M P W G H Q U V a0 a1:AV} {O:yu Prop} {tm:T AV} {Kt:KTm} {r:List RO} {s0 s1 s2 s3 s4 s5 s6 s7 s8 s9 s10 s11 s12 s13 s14 s15 s16 s17 s18 s19 s20 s21 s22 s23 s24 s25 s26 s27 s28 s29 s30 s31 s32 s33 s34 s35 s36 s37 s38 s39 s40 s41 s42 s43 s44 s45 s46 s47 s48 s49 s50 s51 s52 s53 s54 s55 s56 s57 s58 s59:AV}
def F25.t0:IR:=.reg [.q (.of 2) (.mv (.c (.bool false)))]
def F25.t1:IR:=.reg [.s (.mv (.t (.of 0))),.s (.len (.s 0)),.s (.mv (.t (.of 1))),.s (.len (.s 0)),.q (.of 4) (.bin .neq .int (.s 2) (.s 0))]
def F25.t2:IR:=.reg [.q (.of 2) (.mv (.c (.bool false)))]
def F25.t3:IR:=.seq F25.t2 .ret
def F25.t4:IR:=.cond (.t (.of 4)) F25.t3 .skip
def F25.t5:IR:=.seq F25.t1 F25.t4
def F25.t6:IR:=.reg [.s (.mv (.t (.of 0))),.q (.of 5) (.len (.s 0)),.q (.of 6) (.mv (.c (I 0)))]
def F25.t7:IR:=.reg [.q (.of 7) (.bin .lss .int (.t (.of 6)) (.t (.of 5)))]
def F25.t8:IR:=.cond (.t (.of 7)) .skip (.exit 0)
def F25.t9:IR:=.reg [.s (.mv (.t (.of 6))),.q (.of 3) (.mv (.s 0))]
def F25.t10:IR:=.yh [] [(.s (.mv (.t (.of 0))),0,[]),(.s (.mv (.t (.of 3))),0,[]),(.s (.zu 1 (.s 1) (.s 0)),0,[]),(.s (.load (.s 0)),0,[]),(.s (.mv (.t (.of 1))),0,[]),(.s (.mv (.t (.of 3))),0,[]),(.s (.zu 1 (.s 1) (.s 0)),0,[]),(.s (.load (.s 0)),0,[]),(.q (.of 8) (.bin .neq .str (.s 4) (.s 0)),0,[])]
def F25.t11:IR:=.reg [.q (.of 2) (.mv (.c (.bool false)))]
def F25.t12:IR:=.seq F25.t11 .ret
def F25.t13:IR:=.cond (.t (.of 8)) F25.t12 .skip
def F25.t14:IR:=.seq F25.t10 F25.t13
def F25.t15:IR:=.seq F25.t9 F25.t14
def F25.t16:IR:=.block 1 F25.t15
def F25.t17:IR:=.reg [.s (.bin .add .int (.t (.of 6)) (.c (I 1))),.q (.of 6) (.mv (.s 0))]
def F25.t18:IR:=.seq F25.t16 F25.t17
def F25.t19:IR:=.seq F25.t8 F25.t18
def F25.t20:IR:=.seq F25.t7 F25.t19
def F25.t21:IR:=.loop F25.t20
def F25.t22:IR:=.block 0 F25.t21
def F25.t23:IR:=.seq F25.t6 F25.t22
def F25.t24:IR:=.reg [.q (.of 2) (.mv (.c (.bool true)))]
def F25.t25:IR:=.seq F25.t24 .ret
def F25.t26:IR:=.seq F25.t23 F25.t25
def F25.t27:IR:=.seq F25.t5 F25.t26
def F25.t28:IR:=.seq F25.t0 F25.t27
theorem F25.rM:IR.run F25.t0 C N O K (F25.fr L M P W G H Q U V) h nx =
 K (F25.fr L M (.bool false) W G H Q U V) h nx:=by kernel_rfl
theorem F25.rP:IR.run F25.t1 C N O K (F25.fr L M P W G H Q U V) h nx =
 sLen L fun v1=>sLen M fun v2=>zh .neq .int v1 v2 fun v3=>K (F25.fr L M P W v3 H Q U V) h nx:=by kernel_rfl
theorem F25.rF:IR.run F25.t2 C N O K (F25.fr L M P W G H Q U V) h nx =
 K (F25.fr L M (.bool false) W G H Q U V) h nx:=by kernel_rfl
theorem F25.v4:Arg.ev (.t (.of 4)) ⟨(F25.fr L M P W G H Q U V),[]⟩=G:=by kernel_rfl
theorem F25.aJ:IR.run F25.t6 C N O K (F25.fr L M P W G H Q U V) h nx =
 sLen L fun v1=>K (F25.fr L M P W G v1 (I 0) U V) h nx:=by kernel_rfl
theorem F25.t7_s:IR.run F25.t7 C N O K (F25.fr L M P W G H Q U V) h nx =
 zh .lss .int Q H fun v1=>K (F25.fr L M P W G H Q v1 V) h nx:=by kernel_rfl
theorem F25.v7:Arg.ev (.t (.of 7)) ⟨(F25.fr L M P W G H Q U V),[]⟩=U:=by kernel_rfl
theorem F25.t9_s:IR.run F25.t9 C N O K (F25.fr L M P W G H Q U V) h nx =
 K (F25.fr L M P Q G H Q U V) h nx:=by kernel_rfl
theorem F25.aZ:IR.run F25.t10 C N O K (F25.fr L M P W G H Q U V) h nx =
 zV 1 L W fun v1=>zG v1 h fun v2=>zV 1 M W fun v3=>zG v3 h fun v4=>zh .neq .str v2 v4 fun v5=>K (F25.fr L M P W G H Q U v5) h nx:=by kernel_rfl
theorem F25.zau:IR.run F25.t11 C N O K (F25.fr L M P W G H Q U V) h nx =
 K (F25.fr L M (.bool false) W G H Q U V) h nx:=by kernel_rfl
theorem F25.v8:Arg.ev (.t (.of 8)) ⟨(F25.fr L M P W G H Q U V),[]⟩=V:=by kernel_rfl
theorem F25.oh:IR.run F25.t17 C N O K (F25.fr L M P W G H Q U V) h nx =
 zh .add .int Q (I 1) fun v1=>K (F25.fr L M P W G H v1 U V) h nx:=by kernel_rfl
theorem F25.qab (Inv:Nat->AV->T Blk->Pa->Prop) {m:Nat} (hm:m<N) (hi:Inv m Q h nx)
  (step:∀ (m:Nat) (z2 z3 z6 z7 z8:AV) (h:T Blk) (nx:Pa) (R:Ks Prop),Inv m z6 h nx->(∀ (m':Nat) (w2 w3 w6 w7 w8:AV) (h':T Blk) (nx':Pa),m'<m->Inv m' w6 h' nx'->R (F25.fr L M w2 w3 G H w6 w7 w8) h' nx'=.ok True)->IR.run F25.t20 C N O R (F25.fr L M z2 z3 G H z6 z7 z8) h nx=.ok True) :
  IR.run F25.t21 C N O K (F25.fr L M P W G H Q U V) h nx=.ok True:=by
 rw [F25.t21];refine yK (fun m tm h nx=>∃ z2 z3 z6 z7 z8,tm=(F25.fr L M z2 z3 G H z6 z7 z8)/\Inv m z6 h nx) ?_ hm ⟨_,_,_,_,_,rfl,hi⟩;rintro m tm h nx R ⟨z2,z3,z6,z7,z8,rfl,hi⟩ hR;exact step m z2 z3 z6 z7 z8 h nx R hi fun m' w2 w3 w6 w7 w8 h' nx' hlt hi'=>hR m' _ h' nx' hlt ⟨_,_,_,_,_,rfl,hi'⟩
theorem F25.zna:IR.run F25.t24 C N O K (F25.fr L M P W G H Q U V) h nx =
 K (F25.fr L M (.bool true) W G H Q U V) h nx:=by kernel_rfl
theorem F25.tab:T.get none (.of 25) tbl=some F25:=by kernel_rfl
theorem F25.bind (k:T AV->OP):yP F25.params [a0,a1] F25.init k=k (F25.fr a0 a1 .u .u .u .u .u .u .u):=by kernel_rfl
theorem F25.jo:F25.body=F25.t28:=by kernel_rfl
theorem F25.go:zQ tbl N C (.of 25) [a0,a1] h nx K0=IR.run F25.t28 C N (fnO F25.res K0) (jq F25.res K0) (F25.fr a0 a1 .u .u .u .u .u .u .u) h nx:=by
 rw [zK F25.tab,F25.bind,F25.jo];kernel_rfl
theorem F25.ret:jq F25.res K0 (F25.fr L M P W G H Q U V) h nx=K0 P h nx:=by kernel_rfl
end
end Go.Ev
namespace Go.Ev
open Go Go.Proofs
set_option maxRecDepth 100000
section
variable {N:Nat} {C:Calls Prop} {K0:Kw Prop} {K:Ks Prop} {h:T Blk} {nx:Pa} {L M P W G H Q U V Z a b i c j d l e y z A B D f g o p q s u w E F v a0 a1:AV} {O:yu Prop} {tm:T AV} {Kt:KTm} {r:List RO} {s0 s1 s2 s3 s4 s5 s6 s7 s8 s9 s10 s11 s12 s13 s14 s15 s16 s17 s18 s19 s20 s21 s22 s23 s24 s25 s26 s27 s28 s29 s30 s31 s32 s33 s34 s35 s36 s37 s38 s39 s40 s41 s42 s43 s44 s45 s46 s47 s48 s49 s50 s51 s52 s53 s54 s55 s56 s57 s58 s59:AV}
def F4.t0:IR:=.reg [.w (.loc (.of 2)) none (.box (.t (.of 0))),.q (.of 3) (.mv (.c (.bool false)))]
def F4.eG:List RO:=.p .push (some ((.s 3),false)) (.bin .neq .int (.s 0) (.c (I 0)))::.q (.of 25) (.pick (.s 4) (.c (.bool true)) (.s 0))::[]
def F4.tZ:List RO:=.p .push (some ((.s 1),false)) (.load (.s 0))::.w .push (some ((.s 2),false)) (.call (.c (.fn 17 (.of 17) [])) [(.s 0)])::F4.eG
def F4.aI:List RO:=.s (.bin .neq .int (.s 0) (.c (I 0)))::.s (.mv (.s 0))::.p .push (some ((.s 0),false)) (.zk 0 (.t (.of 2)))::.p .push (some ((.s 1),false)) (.load (.s 0))::.p .push (some ((.s 2),false)) (.bin .gtr .int (.s 0) (.c (I 5)))::.s (.pick (.s 3) (.c (.bool true)) (.s 0))::.s (.mv (.s 0))::.p .push (some ((.s 0),false)) (.zk 2 (.t (.of 2)))::F4.tZ
def F4.r1_0:List RO:=.s (.zn 3 (.t (.of 2)))::.w .push none (.call (.c (.fn 16 (.of 16) [])) [(.s 0)])::F4.aI
def F4.t1:IR:=.reg F4.r1_0
def F4.t2:IR:=.reg [.w .push none (.call (.c (.fn 18 (.of 18) [])) []),.q (.of 3) (.mv (.s 0))]
def F4.t3:IR:=.seq F4.t2 .ret
def F4.t4:IR:=.cond (.t (.of 25)) F4.t3 .skip
def F4.t5:IR:=.seq F4.t1 F4.t4
def F4.t6:IR:=.reg [.s (.zk 0 (.t (.of 2))),.s (.load (.s 0)),.q (.of 4) (.mv (.s 0))]
def F4.t7:IR:=.reg [.s (.mv (.t (.of 4))),.w .push none (.call (.c (.fn 19 (.of 19) [])) [(.s 0)]),.s (.mv (.s 0)),.s (.ext 0 (.s 0)),.s (.ext 1 (.s 1)),.q (.of 5) (.mv (.s 1)),.q (.of 6) (.mv (.s 0))]
def F4.t8:IR:=.reg [.s (.zn 3 (.t (.of 2))),.w .push none (.call (.c (.fn 20 (.of 20) [])) [(.s 0)]),.s (.mv (.s 0)),.s (.ext 0 (.s 0)),.s (.ext 1 (.s 1)),.q (.of 7) (.mv (.s 1)),.q (.of 8) (.mv (.s 0))]
def F4.r6_3:List RO:=.p .push (some ((.s 1),false)) (.len (.s 0))::.p .push (some ((.s 2),false)) (.bin .eql .int (.s 0) (.c (I 0)))::.s (.pick (.s 3) (.c (.bool true)) (.s 0))::.s (.mv (.s 0))::.p .push (some ((.s 0),false)) (.mv (.t (.of 5)))::.p .push (some ((.s 1),false)) (.len (.s 0))::.p .push (some ((.s 2),false)) (.bin .gtr .int (.s 0) (.c (I 8)))::.q (.of 26) (.pick (.s 3) (.c (.bool true)) (.s 0))::[]
def F4.r6_2:List RO:=.p .push (some ((.s 5),false)) (.not (.s 0))::.p .push (some ((.s 6),false)) (.mv (.s 0))::.p .push (some ((.s 0),true)) (.mv (.t (.of 4)))::.p .push (some ((.s 1),true)) (.bin .leq .int (.s 0) (.c (I 4)))::.p .push (some ((.s 9),false)) (.pick (.s 2) (.s 0) (.c (.bool false)))::.s (.pick (.s 10) (.c (.bool true)) (.s 0))::.s (.mv (.s 0))::.p .push (some ((.s 0),false)) (.mv (.t (.of 5)))::F4.r6_3
def F4.r6_1:List RO:=.p .push (some ((.s 3),false)) (.bin .mul .int (.s 1) (.s 0))::.w .push (some ((.s 4),false)) (.call (.c (.fn 21 (.of 21) [])) [(.s 3),(.s 0),(.c (I 8))])::F4.r6_2
def F4.r6_0:List RO:=.s (.mv (.t (.of 6)))::.s (.mv (.t (.of 8)))::.s (.bin .add .int (.s 1) (.s 0))::.s (.bin .neq .int (.s 0) (.c (I 0)))::.s (.mv (.s 0))::.p .push (some ((.s 0),false)) (.mv (.t (.of 5)))::.p .push (some ((.s 1),false)) (.mv (.t (.of 4)))::.p .push (some ((.s 2),false)) (.mv (.t (.of 4)))::F4.r6_1
def F4.t9:IR:=.reg F4.r6_0
def F4.t10:IR:=.reg [.q (.of 3) (.mv (.c (.bool false)))]
def F4.t11:IR:=.seq F4.t10 .ret
def F4.t12:IR:=.cond (.t (.of 26)) F4.t11 .skip
def F4.t13:IR:=.seq F4.t9 F4.t12
def F4.t14:IR:=.reg [.s (.mv (.t (.of 5))),.s (.mv (.t (.of 1))),.s (.conv .i64 (.s 0)),.s (.mv (.t (.of 5))),.s (.len (.s 0)),.s (.bin .rem .int (.s 2) (.s 0)),.s (.zu 2 (.s 5) (.s 0)),.s (.zn 2 (.s 0)),.w (.loc (.of 9)) none (.alloc [.zf,(.bool false)]),.w .none none (.store 2 (.t (.of 9)) (.s 0))]
def F4.t15:IR:=.reg [.s (.zn 2 (.t (.of 9))),.s (.zk 2 (.t (.of 2))),.s (.load (.s 0)),.w .push none (.call (.c (.fn 22 (.of 22) [])) [(.s 2),(.s 0)]),.s (.mv (.s 0)),.s (.ext 0 (.s 0)),.s (.ext 1 (.s 1)),.q (.of 10) (.mv (.s 1)),.q (.of 11) (.mv (.s 0))]
def F4.t16:IR:=.reg [.s (.mv (.t (.of 5))),.s (.zk 2 (.t (.of 2))),.s (.load (.s 0)),.w .push none (.call (.c (.fn 23 (.of 23) [])) [(.s 2),(.s 0)]),.s (.mv (.s 0)),.s (.ext 0 (.s 0)),.s (.ext 1 (.s 1)),.q (.of 12) (.mv (.s 1)),.q (.of 13) (.mv (.s 0))]
def F4.t17:IR:=.reg [.s (.mv (.t (.of 5))),.s (.mv (.t (.of 10))),.w .push none (.call (.c (.fn 23 (.of 23) [])) [(.s 1),(.s 0)]),.s (.mv (.s 0)),.s (.ext 0 (.s 0)),.s (.ext 1 (.s 1)),.q (.of 14) (.mv (.s 1)),.q (.of 15) (.mv (.s 0))]
def F4.t18:IR:=.reg [.s (.mv (.t (.of 4))),.s (.mv (.t (.of 4))),.s (.mv (.t (.of 10))),.s (.build [(I 0),(I 0),.zf] [(0,1,(.s 2)),(1,1,(.s 1)),(2,1,(.s 0))]),.w .push none (.call (.c (.fn 20 (.of 20) [])) [(.s 0)]),.s (.mv (.s 0)),.s (.ext 0 (.s 0)),.s (.ext 1 (.s 1)),.q (.of 16) (.mv (.s 1)),.q (.of 17) (.mv (.s 0))]
def F4.zvz:List RO:=.p .push (some ((.s 3),false)) (.not (.s 0))::.q (.of 27) (.pick (.s 4) (.c (.bool true)) (.s 0))::[]
def F4.zv0:List RO:=.p .push (some ((.s 3),false)) (.not (.s 0))::.s (.pick (.s 4) (.c (.bool true)) (.s 0))::.s (.mv (.s 0))::.p .push (some ((.s 0),false)) (.mv (.t (.of 7)))::.p .push (some ((.s 1),false)) (.mv (.t (.of 16)))::.w .push (some ((.s 2),false)) (.call (.c (.fn 25 (.of 25) [])) [(.s 1),(.s 0)])::F4.zvz
def F4.zv1:List RO:=.s (.mv (.s 0))::.p .push (some ((.s 0),false)) (.mv (.t (.of 12)))::.p .push (some ((.s 1),false)) (.mv (.t (.of 14)))::.w .push (some ((.s 2),false)) (.call (.c (.fn 24 (.of 24) [])) [(.s 1),(.s 0)])::F4.zv0
def F4.znb:List RO:=.s (.mv (.t (.of 11)))::.s (.mv (.t (.of 13)))::.s (.bin .add .int (.s 1) (.s 0))::.s (.mv (.t (.of 15)))::.s (.bin .add .int (.s 1) (.s 0))::.s (.mv (.t (.of 17)))::.s (.bin .add .int (.s 1) (.s 0))::.s (.bin .neq .int (.s 0) (.c (I 0)))::F4.zv1
def F4.t19:IR:=.reg F4.znb
def F4.t20:IR:=.reg [.q (.of 3) (.mv (.c (.bool false)))]
def F4.t21:IR:=.seq F4.t20 .ret
def F4.t22:IR:=.cond (.t (.of 27)) F4.t21 .skip
def F4.t23:IR:=.seq F4.t19 F4.t22
def F4.t24:IR:=.reg [.w (.loc (.of 28)) none (.yj 1 3 [(.str [])] [(0,1,(.c (.str [115,101,109,105,109,97,103,105,99]))),(1,1,(.c (.str [109,97,103,105,99]))),(2,1,(.c (.str [112,97,110,100,105,97,103,111,110,97,108])))]),.q (.of 29) (.len (.t (.of 28))),.q (.of 30) (.mv (.c (I 0)))]
def F4.t25:IR:=.reg [.q (.of 31) (.bin .lss .int (.t (.of 30)) (.t (.of 29)))]
def F4.t26:IR:=.cond (.t (.of 31)) .skip (.exit 0)
def F4.t27:IR:=.reg [.s (.zu 1 (.t (.of 28)) (.t (.of 30))),.s (.load (.s 0)),.q (.of 18) (.mv (.s 0))]
def F4.t28:IR:=.reg [.s (.mv (.t (.of 18))),.s (.mv (.t (.of 4))),.w .push none (.call (.c (.fn 26 (.of 26) [])) [(.s 1),(.s 0)]),.s (.mv (.s 0)),.s (.ext 0 (.s 0)),.s (.ext 1 (.s 1)),.w (.loc (.of 19)) none (.alloc [(I 0),.zf]),.w .none none (.store 2 (.t (.of 19)) (.s 1)),.q (.of 20) (.mv (.s 0))]
def F4.t29:IR:=.reg [.s (.zn 2 (.t (.of 19))),.s (.zn 2 (.t (.of 9))),.w .push none (.call (.c (.fn 27 (.of 27) [])) [(.s 1),(.s 0)]),.s (.mv (.s 0)),.s (.ext 0 (.s 0)),.s (.ext 1 (.s 1)),.q (.of 21) (.mv (.s 1)),.q (.of 22) (.mv (.s 0))]
def F4.t30:IR:=.reg [.s (.mv (.t (.of 20))),.s (.mv (.t (.of 22))),.s (.bin .add .int (.s 1) (.s 0)),.s (.bin .neq .int (.s 0) (.c (I 0))),.s (.mv (.s 0)),.p .push (some ((.s 0),false)) (.mv (.t (.of 21))),.p .push (some ((.s 1),false)) (.not (.s 0)),.q (.of 32) (.pick (.s 2) (.c (.bool true)) (.s 0))]
def F4.t31:IR:=.reg [.q (.of 3) (.mv (.c (.bool false)))]
def F4.t32:IR:=.seq F4.t31 .ret
def F4.t33:IR:=.cond (.t (.of 32)) F4.t32 .skip
def F4.t34:IR:=.seq F4.t30 F4.t33
def F4.t35:IR:=.seq F4.t29 F4.t34
def F4.t36:IR:=.seq F4.t28 F4.t35
def F4.t37:IR:=.seq F4.t27 F4.t36
def F4.t38:IR:=.block 1 F4.t37
def F4.t39:IR:=.reg [.s (.bin .add .int (.t (.of 30)) (.c (I 1))),.q (.of 30) (.mv (.s 0))]
def F4.t40:IR:=.seq F4.t38 F4.t39
def F4.t41:IR:=.seq F4.t26 F4.t40
def F4.t42:IR:=.seq F4.t25 F4.t41
def F4.t43:IR:=.loop F4.t42
def F4.t44:IR:=.block 0 F4.t43
def F4.t45:IR:=.seq F4.t24 F4.t44
def F4.t46:IR:=.reg [.s (.mv (.t (.of 7))),.w .push none (.call (.c (.fn 28 (.of 28) [])) [(.s 0),(.c (.str [110,111,114,109,97,108]))]),.q (.of 33) (.not (.s 0))]
def F4.t47:IR:=.reg [.w .push none (.call (.c (.fn 18 (.of 18) [])) []),.q (.of 3) (.mv (.s 0))]
def F4.t48:IR:=.seq F4.t47 .ret
def F4.t49:IR:=.cond (.t (.of 33)) F4.t48 .skip
def F4.t50:IR:=.seq F4.t46 F4.t49
def F4.t51:IR:=.reg [.s (.zk 1 (.t (.of 9))),.w .none none (.store 1 (.s 0) (.c (.bool true)))]
def F4.t52:IR:=.reg [.s (.zn 2 (.t (.of 9))),.s (.zk 2 (.t (.of 2))),.s (.load (.s 0)),.w .push none (.call (.c (.fn 22 (.of 22) [])) [(.s 2),(.s 0)]),.s (.mv (.s 0)),.s (.ext 0 (.s 0)),.s (.ext 1 (.s 1)),.q (.of 10) (.mv (.s 1)),.q (.of 23) (.mv (.s 0))]
def F4.t53:IR:=.reg [.s (.mv (.t (.of 4))),.s (.mv (.t (.of 4))),.s (.mv (.t (.of 10))),.s (.build [(I 0),(I 0),.zf] [(0,1,(.s 2)),(1,1,(.s 1)),(2,1,(.s 0))]),.w .push none (.call (.c (.fn 20 (.of 20) [])) [(.s 0)]),.s (.mv (.s 0)),.s (.ext 0 (.s 0)),.s (.ext 1 (.s 1)),.q (.of 16) (.mv (.s 1)),.q (.of 24) (.mv (.s 0))]
def F4.zv2:List RO:=.s (.pick (.s 1) (.s 0) (.c (.bool false)))::.q (.of 3) (.mv (.s 0))::[]
def F4.zv3:List RO:=.s (.pick (.s 3) (.s 0) (.c (.bool false)))::.s (.mv (.s 0))::.w .push (some ((.s 0),true)) (.call (.c (.fn 18 (.of 18) [])) [])::F4.zv2
def F4.znc:List RO:=.s (.mv (.t (.of 23)))::.s (.mv (.t (.of 24)))::.s (.bin .add .int (.s 1) (.s 0))::.s (.bin .eql .int (.s 0) (.c (I 0)))::.s (.mv (.s 0))::.p .push (some ((.s 0),true)) (.mv (.t (.of 7)))::.p .push (some ((.s 1),true)) (.mv (.t (.of 16)))::.w .push (some ((.s 2),true)) (.call (.c (.fn 25 (.of 25) [])) [(.s 1),(.s 0)])::F4.zv3
def F4.t54:IR:=.reg F4.znc
def F4.t55:IR:=.seq F4.t54 .ret
def F4.t56:IR:=.seq F4.t53 F4.t55
def F4.t57:IR:=.seq F4.t52 F4.t56
def F4.t58:IR:=.seq F4.t51 F4.t57
def F4.t59:IR:=.seq F4.t50 F4.t58
def F4.t60:IR:=.seq F4.t45 F4.t59
def F4.t61:IR:=.seq F4.t23 F4.t60
def F4.t62:IR:=.seq F4.t18 F4.t61
def F4.t63:IR:=.seq F4.t17 F4.t62
def F4.t64:IR:=.seq F4.t16 F4.t63
def F4.t65:IR:=.seq F4.t15 F4.t64
def F4.t66:IR:=.seq F4.t14 F4.t65
def F4.t67:IR:=.seq F4.t13 F4.t66
def F4.t68:IR:=.seq F4.t8 F4.t67
def F4.t69:IR:=.seq F4.t7 F4.t68
def F4.t70:IR:=.seq F4.t6 F4.t69
def F4.t71:IR:=.seq F4.t5 F4.t70
def F4.t72:IR:=.seq F4.t0 F4.t71
theorem F4.rM:IR.run F4.t0 C N O K (F4.fr L M P W G H Q U V Z a b i c j d l e y z A B D f g o p q s u w E F v) h nx =
 vk L h nx fun v1 h2 n3=>K (F4.fr L M v1 (.bool false) G H Q U V Z a b i c j d l e y z A B D f g o p q s u w E F v) h2 n3:=by kernel_rfl
theorem F4.rP:IR.run F4.t1 C N O K tm h nx=yR F4.r1_0 C ⟨tm,[]⟩ h nx (fun tm h nx=>K tm.v h nx):=qL ..
theorem F4.zaa:yR (.s (.zn 3 (.t (.of 2)))::.w .push none (.call (.c (.fn 16 (.of 16) [])) [(.s 0)])::r) C ⟨(F4.fr L M P W G H Q U V Z a b i c j d l e y z A B D f g o p q s u w E F v),[]⟩ h nx Kt =
 zS 3 P h fun v1=>C.fn 16 (.of 16) [v1] h nx fun v2 h3 n4=>yR r C ⟨(F4.fr L M P W G H Q U V Z a b i c j d l e y z A B D f g o p q s u w E F v),v2::v1::[]⟩ h3 n4 Kt:=by kernel_rfl
theorem F4.rQ:yR (.s (.bin .neq .int (.s 0) (.c (I 0)))::.s (.mv (.s 0))::.p .push (some ((.s 0),false)) (.zk 0 (.t (.of 2)))::.p .push (some ((.s 1),false)) (.load (.s 0))::.p .push (some ((.s 2),false)) (.bin .gtr .int (.s 0) (.c (I 5)))::.s (.pick (.s 3) (.c (.bool true)) (.s 0))::.s (.mv (.s 0))::.p .push (some ((.s 0),false)) (.zk 2 (.t (.of 2)))::r) C ⟨(F4.fr L M P W G H Q U V Z a b i c j d l e y z A B D f g o p q s u w E F v),s0::s1::[]⟩ h nx Kt =
 zh .neq .int s0 (I 0) fun v1=>sG v1 false (fun k=>zN 0 P k) fun v2=>sG v1 false (fun k=>zG v2 h k) fun v3=>sG v1 false (fun k=>zh .gtr .int v3 (I 5) k) fun v4=>jE v1 (.bool true) v4 fun v5=>sG v5 false (fun k=>zN 2 P k) fun v6=>yR r C ⟨(F4.fr L M P W G H Q U V Z a b i c j d l e y z A B D f g o p q s u w E F v),v6::v5::v5::v4::v3::v2::v1::v1::s0::s1::[]⟩ h nx Kt:=by kernel_rfl
theorem F4.fJ:yR (.p .push (some ((.s 1),false)) (.load (.s 0))::.w .push (some ((.s 2),false)) (.call (.c (.fn 17 (.of 17) [])) [(.s 0)])::r) C ⟨(F4.fr L M P W G H Q U V Z a b i c j d l e y z A B D f g o p q s u w E F v),s0::s1::s2::s3::s4::s5::s6::s7::s8::s9::[]⟩ h nx Kt =
 sG s1 false (fun k=>zG s0 h k) fun v1=>sGW s1 false (fun k=>C.fn 17 (.of 17) [v1] h nx k) h nx fun v2 h3 n4=>yR r C ⟨(F4.fr L M P W G H Q U V Z a b i c j d l e y z A B D f g o p q s u w E F v),v2::v1::s0::s1::s2::s3::s4::s5::s6::s7::s8::s9::[]⟩ h3 n4 Kt:=by kernel_rfl
theorem F4.rY:yR (.p .push (some ((.s 3),false)) (.bin .neq .int (.s 0) (.c (I 0)))::.q (.of 25) (.pick (.s 4) (.c (.bool true)) (.s 0))::[]) C ⟨(F4.fr L M P W G H Q U V Z a b i c j d l e y z A B D f g o p q s u w E F v),s0::s1::s2::s3::s4::s5::s6::s7::s8::s9::s10::s11::[]⟩ h nx Kt =
 sG s3 false (fun k=>zh .neq .int s0 (I 0) k) fun v1=>jE s3 (.bool true) v1 fun v2=>Kt ⟨(F4.fr L M P W G H Q U V Z a b i c j d l e y z A B D f g v2 p q s u w E F v),v1::s0::s1::s2::s3::s4::s5::s6::s7::s8::s9::s10::s11::[]⟩ h nx:=by kernel_rfl
theorem F4.rF:IR.run F4.t2 C N O K (F4.fr L M P W G H Q U V Z a b i c j d l e y z A B D f g o p q s u w E F v) h nx =
 C.fn 18 (.of 18) [] h nx fun v1 h2 n3=>K (F4.fr L M P v1 G H Q U V Z a b i c j d l e y z A B D f g o p q s u w E F v) h2 n3:=by kernel_rfl
theorem F4.v25:Arg.ev (.t (.of 25)) ⟨(F4.fr L M P W G H Q U V Z a b i c j d l e y z A B D f g o p q s u w E F v),[]⟩=o:=by kernel_rfl
theorem F4.aJ:IR.run F4.t6 C N O K (F4.fr L M P W G H Q U V Z a b i c j d l e y z A B D f g o p q s u w E F v) h nx =
 zN 0 P fun v1=>zG v1 h fun v2=>K (F4.fr L M P W v2 H Q U V Z a b i c j d l e y z A B D f g o p q s u w E F v) h nx:=by kernel_rfl
theorem F4.t7_s:IR.run F4.t7 C N O K (F4.fr L M P W G H Q U V Z a b i c j d l e y z A B D f g o p q s u w E F v) h nx =
 C.fn 19 (.of 19) [G] h nx fun v1 h2 n3=>fB 0 v1 fun v4=>fB 1 v1 fun v5=>K (F4.fr L M P W G v4 v5 U V Z a b i c j d l e y z A B D f g o p q s u w E F v) h2 n3:=by kernel_rfl
theorem F4.t8_s:IR.run F4.t8 C N O K (F4.fr L M P W G H Q U V Z a b i c j d l e y z A B D f g o p q s u w E F v) h nx =
 zS 3 P h fun v1=>C.fn 20 (.of 20) [v1] h nx fun v2 h3 n4=>fB 0 v2 fun v5=>fB 1 v2 fun v6=>K (F4.fr L M P W G H Q v5 v6 Z a b i c j d l e y z A B D f g o p q s u w E F v) h3 n4:=by kernel_rfl
theorem F4.t9_s:IR.run F4.t9 C N O K tm h nx=yR F4.r6_0 C ⟨tm,[]⟩ h nx (fun tm h nx=>K tm.v h nx):=qL ..
theorem F4.zxa:yR (.s (.mv (.t (.of 6)))::.s (.mv (.t (.of 8)))::.s (.bin .add .int (.s 1) (.s 0))::.s (.bin .neq .int (.s 0) (.c (I 0)))::.s (.mv (.s 0))::.p .push (some ((.s 0),false)) (.mv (.t (.of 5)))::.p .push (some ((.s 1),false)) (.mv (.t (.of 4)))::.p .push (some ((.s 2),false)) (.mv (.t (.of 4)))::r) C ⟨(F4.fr L M P W G H Q U V Z a b i c j d l e y z A B D f g o p q s u w E F v),[]⟩ h nx Kt =
 zh .add .int Q V fun v1=>zh .neq .int v1 (I 0) fun v2=>sG v2 false (fun k=>k H) fun v3=>sG v2 false (fun k=>k G) fun v4=>sG v2 false (fun k=>k G) fun v5=>yR r C ⟨(F4.fr L M P W G H Q U V Z a b i c j d l e y z A B D f g o p q s u w E F v),v5::v4::v3::v2::v2::v1::V::Q::[]⟩ h nx Kt:=by kernel_rfl
theorem F4.zxb:yR (.p .push (some ((.s 3),false)) (.bin .mul .int (.s 1) (.s 0))::.w .push (some ((.s 4),false)) (.call (.c (.fn 21 (.of 21) [])) [(.s 3),(.s 0),(.c (I 8))])::r) C ⟨(F4.fr L M P W G H Q U V Z a b i c j d l e y z A B D f g o p q s u w E F v),s0::s1::s2::s3::s4::s5::s6::s7::[]⟩ h nx Kt =
 sG s3 false (fun k=>zh .mul .int s1 s0 k) fun v1=>sGW s3 false (fun k=>C.fn 21 (.of 21) [s2,v1,(I 8)] h nx k) h nx fun v2 h3 n4=>yR r C ⟨(F4.fr L M P W G H Q U V Z a b i c j d l e y z A B D f g o p q s u w E F v),v2::v1::s0::s1::s2::s3::s4::s5::s6::s7::[]⟩ h3 n4 Kt:=by kernel_rfl
theorem F4.zxc:yR (.p .push (some ((.s 5),false)) (.not (.s 0))::.p .push (some ((.s 6),false)) (.mv (.s 0))::.p .push (some ((.s 0),true)) (.mv (.t (.of 4)))::.p .push (some ((.s 1),true)) (.bin .leq .int (.s 0) (.c (I 4)))::.p .push (some ((.s 9),false)) (.pick (.s 2) (.s 0) (.c (.bool false)))::.s (.pick (.s 10) (.c (.bool true)) (.s 0))::.s (.mv (.s 0))::.p .push (some ((.s 0),false)) (.mv (.t (.of 5)))::r) C ⟨(F4.fr L M P W G H Q U V Z a b i c j d l e y z A B D f g o p q s u w E F v),s0::s1::s2::s3::s4::s5::s6::s7::s8::s9::[]⟩ h nx Kt =
 sG s5 false (fun k=>oM s0 k) fun v1=>sG s5 false (fun k=>k v1) fun v2=>sG v2 true (fun k=>k G) fun v3=>sG v2 true (fun k=>zh .leq .int v3 (I 4) k) fun v4=>sG s5 false (fun k=>jE v2 v4 (.bool false) k) fun v5=>jE s5 (.bool true) v5 fun v6=>sG v6 false (fun k=>k H) fun v7=>yR r C ⟨(F4.fr L M P W G H Q U V Z a b i c j d l e y z A B D f g o p q s u w E F v),v7::v6::v6::v5::v4::v3::v2::v1::s0::s1::s2::s3::s4::s5::s6::s7::s8::s9::[]⟩ h nx Kt:=by kernel_rfl
theorem F4.znd:yR (.p .push (some ((.s 1),false)) (.len (.s 0))::.p .push (some ((.s 2),false)) (.bin .eql .int (.s 0) (.c (I 0)))::.s (.pick (.s 3) (.c (.bool true)) (.s 0))::.s (.mv (.s 0))::.p .push (some ((.s 0),false)) (.mv (.t (.of 5)))::.p .push (some ((.s 1),false)) (.len (.s 0))::.p .push (some ((.s 2),false)) (.bin .gtr .int (.s 0) (.c (I 8)))::.q (.of 26) (.pick (.s 3) (.c (.bool true)) (.s 0))::[]) C ⟨(F4.fr L M P W G H Q U V Z a b i c j d l e y z A B D f g o p q s u w E F v),s0::s1::s2::s3::s4::s5::s6::s7::s8::s9::s10::s11::s12::s13::s14::s15::s16::s17::[]⟩ h nx Kt =
 sG s1 false (fun k=>sLen s0 k) fun v1=>sG s1 false (fun k=>zh .eql .int v1 (I 0) k) fun v2=>jE s1 (.bool true) v2 fun v3=>sG v3 false (fun k=>k H) fun v4=>sG v3 false (fun k=>sLen v4 k) fun v5=>sG v3 false (fun k=>zh .gtr .int v5 (I 8) k) fun v6=>jE v3 (.bool true) v6 fun v7=>Kt ⟨(F4.fr L M P W G H Q U V Z a b i c j d l e y z A B D f g o v7 q s u w E F v),v6::v5::v4::v3::v3::v2::v1::s0::s1::s2::s3::s4::s5::s6::s7::s8::s9::s10::s11::s12::s13::s14::s15::s16::s17::[]⟩ h nx:=by kernel_rfl
theorem F4.v26:Arg.ev (.t (.of 26)) ⟨(F4.fr L M P W G H Q U V Z a b i c j d l e y z A B D f g o p q s u w E F v),[]⟩=p:=by kernel_rfl
theorem F4.zcv:IR.run F4.t14 C N O K (F4.fr L M P W G H Q U V Z a b i c j d l e y z A B D f g o p q s u w E F v) h nx =
 vT .i64 M fun v1=>sLen H fun v2=>zh .rem .int v1 v2 fun v3=>zV 2 H v3 fun v4=>zS 2 v4 h fun v5=>yT [.zf,(.bool false)] h nx fun v6 h7 n8=>zY 2 v6 v5 h7 n8 fun v9 hA nA=>K (F4.fr L M P W G H Q U V v6 a b i c j d l e y z A B D f g o p q s u w E F v) hA nA:=by kernel_rfl
theorem F4.ze7:IR.run F4.t15 C N O K (F4.fr L M P W G H Q U V Z a b i c j d l e y z A B D f g o p q s u w E F v) h nx =
 zS 2 Z h fun v1=>zN 2 P fun v2=>zG v2 h fun v3=>C.fn 22 (.of 22) [v1,v3] h nx fun v4 h5 n6=>fB 0 v4 fun v7=>fB 1 v4 fun v8=>K (F4.fr L M P W G H Q U V Z v7 v8 i c j d l e y z A B D f g o p q s u w E F v) h5 n6:=by kernel_rfl
theorem F4.ze9:IR.run F4.t16 C N O K (F4.fr L M P W G H Q U V Z a b i c j d l e y z A B D f g o p q s u w E F v) h nx =
 zN 2 P fun v1=>zG v1 h fun v2=>C.fn 23 (.of 23) [H,v2] h nx fun v3 h4 n5=>fB 0 v3 fun v6=>fB 1 v3 fun v7=>K (F4.fr L M P W G H Q U V Z a b v6 v7 j d l e y z A B D f g o p q s u w E F v) h4 n5:=by kernel_rfl
theorem F4.oh:IR.run F4.t17 C N O K (F4.fr L M P W G H Q U V Z a b i c j d l e y z A B D f g o p q s u w E F v) h nx =
 C.fn 23 (.of 23) [H,a] h nx fun v1 h2 n3=>fB 0 v1 fun v4=>fB 1 v1 fun v5=>K (F4.fr L M P W G H Q U V Z a b i c v4 v5 l e y z A B D f g o p q s u w E F v) h2 n3:=by kernel_rfl
theorem F4.ze8:IR.run F4.t18 C N O K (F4.fr L M P W G H Q U V Z a b i c j d l e y z A B D f g o p q s u w E F v) h nx =
 jO [(I 0),(I 0),.zf] [(0,1,G),(1,1,G),(2,1,a)] fun v1=>C.fn 20 (.of 20) [v1] h nx fun v2 h3 n4=>fB 0 v2 fun v5=>fB 1 v2 fun v6=>K (F4.fr L M P W G H Q U V Z a b i c j d v5 v6 y z A B D f g o p q s u w E F v) h3 n4:=by kernel_rfl
theorem F4.zm9:IR.run F4.t19 C N O K tm h nx=yR F4.znb C ⟨tm,[]⟩ h nx (fun tm h nx=>K tm.v h nx):=qL ..
theorem F4.zsu:yR (.s (.mv (.t (.of 11)))::.s (.mv (.t (.of 13)))::.s (.bin .add .int (.s 1) (.s 0))::.s (.mv (.t (.of 15)))::.s (.bin .add .int (.s 1) (.s 0))::.s (.mv (.t (.of 17)))::.s (.bin .add .int (.s 1) (.s 0))::.s (.bin .neq .int (.s 0) (.c (I 0)))::r) C ⟨(F4.fr L M P W G H Q U V Z a b i c j d l e y z A B D f g o p q s u w E F v),[]⟩ h nx Kt =
 zh .add .int b c fun v1=>zh .add .int v1 d fun v2=>zh .add .int v2 e fun v3=>zh .neq .int v3 (I 0) fun v4=>yR r C ⟨(F4.fr L M P W G H Q U V Z a b i c j d l e y z A B D f g o p q s u w E F v),v4::v3::e::v2::d::v1::c::b::[]⟩ h nx Kt:=by kernel_rfl
theorem F4.zsv:yR (.s (.mv (.s 0))::.p .push (some ((.s 0),false)) (.mv (.t (.of 12)))::.p .push (some ((.s 1),false)) (.mv (.t (.of 14)))::.w .push (some ((.s 2),false)) (.call (.c (.fn 24 (.of 24) [])) [(.s 1),(.s 0)])::r) C ⟨(F4.fr L M P W G H Q U V Z a b i c j d l e y z A B D f g o p q s u w E F v),s0::s1::s2::s3::s4::s5::s6::s7::[]⟩ h nx Kt =
 sG s0 false (fun k=>k i) fun v1=>sG s0 false (fun k=>k j) fun v2=>sGW s0 false (fun k=>C.fn 24 (.of 24) [v1,v2] h nx k) h nx fun v3 h4 n5=>yR r C ⟨(F4.fr L M P W G H Q U V Z a b i c j d l e y z A B D f g o p q s u w E F v),v3::v2::v1::s0::s0::s1::s2::s3::s4::s5::s6::s7::[]⟩ h4 n5 Kt:=by kernel_rfl
theorem F4.zsw:yR (.p .push (some ((.s 3),false)) (.not (.s 0))::.s (.pick (.s 4) (.c (.bool true)) (.s 0))::.s (.mv (.s 0))::.p .push (some ((.s 0),false)) (.mv (.t (.of 7)))::.p .push (some ((.s 1),false)) (.mv (.t (.of 16)))::.w .push (some ((.s 2),false)) (.call (.c (.fn 25 (.of 25) [])) [(.s 1),(.s 0)])::r) C ⟨(F4.fr L M P W G H Q U V Z a b i c j d l e y z A B D f g o p q s u w E F v),s0::s1::s2::s3::s4::s5::s6::s7::s8::s9::s10::s11::[]⟩ h nx Kt =
 sG s3 false (fun k=>oM s0 k) fun v1=>jE s3 (.bool true) v1 fun v2=>sG v2 false (fun k=>k U) fun v3=>sG v2 false (fun k=>k l) fun v4=>sGW v2 false (fun k=>C.fn 25 (.of 25) [v3,v4] h nx k) h nx fun v5 h6 n7=>yR r C ⟨(F4.fr L M P W G H Q U V Z a b i c j d l e y z A B D f g o p q s u w E F v),v5::v4::v3::v2::v2::v1::s0::s1::s2::s3::s4::s5::s6::s7::s8::s9::s10::s11::[]⟩ h6 n7 Kt:=by kernel_rfl
theorem F4.zsx:yR (.p .push (some ((.s 3),false)) (.not (.s 0))::.q (.of 27) (.pick (.s 4) (.c (.bool true)) (.s 0))::[]) C ⟨(F4.fr L M P W G H Q U V Z a b i c j d l e y z A B D f g o p q s u w E F v),s0::s1::s2::s3::s4::s5::s6::s7::s8::s9::s10::s11::s12::s13::s14::s15::s16::s17::[]⟩ h nx Kt =
 sG s3 false (fun k=>oM s0 k) fun v1=>jE s3 (.bool true) v1 fun v2=>Kt ⟨(F4.fr L M P W G H Q U V Z a b i c j d l e y z A B D f g o p v2 s u w E F v),v1::s0::s1::s2::s3::s4::s5::s6::s7::s8::s9::s10::s11::s12::s13::s14::s15::s16::s17::[]⟩ h nx:=by kernel_rfl
theorem F4.v27:Arg.ev (.t (.of 27)) ⟨(F4.fr L M P W G H Q U V Z a b i c j d l e y z A B D f g o p q s u w E F v),[]⟩=q:=by kernel_rfl
theorem F4.zna:IR.run F4.t24 C N O K (F4.fr L M P W G H Q U V Z a b i c j d l e y z A B D f g o p q s u w E F v) h nx =
 jM 1 3 [(.str [])] [(0,1,(.str [115,101,109,105,109,97,103,105,99])),(1,1,(.str [109,97,103,105,99])),(2,1,(.str [112,97,110,100,105,97,103,111,110,97,108]))] h nx fun v1 h2 n3=>sLen v1 fun v4=>K (F4.fr L M P W G H Q U V Z a b i c j d l e y z A B D f g o p q v1 v4 (I 0) E F v) h2 n3:=by kernel_rfl
theorem F4.qac:IR.run F4.t25 C N O K (F4.fr L M P W G H Q U V Z a b i c j d l e y z A B D f g o p q s u w E F v) h nx =
 zh .lss .int w u fun v1=>K (F4.fr L M P W G H Q U V Z a b i c j d l e y z A B D f g o p q s u w v1 F v) h nx:=by kernel_rfl
theorem F4.v31:Arg.ev (.t (.of 31)) ⟨(F4.fr L M P W G H Q U V Z a b i c j d l e y z A B D f g o p q s u w E F v),[]⟩=E:=by kernel_rfl
theorem F4.qad:IR.run F4.t27 C N O K (F4.fr L M P W G H Q U V Z a b i c j d l e y z A B D f g o p q s u w E F v) h nx =
 zV 1 s w fun v1=>zG v1 h fun v2=>K (F4.fr L M P W G H Q U V Z a b i c j d l e v2 z A B D f g o p q s u w E F v) h nx:=by kernel_rfl
theorem F4.qae:IR.run F4.t28 C N O K (F4.fr L M P W G H Q U V Z a b i c j d l e y z A B D f g o p q s u w E F v) h nx =
 C.fn 26 (.of 26) [y,G] h nx fun v1 h2 n3=>fB 0 v1 fun v4=>fB 1 v1 fun v5=>yT [(I 0),.zf] h2 n3 fun v6 h7 n8=>zY 2 v6 v4 h7 n8 fun v9 hA nA=>K (F4.fr L M P W G H Q U V Z a b i c j d l e y v6 v5 B D f g o p q s u w E F v) hA nA:=by kernel_rfl
theorem F4.zm7:IR.run F4.t29 C N O K (F4.fr L M P W G H Q U V Z a b i c j d l e y z A B D f g o p q s u w E F v) h nx =
 zS 2 z h fun v1=>zS 2 Z h fun v2=>C.fn 27 (.of 27) [v1,v2] h nx fun v3 h4 n5=>fB 0 v3 fun v6=>fB 1 v3 fun v7=>K (F4.fr L M P W G H Q U V Z a b i c j d l e y z A v6 v7 f g o p q s u w E F v) h4 n5:=by kernel_rfl
theorem F4.zm8:IR.run F4.t30 C N O K (F4.fr L M P W G H Q U V Z a b i c j d l e y z A B D f g o p q s u w E F v) h nx =
 zh .add .int A D fun v1=>zh .neq .int v1 (I 0) fun v2=>sG v2 false (fun k=>k B) fun v3=>sG v2 false (fun k=>oM v3 k) fun v4=>jE v2 (.bool true) v4 fun v5=>K (F4.fr L M P W G H Q U V Z a b i c j d l e y z A B D f g o p q s u w E v5 v) h nx:=by kernel_rfl
theorem F4.v32:Arg.ev (.t (.of 32)) ⟨(F4.fr L M P W G H Q U V Z a b i c j d l e y z A B D f g o p q s u w E F v),[]⟩=F:=by kernel_rfl
theorem F4.qaf:IR.run F4.t39 C N O K (F4.fr L M P W G H Q U V Z a b i c j d l e y z A B D f g o p q s u w E F v) h nx =
 zh .add .int w (I 1) fun v1=>K (F4.fr L M P W G H Q U V Z a b i c j d l e y z A B D f g o p q s u v1 E F v) h nx:=by kernel_rfl
theorem F4.qag (Inv:Nat->AV->T Blk->Pa->Prop) {m:Nat} (hm:m<N) (hi:Inv m w h nx)
  (step:∀ (m:Nat) (z3 zA zB zC zD zE zF zH zI:AV) (h:T Blk) (nx:Pa) (R:Ks Prop),Inv m zF h nx->(∀ (m':Nat) (w3 wA wB wC wD wE wF wG wH:AV) (h':T Blk) (nx':Pa),m'<m->Inv m' wF h' nx'->R (F4.fr L M P w3 G H Q U V Z a b i c j d l e wA wB wC wD wE f g o p q s u wF wG wH v) h' nx'=.ok True)->IR.run F4.t42 C N O R (F4.fr L M P z3 G H Q U V Z a b i c j d l e zA zB zC zD zE f g o p q s u zF zH zI v) h nx=.ok True) :
  IR.run F4.t43 C N O K (F4.fr L M P W G H Q U V Z a b i c j d l e y z A B D f g o p q s u w E F v) h nx=.ok True:=by
 rw [F4.t43];refine yK (fun m tm h nx=>∃ z3 zA zB zC zD zE zF zH zI,tm=(F4.fr L M P z3 G H Q U V Z a b i c j d l e zA zB zC zD zE f g o p q s u zF zH zI v)/\Inv m zF h nx) ?_ hm ⟨_,_,_,_,_,_,_,_,_,rfl,hi⟩;rintro m tm h nx R ⟨z3,zA,zB,zC,zD,zE,zF,zH,zI,rfl,hi⟩ hR;exact step m z3 zA zB zC zD zE zF zH zI h nx R hi fun m' w3 wA wB wC wD wE wF wG wH h' nx' hlt hi'=>hR m' _ h' nx' hlt ⟨_,_,_,_,_,_,_,_,_,rfl,hi'⟩
theorem F4.qah:IR.run F4.t46 C N O K (F4.fr L M P W G H Q U V Z a b i c j d l e y z A B D f g o p q s u w E F v) h nx =
 C.fn 28 (.of 28) [U,(.str [110,111,114,109,97,108])] h nx fun v1 h2 n3=>oM v1 fun v4=>K (F4.fr L M P W G H Q U V Z a b i c j d l e y z A B D f g o p q s u w E F v4) h2 n3:=by kernel_rfl
theorem F4.qai:IR.run F4.t47 C N O K (F4.fr L M P W G H Q U V Z a b i c j d l e y z A B D f g o p q s u w E F v) h nx =
 C.fn 18 (.of 18) [] h nx fun v1 h2 n3=>K (F4.fr L M P v1 G H Q U V Z a b i c j d l e y z A B D f g o p q s u w E F v) h2 n3:=by kernel_rfl
theorem F4.v33:Arg.ev (.t (.of 33)) ⟨(F4.fr L M P W G H Q U V Z a b i c j d l e y z A B D f g o p q s u w E F v),[]⟩=v:=by kernel_rfl
theorem F4.qaj:IR.run F4.t51 C N O K (F4.fr L M P W G H Q U V Z a b i c j d l e y z A B D f g o p q s u w E F v) h nx =
 zN 1 Z fun v1=>zY 1 v1 (.bool true) h nx fun v2 h3 n4=>K (F4.fr L M P W G H Q U V Z a b i c j d l e y z A B D f g o p q s u w E F v) h3 n4:=by kernel_rfl
theorem F4.qak:IR.run F4.t52 C N O K (F4.fr L M P W G H Q U V Z a b i c j d l e y z A B D f g o p q s u w E F v) h nx =
 zS 2 Z h fun v1=>zN 2 P fun v2=>zG v2 h fun v3=>C.fn 22 (.of 22) [v1,v3] h nx fun v4 h5 n6=>fB 0 v4 fun v7=>fB 1 v4 fun v8=>K (F4.fr L M P W G H Q U V Z v7 b i c j d l e y z A B D v8 g o p q s u w E F v) h5 n6:=by kernel_rfl
theorem F4.qal:IR.run F4.t53 C N O K (F4.fr L M P W G H Q U V Z a b i c j d l e y z A B D f g o p q s u w E F v) h nx =
 jO [(I 0),(I 0),.zf] [(0,1,G),(1,1,G),(2,1,a)] fun v1=>C.fn 20 (.of 20) [v1] h nx fun v2 h3 n4=>fB 0 v2 fun v5=>fB 1 v2 fun v6=>K (F4.fr L M P W G H Q U V Z a b i c j d v5 e y z A B D f v6 o p q s u w E F v) h3 n4:=by kernel_rfl
theorem F4.qam:IR.run F4.t54 C N O K tm h nx=yR F4.znc C ⟨tm,[]⟩ h nx (fun tm h nx=>K tm.v h nx):=qL ..
theorem F4.zsy:yR (.s (.mv (.t (.of 23)))::.s (.mv (.t (.of 24)))::.s (.bin .add .int (.s 1) (.s 0))::.s (.bin .eql .int (.s 0) (.c (I 0)))::.s (.mv (.s 0))::.p .push (some ((.s 0),true)) (.mv (.t (.of 7)))::.p .push (some ((.s 1),true)) (.mv (.t (.of 16)))::.w .push (some ((.s 2),true)) (.call (.c (.fn 25 (.of 25) [])) [(.s 1),(.s 0)])::r) C ⟨(F4.fr L M P W G H Q U V Z a b i c j d l e y z A B D f g o p q s u w E F v),[]⟩ h nx Kt =
 zh .add .int f g fun v1=>zh .eql .int v1 (I 0) fun v2=>sG v2 true (fun k=>k U) fun v3=>sG v2 true (fun k=>k l) fun v4=>sGW v2 true (fun k=>C.fn 25 (.of 25) [v3,v4] h nx k) h nx fun v5 h6 n7=>yR r C ⟨(F4.fr L M P W G H Q U V Z a b i c j d l e y z A B D f g o p q s u w E F v),v5::v4::v3::v2::v2::v1::g::f::[]⟩ h6 n7 Kt:=by kernel_rfl
theorem F4.zsz:yR (.s (.pick (.s 3) (.s 0) (.c (.bool false)))::.s (.mv (.s 0))::.w .push (some ((.s 0),true)) (.call (.c (.fn 18 (.of 18) [])) [])::r) C ⟨(F4.fr L M P W G H Q U V Z a b i c j d l e y z A B D f g o p q s u w E F v),s0::s1::s2::s3::s4::s5::s6::s7::[]⟩ h nx Kt =
 jE s3 s0 (.bool false) fun v1=>sGW v1 true (fun k=>C.fn 18 (.of 18) [] h nx k) h nx fun v2 h3 n4=>yR r C ⟨(F4.fr L M P W G H Q U V Z a b i c j d l e y z A B D f g o p q s u w E F v),v2::v1::v1::s0::s1::s2::s3::s4::s5::s6::s7::[]⟩ h3 n4 Kt:=by kernel_rfl
theorem F4.zs3:yR (.s (.pick (.s 1) (.s 0) (.c (.bool false)))::.q (.of 3) (.mv (.s 0))::[]) C ⟨(F4.fr L M P W G H Q U V Z a b i c j d l e y z A B D f g o p q s u w E F v),s0::s1::s2::s3::s4::s5::s6::s7::s8::s9::s10::[]⟩ h nx Kt =
 jE s1 s0 (.bool false) fun v1=>Kt ⟨(F4.fr L M P v1 G H Q U V Z a b i c j d l e y z A B D f g o p q s u w E F v),v1::s0::s1::s2::s3::s4::s5::s6::s7::s8::s9::s10::[]⟩ h nx:=by kernel_rfl
theorem F4.tab:T.get none (.of 4) tbl=some F4:=by kernel_rfl
theorem F4.bind (k:T AV->OP):yP F4.params [a0,a1] F4.init k=k (F4.fr a0 a1 .u .u .u .u .u .u .u .u .u .u .u .u .u .u .u .u .u .u .u .u .u .u .u .u .u .u .u .u .u .u .u .u):=by kernel_rfl
theorem F4.jo:F4.body=F4.t72:=by kernel_rfl
theorem F4.go:zQ tbl N C (.of 4) [a0,a1] h nx K0=IR.run F4.t72 C N (fnO F4.res K0) (jq F4.res K0) (F4.fr a0 a1 .u .u .u .u .u .u .u .u .u .u .u .u .u .u .u .u .u .u .u .u .u .u .u .u .u .u .u .u .u .u .u .u) h nx:=by
 rw [zK F4.tab,F4.bind,F4.jo];kernel_rfl
theorem F4.ret:jq F4.res K0 (F4.fr L M P W G H Q U V Z a b i c j d l e y z A B D f g o p q s u w E F v) h nx=K0 W h nx:=by kernel_rfl
end
end Go.Ev
