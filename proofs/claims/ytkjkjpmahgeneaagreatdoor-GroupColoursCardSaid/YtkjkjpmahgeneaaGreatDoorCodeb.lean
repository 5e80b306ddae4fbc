import Derived.Test.YtkjkjpmahgeneaaGreatDoorIrT
import Derived.Test.YtkjkjpmahgeneaaGreatDoorEvD
import Derived.KernelRfl
set_option linter.unusedSimpArgs false
set_option linter.unusedVariables false
noncomputable section
namespace Go.Ev
open Go Go.Proofs
set_option maxRecDepth 100000
section
variable {N:Nat} {C:Calls Prop} {K0:Kw Prop} {K:Ks Prop} {h:T Blk} {nx:Pa} {F E L V G U H P M Q e f g i A B l o a b j q s c d p u v w z D y a0 a1 a2:AV} {O:uq Prop} {tm:T AV} {Kt:KTm} {r:List RO} {s0 s1 s2 s3 s4 s5 s6 s7 s8 s9 s10 s11 s12 s13 s14 s15 s16 s17 s18 s19 s20 s21 s22 s23 s24 s25 s26 s27 s28 s29 s30 s31 s32 s33 s34 s35 s36 s37 s38 s39 s40 s41 s42 s43 s44 s45 s46 s47 s48 s49 s50 s51 s52 s53 s54 s55 s56 s57 s58 s59:AV}
def F8.t0:IR:=.reg [.q (.of 3) (.mv (.c (.bool false)))]
def F8.t1:IR:=.reg [.s (.mv (.t (.of 2))),.s (.conv .i64 (.s 0)),.s (.bin .rem .int (.s 0) (.c (I 4))),.q (.of 4) (.mv (.s 0))]
def F8.r2_3:List RO:=.p .push (some ((.s 3),false)) (.not (.s 0))::.q (.of 18) (.pick (.s 4) (.c (.bool true)) (.s 0))::[]
def F8.r2_2:List RO:=.s (.pick (.s 2) (.c (.bool true)) (.s 0))::.s (.mv (.s 0))::.p .push (some ((.s 0),false)) (.mv (.t (.of 0)))::.p .push (some ((.s 1),false)) (.mv (.t (.of 1)))::.w .push (some ((.s 2),false)) (.call (.c (.fn 45 (.of 45) [])) [(.s 1),(.s 0),(.c (I 24))])::F8.r2_3
def F8.r2_1:List RO:=.s (.not (.s 0))::.s (.mv (.s 0))::.p .push (some ((.s 0),false)) (.mv (.t (.of 1)))::.p .push (some ((.s 1),false)) (.bin .lss .int (.s 0) (.c (I 0)))::.s (.pick (.s 2) (.c (.bool true)) (.s 0))::.s (.mv (.s 0))::.p .push (some ((.s 0),false)) (.mv (.t (.of 1)))::.p .push (some ((.s 1),false)) (.bin .gtr .int (.s 0) (.c (I 4)))::F8.r2_2
def F8.r2_0:List RO:=.w .push none (.call (.c (.fn 18 (.of 18) [])) [])::F8.r2_1
def F8.t2:IR:=.reg F8.r2_0
def F8.t3:IR:=.reg [.w .push none (.call (.c (.fn 18 (.of 18) [])) []),.q (.of 3) (.mv (.s 0))]
def F8.t4:IR:=.seq F8.t3 .ret
def F8.t5:IR:=.cond (.t (.of 18)) F8.t4 .skip
def F8.t6:IR:=.seq F8.t2 F8.t5
def F8.t7:IR:=.reg [.s (.mv (.t (.of 0))),.q (.of 19) (.len (.s 0)),.q (.of 20) (.mv (.c (I 0)))]
def F8.t8:IR:=.reg [.q (.of 21) (.bin .lss .int (.t (.of 20)) (.t (.of 19)))]
def F8.t9:IR:=.cond (.t (.of 21)) .skip (.exit 0)
def F8.t10:IR:=.reg [.s (.mv (.t (.of 20))),.q (.of 5) (.mv (.s 0))]
def F8.t11:IR:=.reg [.s (.mv (.t (.of 0))),.s (.mv (.t (.of 5))),.s (.zo 2 (.s 1) (.s 0)),.s (.zu 1 (.s 0)),.q (.of 22) (.load (.s 0))]
def F8.t12:IR:=.reg [.q (.of 3) (.mv (.c (.bool true)))]
def F8.t13:IR:=.seq F8.t12 .ret
def F8.t14:IR:=.cond (.t (.of 22)) F8.t13 .skip
def F8.t15:IR:=.seq F8.t11 F8.t14
def F8.t16:IR:=.seq F8.t10 F8.t15
def F8.t17:IR:=.block 1 F8.t16
def F8.t18:IR:=.reg [.s (.bin .add .int (.t (.of 20)) (.c (I 1))),.q (.of 20) (.mv (.s 0))]
def F8.t19:IR:=.seq F8.t17 F8.t18
def F8.t20:IR:=.seq F8.t9 F8.t19
def F8.t21:IR:=.seq F8.t8 F8.t20
def F8.t22:IR:=.loop F8.t21
def F8.t23:IR:=.block 0 F8.t22
def F8.t24:IR:=.seq F8.t7 F8.t23
def F8.t25:IR:=.reg [.s (.mv (.t (.of 0))),.s (.mv (.t (.of 1))),.s (.mv (.t (.of 4))),.w .push none (.call (.c (.fn 36 (.of 36) [])) [(.s 2),(.s 1),(.s 0)]),.s (.mv (.s 0)),.s (.ext 0 (.s 0)),.s (.ext 1 (.s 1)),.q (.of 6) (.mv (.s 1)),.q (.of 7) (.mv (.s 0))]
def F8.t26:IR:=.reg [.s (.mv (.t (.of 1))),.w .push none (.call (.c (.fn 31 (.of 31) [])) [(.s 0)]),.w .push none (.zy 2 1 [.zf,(.bool false)] [(0,2,(.s 0))]),.s (.mv (.t (.of 1))),.s (.mv (.t (.of 4))),.w .push none (.call (.c (.fn 36 (.of 36) [])) [(.s 2),(.s 1),(.s 0)]),.s (.mv (.s 0)),.s (.ext 0 (.s 0)),.s (.ext 1 (.s 1)),.q (.of 8) (.mv (.s 1)),.q (.of 9) (.mv (.s 0))]
def F8.t27:IR:=.reg [.s (.mv (.t (.of 7))),.s (.mv (.t (.of 9))),.s (.bin .add .int (.s 1) (.s 0)),.s (.bin .neq .int (.s 0) (.c (I 0))),.s (.mv (.s 0)),.p .push (some ((.s 0),false)) (.mv (.t (.of 6))),.w .push (some ((.s 1),false)) (.call (.c (.fn 46 (.of 46) [])) [(.s 0)]),.p .push (some ((.s 2),false)) (.bin .neq .int (.s 0) (.c (I 0))),.q (.of 23) (.pick (.s 3) (.c (.bool true)) (.s 0))]
def F8.t28:IR:=.reg [.q (.of 3) (.mv (.c (.bool false)))]
def F8.t29:IR:=.seq F8.t28 .ret
def F8.t30:IR:=.cond (.t (.of 23)) F8.t29 .skip
def F8.t31:IR:=.seq F8.t27 F8.t30
def F8.t32:IR:=.reg [.q (.of 10) (.mv (.c (I 1)))]
def F8.t33:IR:=.reg [.q (.of 24) (.mv (.t (.of 1))),.q (.of 25) (.mv (.c (I 0)))]
def F8.t34:IR:=.reg [.q (.of 26) (.bin .lss .int (.t (.of 25)) (.t (.of 24)))]
def F8.t35:IR:=.cond (.t (.of 26)) .skip (.exit 2)
def F8.t36:IR:=.reg [.s (.mv (.t (.of 10))),.s (.mv (.t (.of 4))),.s (.bin .mul .int (.s 1) (.s 0)),.q (.of 10) (.mv (.s 0))]
def F8.t37:IR:=.block 3 F8.t36
def F8.t38:IR:=.reg [.s (.bin .add .int (.t (.of 25)) (.c (I 1))),.q (.of 25) (.mv (.s 0))]
def F8.t39:IR:=.seq F8.t37 F8.t38
def F8.t40:IR:=.seq F8.t35 F8.t39
def F8.t41:IR:=.seq F8.t34 F8.t40
def F8.t42:IR:=.loop F8.t41
def F8.t43:IR:=.block 2 F8.t42
def F8.t44:IR:=.seq F8.t33 F8.t43
def F8.t45:IR:=.reg [.q (.of 11) (.mv (.c .zf))]
def F8.t46:IR:=.reg [.q (.of 12) (.mv (.c (I 0)))]
def F8.t47:IR:=.reg [.s (.mv (.t (.of 12))),.s (.mv (.t (.of 10))),.q (.of 27) (.bin .lss .int (.s 1) (.s 0))]
def F8.t48:IR:=.cond (.t (.of 27)) .skip (.exit 4)
def F8.t49:IR:=.seq F8.t47 F8.t48
def F8.t50:IR:=.reg [.s (.mv (.t (.of 1))),.w .push none (.gy 1 8 [(I 0)] (.s 0) (.s 0)),.q (.of 13) (.mv (.s 0))]
def F8.t51:IR:=.reg [.s (.mv (.t (.of 12))),.q (.of 14) (.mv (.s 0))]
def F8.t52:IR:=.reg [.s (.mv (.t (.of 13))),.q (.of 28) (.len (.s 0)),.q (.of 29) (.mv (.c (I 0)))]
def F8.t53:IR:=.reg [.q (.of 30) (.bin .lss .int (.t (.of 29)) (.t (.of 28)))]
def F8.t54:IR:=.cond (.t (.of 30)) .skip (.exit 6)
def F8.t55:IR:=.reg [.s (.mv (.t (.of 29))),.q (.of 15) (.mv (.s 0))]
def F8.t56:IR:=.reg [.s (.mv (.t (.of 13))),.s (.mv (.t (.of 15))),.s (.mv (.t (.of 14))),.s (.mv (.t (.of 4))),.s (.bin .rem .int (.s 1) (.s 0)),.s (.bin .add .int (.c (I 1)) (.s 0)),.s (.zo 1 (.s 5) (.s 4)),.w .none none (.store 1 (.s 0) (.s 1))]
def F8.t57:IR:=.reg [.s (.mv (.t (.of 14))),.s (.mv (.t (.of 4))),.s (.bin .quo .int (.s 1) (.s 0)),.q (.of 14) (.mv (.s 0))]
def F8.t58:IR:=.seq F8.t56 F8.t57
def F8.t59:IR:=.seq F8.t55 F8.t58
def F8.t60:IR:=.block 7 F8.t59
def F8.t61:IR:=.reg [.s (.bin .add .int (.t (.of 29)) (.c (I 1))),.q (.of 29) (.mv (.s 0))]
def F8.t62:IR:=.seq F8.t60 F8.t61
def F8.t63:IR:=.seq F8.t54 F8.t62
def F8.t64:IR:=.seq F8.t53 F8.t63
def F8.t65:IR:=.loop F8.t64
def F8.t66:IR:=.block 6 F8.t65
def F8.t67:IR:=.seq F8.t52 F8.t66
def F8.t68:IR:=.reg [.s (.mv (.t (.of 0))),.s (.mv (.t (.of 13))),.w .push none (.call (.c (.fn 47 (.of 47) [])) [(.s 1),(.s 0)]),.s (.mv (.s 0)),.s (.ext 0 (.s 0)),.s (.ext 1 (.s 1)),.q (.of 16) (.mv (.s 1)),.q (.of 17) (.mv (.s 0))]
def F8.zm3:List RO:=.s (.mv (.t (.of 17)))::.s (.bin .neq .int (.s 0) (.c (I 0)))::.s (.mv (.s 0))::.p .push (some ((.s 0),false)) (.mv (.t (.of 16)))::.p .push (some ((.s 1),false)) (.len (.s 0))::.p .push (some ((.s 2),false)) (.mv (.t (.of 1)))::.p .push (some ((.s 3),false)) (.bin .neq .int (.s 1) (.s 0))::.q (.of 31) (.pick (.s 4) (.c (.bool true)) (.s 0))::[]
def F8.t69:IR:=.reg F8.zm3
def F8.t70:IR:=.reg [.q (.of 3) (.mv (.c (.bool false)))]
def F8.t71:IR:=.seq F8.t70 .ret
def F8.t72:IR:=.cond (.t (.of 31)) F8.t71 .skip
def F8.t73:IR:=.seq F8.t69 F8.t72
def F8.t74:IR:=.reg [.s (.mv (.t (.of 11))),.s (.mv (.t (.of 16))),.w .push none (.call (.c (.fn 48 (.of 48) [])) [(.s 1),(.s 0)]),.q (.of 11) (.mv (.s 0))]
def F8.t75:IR:=.seq F8.t73 F8.t74
def F8.t76:IR:=.seq F8.t68 F8.t75
def F8.t77:IR:=.seq F8.t67 F8.t76
def F8.t78:IR:=.seq F8.t51 F8.t77
def F8.t79:IR:=.seq F8.t50 F8.t78
def F8.t80:IR:=.block 5 F8.t79
def F8.t81:IR:=.reg [.s (.mv (.t (.of 12))),.s (.bin .add .int (.s 0) (.c (I 1))),.q (.of 12) (.mv (.s 0))]
def F8.t82:IR:=.seq F8.t80 F8.t81
def F8.t83:IR:=.seq F8.t49 F8.t82
def F8.t84:IR:=.loop F8.t83
def F8.t85:IR:=.block 4 F8.t84
def F8.t86:IR:=.seq F8.t46 F8.t85
def F8.zs9:List RO:=.p .push (some ((.s 3),true)) (.bin .leq .int (.s 0) (.c (I 0)))::.s (.pick (.s 4) (.s 0) (.c (.bool false)))::.q (.of 3) (.mv (.s 0))::[]
def F8.zta:List RO:=.p .push (some ((.s 3),true)) (.bin .eql .str (.s 2) (.s 0))::.s (.pick (.s 4) (.s 0) (.c (.bool false)))::.s (.mv (.s 0))::.p .push (some ((.s 0),true)) (.mv (.t (.of 6)))::.p .push (some ((.s 1),true)) (.mv (.t (.of 8)))::.w .push (some ((.s 2),true)) (.call (.c (.fn 50 (.of 50) [])) [(.s 1),(.s 0)])::F8.zs9
def F8.ztb:List RO:=.s (.bin .eql .str (.s 3) (.s 0))::.s (.mv (.s 0))::.p .push (some ((.s 0),true)) (.mv (.t (.of 8)))::.p .push (some ((.s 1),true)) (.mv (.t (.of 10)))::.w .push (some ((.s 2),true)) (.call (.c (.fn 49 (.of 49) [])) [(.s 0)])::F8.zta
def F8.zm4:List RO:=.s (.mv (.t (.of 6)))::.s (.mv (.t (.of 11)))::.s (.len (.s 0))::.w .push none (.call (.c (.fn 49 (.of 49) [])) [(.s 0)])::F8.ztb
def F8.t87:IR:=.reg F8.zm4
def F8.t88:IR:=.seq F8.t87 .ret
def F8.t89:IR:=.seq F8.t86 F8.t88
def F8.t90:IR:=.seq F8.t45 F8.t89
def F8.t91:IR:=.seq F8.t44 F8.t90
def F8.t92:IR:=.seq F8.t32 F8.t91
def F8.t93:IR:=.seq F8.t31 F8.t92
def F8.t94:IR:=.seq F8.t26 F8.t93
def F8.t95:IR:=.seq F8.t25 F8.t94
def F8.t96:IR:=.seq F8.t24 F8.t95
def F8.t97:IR:=.seq F8.t6 F8.t96
def F8.t98:IR:=.seq F8.t1 F8.t97
def F8.t99:IR:=.seq F8.t0 F8.t98
theorem F8.xq:IR.run F8.t0 C N O K (F8.fr F E L V G U H P M Q e f g i A B l o a b j q s c d p u v w z D y) h nx =
 K (F8.fr F E L (.bool false) G U H P M Q e f g i A B l o a b j q s c d p u v w z D y) h nx:=by kernel_rfl
theorem F8.xu:IR.run F8.t1 C N O K (F8.fr F E L V G U H P M Q e f g i A B l o a b j q s c d p u v w z D y) h nx =
 zfl .i64 L fun v1=>zx .rem .int v1 (I 4) fun v2=>K (F8.fr F E L V v2 U H P M Q e f g i A B l o a b j q s c d p u v w z D y) h nx:=by kernel_rfl
theorem F8.fO:IR.run F8.t2 C N O K tm h nx=y0 F8.r2_0 C ⟨tm,[]⟩ h nx (fun tm h nx=>K tm.v h nx):=qT ..
theorem F8.zhk:y0 (.w .push none (.call (.c (.fn 18 (.of 18) [])) [])::r) C ⟨(F8.fr F E L V G U H P M Q e f g i A B l o a b j q s c d p u v w z D y),[]⟩ h nx Kt =
 C.fn 18 (.of 18) [] h nx fun v1 h2 n3=>y0 r C ⟨(F8.fr F E L V G U H P M Q e f g i A B l o a b j q s c d p u v w z D y),v1::[]⟩ h2 n3 Kt:=by kernel_rfl
theorem F8.zeg:y0 (.s (.not (.s 0))::.s (.mv (.s 0))::.p .push (some ((.s 0),false)) (.mv (.t (.of 1)))::.p .push (some ((.s 1),false)) (.bin .lss .int (.s 0) (.c (I 0)))::.s (.pick (.s 2) (.c (.bool true)) (.s 0))::.s (.mv (.s 0))::.p .push (some ((.s 0),false)) (.mv (.t (.of 1)))::.p .push (some ((.s 1),false)) (.bin .gtr .int (.s 0) (.c (I 4)))::r) C ⟨(F8.fr F E L V G U H P M Q e f g i A B l o a b j q s c d p u v w z D y),s0::[]⟩ h nx Kt =
 sNot s0 fun v1=>sG v1 false (fun k=>k E) fun v2=>sG v1 false (fun k=>zx .lss .int v2 (I 0) k) fun v3=>jS v1 (.bool true) v3 fun v4=>sG v4 false (fun k=>k E) fun v5=>sG v4 false (fun k=>zx .gtr .int v5 (I 4) k) fun v6=>y0 r C ⟨(F8.fr F E L V G U H P M Q e f g i A B l o a b j q s c d p u v w z D y),v6::v5::v4::v4::v3::v2::v1::v1::s0::[]⟩ h nx Kt:=by kernel_rfl
theorem F8.zay:y0 (.s (.pick (.s 2) (.c (.bool true)) (.s 0))::.s (.mv (.s 0))::.p .push (some ((.s 0),false)) (.mv (.t (.of 0)))::.p .push (some ((.s 1),false)) (.mv (.t (.of 1)))::.w .push (some ((.s 2),false)) (.call (.c (.fn 45 (.of 45) [])) [(.s 1),(.s 0),(.c (I 24))])::r) C ⟨(F8.fr F E L V G U H P M Q e f g i A B l o a b j q s c d p u v w z D y),s0::s1::s2::s3::s4::s5::s6::s7::s8::[]⟩ h nx Kt =
 jS s2 (.bool true) s0 fun v1=>sG v1 false (fun k=>k F) fun v2=>sG v1 false (fun k=>k E) fun v3=>sGW v1 false (fun k=>C.fn 45 (.of 45) [v2,v3,(I 24)] h nx k) h nx fun v4 h5 n6=>y0 r C ⟨(F8.fr F E L V G U H P M Q e f g i A B l o a b j q s c d p u v w z D y),v4::v3::v2::v1::v1::s0::s1::s2::s3::s4::s5::s6::s7::s8::[]⟩ h5 n6 Kt:=by kernel_rfl
theorem F8.zhn:y0 (.p .push (some ((.s 3),false)) (.not (.s 0))::.q (.of 18) (.pick (.s 4) (.c (.bool true)) (.s 0))::[]) C ⟨(F8.fr F E L V G U H P M Q e f g i A B l o a b j q s c d p u v w z D y),s0::s1::s2::s3::s4::s5::s6::s7::s8::s9::s10::s11::s12::s13::[]⟩ h nx Kt =
 sG s3 false (fun k=>sNot s0 k) fun v1=>jS s3 (.bool true) v1 fun v2=>Kt ⟨(F8.fr F E L V G U H P M Q e f g i A B l o v2 b j q s c d p u v w z D y),v1::s0::s1::s2::s3::s4::s5::s6::s7::s8::s9::s10::s11::s12::s13::[]⟩ h nx:=by kernel_rfl
theorem F8.rY:IR.run F8.t3 C N O K (F8.fr F E L V G U H P M Q e f g i A B l o a b j q s c d p u v w z D y) h nx =
 C.fn 18 (.of 18) [] h nx fun v1 h2 n3=>K (F8.fr F E L v1 G U H P M Q e f g i A B l o a b j q s c d p u v w z D y) h2 n3:=by kernel_rfl
theorem F8.v18:Arg.ev (.t (.of 18)) ⟨(F8.fr F E L V G U H P M Q e f g i A B l o a b j q s c d p u v w z D y),[]⟩=a:=by kernel_rfl
theorem F8.t7_s:IR.run F8.t7 C N O K (F8.fr F E L V G U H P M Q e f g i A B l o a b j q s c d p u v w z D y) h nx =
 sLen F fun v1=>K (F8.fr F E L V G U H P M Q e f g i A B l o a v1 (I 0) q s c d p u v w z D y) h nx:=by kernel_rfl
theorem F8.eX:IR.run F8.t8 C N O K (F8.fr F E L V G U H P M Q e f g i A B l o a b j q s c d p u v w z D y) h nx =
 zx .lss .int j b fun v1=>K (F8.fr F E L V G U H P M Q e f g i A B l o a b j v1 s c d p u v w z D y) h nx:=by kernel_rfl
theorem F8.v21:Arg.ev (.t (.of 21)) ⟨(F8.fr F E L V G U H P M Q e f g i A B l o a b j q s c d p u v w z D y),[]⟩=q:=by kernel_rfl
theorem F8.sN:IR.run F8.t10 C N O K (F8.fr F E L V G U H P M Q e f g i A B l o a b j q s c d p u v w z D y) h nx =
 K (F8.fr F E L V G j H P M Q e f g i A B l o a b j q s c d p u v w z D y) h nx:=by kernel_rfl
theorem F8.aZ:IR.run F8.t11 C N O K (F8.fr F E L V G U H P M Q e f g i A B l o a b j q s c d p u v w z D y) h nx =
 zS 2 F U fun v1=>zQ 1 v1 fun v2=>zF v2 h fun v3=>K (F8.fr F E L V G U H P M Q e f g i A B l o a b j q v3 c d p u v w z D y) h nx:=by kernel_rfl
theorem F8.zam:IR.run F8.t12 C N O K (F8.fr F E L V G U H P M Q e f g i A B l o a b j q s c d p u v w z D y) h nx =
 K (F8.fr F E L (.bool true) G U H P M Q e f g i A B l o a b j q s c d p u v w z D y) h nx:=by kernel_rfl
theorem F8.v22:Arg.ev (.t (.of 22)) ⟨(F8.fr F E L V G U H P M Q e f g i A B l o a b j q s c d p u v w z D y),[]⟩=s:=by kernel_rfl
theorem F8.zak:IR.run F8.t18 C N O K (F8.fr F E L V G U H P M Q e f g i A B l o a b j q s c d p u v w z D y) h nx =
 zx .add .int j (I 1) fun v1=>K (F8.fr F E L V G U H P M Q e f g i A B l o a b v1 q s c d p u v w z D y) h nx:=by kernel_rfl
theorem F8.zwv (Inv:Nat->AV->T Blk->Pa->Prop) {m:Nat} (hm:m<N) (hi:Inv m j h nx)
  (step:∀ (m:Nat) (z3 z5 zA zB zC:AV) (h:T Blk) (nx:Pa) (R:Ks Prop),Inv m zA h nx->(∀ (m':Nat) (w3 w5 wA wB wC:AV) (h':T Blk) (nx':Pa),m'<m->Inv m' wA h' nx'->R (F8.fr F E L w3 G w5 H P M Q e f g i A B l o a b wA wB wC c d p u v w z D y) h' nx'=.ok True)->IR.run F8.t21 C N O R (F8.fr F E L z3 G z5 H P M Q e f g i A B l o a b zA zB zC c d p u v w z D y) h nx=.ok True) :
  IR.run F8.t22 C N O K (F8.fr F E L V G U H P M Q e f g i A B l o a b j q s c d p u v w z D y) h nx=.ok True:=by
 rw [F8.t22];refine yK (fun m tm h nx=>∃ z3 z5 zA zB zC,tm=(F8.fr F E L z3 G z5 H P M Q e f g i A B l o a b zA zB zC c d p u v w z D y)/\Inv m zA h nx) ?_ hm ⟨_,_,_,_,_,rfl,hi⟩;rintro m tm h nx R ⟨z3,z5,zA,zB,zC,rfl,hi⟩ hR;exact step m z3 z5 zA zB zC h nx R hi fun m' w3 w5 wA wB wC h' nx' hlt hi'=>hR m' _ h' nx' hlt ⟨_,_,_,_,_,rfl,hi'⟩
theorem F8.zww:IR.run F8.t25 C N O K (F8.fr F E L V G U H P M Q e f g i A B l o a b j q s c d p u v w z D y) h nx =
 C.fn 36 (.of 36) [F,E,G] h nx fun v1 h2 n3=>bY 0 v1 fun v4=>bY 1 v1 fun v5=>K (F8.fr F E L V G U v4 v5 M Q e f g i A B l o a b j q s c d p u v w z D y) h2 n3:=by kernel_rfl
theorem F8.zwx:IR.run F8.t26 C N O K (F8.fr F E L V G U H P M Q e f g i A B l o a b j q s c d p u v w z D y) h nx =
 C.fn 31 (.of 31) [E] h nx fun v1 h2 n3=>jA 2 1 [.zf,(.bool false)] [(0,2,v1)] h2 n3 fun v4 h5 n6=>C.fn 36 (.of 36) [v4,E,G] h5 n6 fun v7 h8 n9=>bY 0 v7 fun vA=>bY 1 v7 fun vB=>K (F8.fr F E L V G U H P vA vB e f g i A B l o a b j q s c d p u v w z D y) h8 n9:=by kernel_rfl
theorem F8.zwy:IR.run F8.t27 C N O K (F8.fr F E L V G U H P M Q e f g i A B l o a b j q s c d p u v w z D y) h nx =
 zx .add .int P Q fun v1=>zx .neq .int v1 (I 0) fun v2=>sG v2 false (fun k=>k H) fun v3=>sGW v2 false (fun k=>C.fn 46 (.of 46) [v3] h nx k) h nx fun v4 h5 n6=>sG v2 false (fun k=>zx .neq .int v4 (I 0) k) fun v7=>jS v2 (.bool true) v7 fun v8=>K (F8.fr F E L V G U H P M Q e f g i A B l o a b j q s v8 d p u v w z D y) h5 n6:=by kernel_rfl
theorem F8.v23:Arg.ev (.t (.of 23)) ⟨(F8.fr F E L V G U H P M Q e f g i A B l o a b j q s c d p u v w z D y),[]⟩=c:=by kernel_rfl
theorem F8.zwz:IR.run F8.t32 C N O K (F8.fr F E L V G U H P M Q e f g i A B l o a b j q s c d p u v w z D y) h nx =
 K (F8.fr F E L V G U H P M Q (I 1) f g i A B l o a b j q s c d p u v w z D y) h nx:=by kernel_rfl
theorem F8.zw0:IR.run F8.t33 C N O K (F8.fr F E L V G U H P M Q e f g i A B l o a b j q s c d p u v w z D y) h nx =
 K (F8.fr F E L V G U H P M Q e f g i A B l o a b j q s c E (I 0) u v w z D y) h nx:=by kernel_rfl
theorem F8.zw1:IR.run F8.t34 C N O K (F8.fr F E L V G U H P M Q e f g i A B l o a b j q s c d p u v w z D y) h nx =
 zx .lss .int p d fun v1=>K (F8.fr F E L V G U H P M Q e f g i A B l o a b j q s c d p v1 v w z D y) h nx:=by kernel_rfl
theorem F8.v26:Arg.ev (.t (.of 26)) ⟨(F8.fr F E L V G U H P M Q e f g i A B l o a b j q s c d p u v w z D y),[]⟩=u:=by kernel_rfl
theorem F8.zw2:IR.run F8.t36 C N O K (F8.fr F E L V G U H P M Q e f g i A B l o a b j q s c d p u v w z D y) h nx =
 zx .mul .int e G fun v1=>K (F8.fr F E L V G U H P M Q v1 f g i A B l o a b j q s c d p u v w z D y) h nx:=by kernel_rfl
theorem F8.zfo:IR.run F8.t38 C N O K (F8.fr F E L V G U H P M Q e f g i A B l o a b j q s c d p u v w z D y) h nx =
 zx .add .int p (I 1) fun v1=>K (F8.fr F E L V G U H P M Q e f g i A B l o a b j q s c d v1 u v w z D y) h nx:=by kernel_rfl
theorem F8.zw3 (Inv:Nat->AV->AV->T Blk->Pa->Prop) {m:Nat} (hm:m<N) (hi:Inv m e p h nx)
  (step:∀ (m:Nat) (zD zE zG:AV) (h:T Blk) (nx:Pa) (R:Ks Prop),Inv m zD zE h nx->(∀ (m':Nat) (wD wE wF:AV) (h':T Blk) (nx':Pa),m'<m->Inv m' wD wE h' nx'->R (F8.fr F E L V G U H P M Q wD f g i A B l o a b j q s c d wE wF v w z D y) h' nx'=.ok True)->IR.run F8.t41 C N O R (F8.fr F E L V G U H P M Q zD f g i A B l o a b j q s c d zE zG v w z D y) h nx=.ok True) :
  IR.run F8.t42 C N O K (F8.fr F E L V G U H P M Q e f g i A B l o a b j q s c d p u v w z D y) h nx=.ok True:=by
 rw [F8.t42];refine yK (fun m tm h nx=>∃ zD zE zG,tm=(F8.fr F E L V G U H P M Q zD f g i A B l o a b j q s c d zE zG v w z D y)/\Inv m zD zE h nx) ?_ hm ⟨_,_,_,rfl,hi⟩;rintro m tm h nx R ⟨zD,zE,zG,rfl,hi⟩ hR;exact step m zD zE zG h nx R hi fun m' wD wE wF h' nx' hlt hi'=>hR m' _ h' nx' hlt ⟨_,_,_,rfl,hi'⟩
theorem F8.zw4:IR.run F8.t45 C N O K (F8.fr F E L V G U H P M Q e f g i A B l o a b j q s c d p u v w z D y) h nx =
 K (F8.fr F E L V G U H P M Q e .zf g i A B l o a b j q s c d p u v w z D y) h nx:=by kernel_rfl
theorem F8.zw5:IR.run F8.t46 C N O K (F8.fr F E L V G U H P M Q e f g i A B l o a b j q s c d p u v w z D y) h nx =
 K (F8.fr F E L V G U H P M Q e f (I 0) i A B l o a b j q s c d p u v w z D y) h nx:=by kernel_rfl
theorem F8.zw6:IR.run F8.t47 C N O K (F8.fr F E L V G U H P M Q e f g i A B l o a b j q s c d p u v w z D y) h nx =
 zx .lss .int g e fun v1=>K (F8.fr F E L V G U H P M Q e f g i A B l o a b j q s c d p u v1 w z D y) h nx:=by kernel_rfl
theorem F8.v27:Arg.ev (.t (.of 27)) ⟨(F8.fr F E L V G U H P M Q e f g i A B l o a b j q s c d p u v w z D y),[]⟩=v:=by kernel_rfl
theorem F8.zw7:IR.run F8.t50 C N O K (F8.fr F E L V G U H P M Q e f g i A B l o a b j q s c d p u v w z D y) h nx =
 gU 1 8 [(I 0)] E E h nx fun v1 h2 n3=>K (F8.fr F E L V G U H P M Q e f g v1 A B l o a b j q s c d p u v w z D y) h2 n3:=by kernel_rfl
theorem F8.zw8:IR.run F8.t51 C N O K (F8.fr F E L V G U H P M Q e f g i A B l o a b j q s c d p u v w z D y) h nx =
 K (F8.fr F E L V G U H P M Q e f g i g B l o a b j q s c d p u v w z D y) h nx:=by kernel_rfl
theorem F8.zw9:IR.run F8.t52 C N O K (F8.fr F E L V G U H P M Q e f g i A B l o a b j q s c d p u v w z D y) h nx =
 sLen i fun v1=>K (F8.fr F E L V G U H P M Q e f g i A B l o a b j q s c d p u v v1 (I 0) D y) h nx:=by kernel_rfl
theorem F8.zxa:IR.run F8.t53 C N O K (F8.fr F E L V G U H P M Q e f g i A B l o a b j q s c d p u v w z D y) h nx =
 zx .lss .int z w fun v1=>K (F8.fr F E L V G U H P M Q e f g i A B l o a b j q s c d p u v w z v1 y) h nx:=by kernel_rfl
theorem F8.v30:Arg.ev (.t (.of 30)) ⟨(F8.fr F E L V G U H P M Q e f g i A B l o a b j q s c d p u v w z D y),[]⟩=D:=by kernel_rfl
theorem F8.zxb:IR.run F8.t55 C N O K (F8.fr F E L V G U H P M Q e f g i A B l o a b j q s c d p u v w z D y) h nx =
 K (F8.fr F E L V G U H P M Q e f g i A z l o a b j q s c d p u v w z D y) h nx:=by kernel_rfl
theorem F8.zxc:IR.run F8.t56 C N O K (F8.fr F E L V G U H P M Q e f g i A B l o a b j q s c d p u v w z D y) h nx =
 zx .rem .int A G fun v1=>zx .add .int (I 1) v1 fun v2=>zS 1 i B fun v3=>zM 1 v3 v2 h nx fun v4 h5 n6=>K (F8.fr F E L V G U H P M Q e f g i A B l o a b j q s c d p u v w z D y) h5 n6:=by kernel_rfl
theorem F8.zxd:IR.run F8.t57 C N O K (F8.fr F E L V G U H P M Q e f g i A B l o a b j q s c d p u v w z D y) h nx =
 zx .quo .int A G fun v1=>K (F8.fr F E L V G U H P M Q e f g i v1 B l o a b j q s c d p u v w z D y) h nx:=by kernel_rfl
theorem F8.zxe:IR.run F8.t61 C N O K (F8.fr F E L V G U H P M Q e f g i A B l o a b j q s c d p u v w z D y) h nx =
 zx .add .int z (I 1) fun v1=>K (F8.fr F E L V G U H P M Q e f g i A B l o a b j q s c d p u v w v1 D y) h nx:=by kernel_rfl
theorem F8.zxf (Inv:Nat->AV->AV->T Blk->Pa->Prop) {m:Nat} (hm:m<N) (hi:Inv m A z h nx)
  (step:∀ (m:Nat) (zH zI zK zL:AV) (h:T Blk) (nx:Pa) (R:Ks Prop),Inv m zH zK h nx->(∀ (m':Nat) (wG wH wI wJ:AV) (h':T Blk) (nx':Pa),m'<m->Inv m' wG wI h' nx'->R (F8.fr F E L V G U H P M Q e f g i wG wH l o a b j q s c d p u v w wI wJ y) h' nx'=.ok True)->IR.run F8.t64 C N O R (F8.fr F E L V G U H P M Q e f g i zH zI l o a b j q s c d p u v w zK zL y) h nx=.ok True) :
  IR.run F8.t65 C N O K (F8.fr F E L V G U H P M Q e f g i A B l o a b j q s c d p u v w z D y) h nx=.ok True:=by
 rw [F8.t65];refine yK (fun m tm h nx=>∃ zH zI zK zL,tm=(F8.fr F E L V G U H P M Q e f g i zH zI l o a b j q s c d p u v w zK zL y)/\Inv m zH zK h nx) ?_ hm ⟨_,_,_,_,rfl,hi⟩;rintro m tm h nx R ⟨zH,zI,zK,zL,rfl,hi⟩ hR;exact step m zH zI zK zL h nx R hi fun m' wG wH wI wJ h' nx' hlt hi'=>hR m' _ h' nx' hlt ⟨_,_,_,_,rfl,hi'⟩
theorem F8.zxg:IR.run F8.t68 C N O K (F8.fr F E L V G U H P M Q e f g i A B l o a b j q s c d p u v w z D y) h nx =
 C.fn 47 (.of 47) [F,i] h nx fun v1 h2 n3=>bY 0 v1 fun v4=>bY 1 v1 fun v5=>K (F8.fr F E L V G U H P M Q e f g i A B v4 v5 a b j q s c d p u v w z D y) h2 n3:=by kernel_rfl
theorem F8.zxh:IR.run F8.t69 C N O K tm h nx=y0 F8.zm3 C ⟨tm,[]⟩ h nx (fun tm h nx=>K tm.v h nx):=qT ..
theorem F8.zqp:y0 (.s (.mv (.t (.of 17)))::.s (.bin .neq .int (.s 0) (.c (I 0)))::.s (.mv (.s 0))::.p .push (some ((.s 0),false)) (.mv (.t (.of 16)))::.p .push (some ((.s 1),false)) (.len (.s 0))::.p .push (some ((.s 2),false)) (.mv (.t (.of 1)))::.p .push (some ((.s 3),false)) (.bin .neq .int (.s 1) (.s 0))::.q (.of 31) (.pick (.s 4) (.c (.bool true)) (.s 0))::[]) C ⟨(F8.fr F E L V G U H P M Q e f g i A B l o a b j q s c d p u v w z D y),[]⟩ h nx Kt =
 zx .neq .int o (I 0) fun v1=>sG v1 false (fun k=>k l) fun v2=>sG v1 false (fun k=>sLen v2 k) fun v3=>sG v1 false (fun k=>k E) fun v4=>sG v1 false (fun k=>zx .neq .int v3 v4 k) fun v5=>jS v1 (.bool true) v5 fun v6=>Kt ⟨(F8.fr F E L V G U H P M Q e f g i A B l o a b j q s c d p u v w z D v6),v5::v4::v3::v2::v1::v1::o::[]⟩ h nx:=by kernel_rfl
theorem F8.v31:Arg.ev (.t (.of 31)) ⟨(F8.fr F E L V G U H P M Q e f g i A B l o a b j q s c d p u v w z D y),[]⟩=y:=by kernel_rfl
theorem F8.zxi:IR.run F8.t74 C N O K (F8.fr F E L V G U H P M Q e f g i A B l o a b j q s c d p u v w z D y) h nx =
 C.fn 48 (.of 48) [f,l] h nx fun v1 h2 n3=>K (F8.fr F E L V G U H P M Q e v1 g i A B l o a b j q s c d p u v w z D y) h2 n3:=by kernel_rfl
theorem F8.zxj:IR.run F8.t81 C N O K (F8.fr F E L V G U H P M Q e f g i A B l o a b j q s c d p u v w z D y) h nx =
 zx .add .int g (I 1) fun v1=>K (F8.fr F E L V G U H P M Q e f v1 i A B l o a b j q s c d p u v w z D y) h nx:=by kernel_rfl
theorem F8.zxk (Inv:Nat->AV->AV->T Blk->Pa->Prop) {m:Nat} (hm:m<N) (hi:Inv m f g h nx)
  (step:∀ (m:Nat) (z3 zN zO zP zH zI zR zT zU zW zK zL zY:AV) (h:T Blk) (nx:Pa) (R:Ks Prop),Inv m zN zO h nx->(∀ (m':Nat) (w3 wK wL wM wG wH wN wO wP wQ wI wJ wR:AV) (h':T Blk) (nx':Pa),m'<m->Inv m' wK wL h' nx'->R (F8.fr F E L w3 G U H P M Q e wK wL wM wG wH wN wO a b j q s c d p u wP wQ wI wJ wR) h' nx'=.ok True)->IR.run F8.t83 C N O R (F8.fr F E L z3 G U H P M Q e zN zO zP zH zI zR zT a b j q s c d p u zU zW zK zL zY) h nx=.ok True) :
  IR.run F8.t84 C N O K (F8.fr F E L V G U H P M Q e f g i A B l o a b j q s c d p u v w z D y) h nx=.ok True:=by
 rw [F8.t84];refine yK (fun m tm h nx=>∃ z3 zN zO zP zH zI zR zT zU zW zK zL zY,tm=(F8.fr F E L z3 G U H P M Q e zN zO zP zH zI zR zT a b j q s c d p u zU zW zK zL zY)/\Inv m zN zO h nx) ?_ hm ⟨_,_,_,_,_,_,_,_,_,_,_,_,_,rfl,hi⟩;rintro m tm h nx R ⟨z3,zN,zO,zP,zH,zI,zR,zT,zU,zW,zK,zL,zY,rfl,hi⟩ hR;exact step m z3 zN zO zP zH zI zR zT zU zW zK zL zY h nx R hi fun m' w3 wK wL wM wG wH wN wO wP wQ wI wJ wR h' nx' hlt hi'=>hR m' _ h' nx' hlt ⟨_,_,_,_,_,_,_,_,_,_,_,_,_,rfl,hi'⟩
theorem F8.zxl:IR.run F8.t87 C N O K tm h nx=y0 F8.zm4 C ⟨tm,[]⟩ h nx (fun tm h nx=>K tm.v h nx):=qT ..
theorem F8.zqq:y0 (.s (.mv (.t (.of 6)))::.s (.mv (.t (.of 11)))::.s (.len (.s 0))::.w .push none (.call (.c (.fn 49 (.of 49) [])) [(.s 0)])::r) C ⟨(F8.fr F E L V G U H P M Q e f g i A B l o a b j q s c d p u v w z D y),[]⟩ h nx Kt =
 sLen f fun v1=>C.fn 49 (.of 49) [v1] h nx fun v2 h3 n4=>y0 r C ⟨(F8.fr F E L V G U H P M Q e f g i A B l o a b j q s c d p u v w z D y),v2::v1::f::H::[]⟩ h3 n4 Kt:=by kernel_rfl
theorem F8.zqr:y0 (.s (.bin .eql .str (.s 3) (.s 0))::.s (.mv (.s 0))::.p .push (some ((.s 0),true)) (.mv (.t (.of 8)))::.p .push (some ((.s 1),true)) (.mv (.t (.of 10)))::.w .push (some ((.s 2),true)) (.call (.c (.fn 49 (.of 49) [])) [(.s 0)])::r) C ⟨(F8.fr F E L V G U H P M Q e f g i A B l o a b j q s c d p u v w z D y),s0::s1::s2::s3::[]⟩ h nx Kt =
 zx .eql .str s3 s0 fun v1=>sG v1 true (fun k=>k M) fun v2=>sG v1 true (fun k=>k e) fun v3=>sGW v1 true (fun k=>C.fn 49 (.of 49) [v3] h nx k) h nx fun v4 h5 n6=>y0 r C ⟨(F8.fr F E L V G U H P M Q e f g i A B l o a b j q s c d p u v w z D y),v4::v3::v2::v1::v1::s0::s1::s2::s3::[]⟩ h5 n6 Kt:=by kernel_rfl
theorem F8.zqs:y0 (.p .push (some ((.s 3),true)) (.bin .eql .str (.s 2) (.s 0))::.s (.pick (.s 4) (.s 0) (.c (.bool false)))::.s (.mv (.s 0))::.p .push (some ((.s 0),true)) (.mv (.t (.of 6)))::.p .push (some ((.s 1),true)) (.mv (.t (.of 8)))::.w .push (some ((.s 2),true)) (.call (.c (.fn 50 (.of 50) [])) [(.s 1),(.s 0)])::r) C ⟨(F8.fr F E L V G U H P M Q e f g i A B l o a b j q s c d p u v w z D y),s0::s1::s2::s3::s4::s5::s6::s7::s8::[]⟩ h nx Kt =
 sG s3 true (fun k=>zx .eql .str s2 s0 k) fun v1=>jS s3 v1 (.bool false) fun v2=>sG v2 true (fun k=>k H) fun v3=>sG v2 true (fun k=>k M) fun v4=>sGW v2 true (fun k=>C.fn 50 (.of 50) [v3,v4] h nx k) h nx fun v5 h6 n7=>y0 r C ⟨(F8.fr F E L V G U H P M Q e f g i A B l o a b j q s c d p u v w z D y),v5::v4::v3::v2::v2::v1::s0::s1::s2::s3::s4::s5::s6::s7::s8::[]⟩ h6 n7 Kt:=by kernel_rfl
theorem F8.zqu:y0 (.p .push (some ((.s 3),true)) (.bin .leq .int (.s 0) (.c (I 0)))::.s (.pick (.s 4) (.s 0) (.c (.bool false)))::.q (.of 3) (.mv (.s 0))::[]) C ⟨(F8.fr F E L V G U H P M Q e f g i A B l o a b j q s c d p u v w z D y),s0::s1::s2::s3::s4::s5::s6::s7::s8::s9::s10::s11::s12::s13::s14::[]⟩ h nx Kt =
 sG s3 true (fun k=>zx .leq .int s0 (I 0) k) fun v1=>jS s3 v1 (.bool false) fun v2=>Kt ⟨(F8.fr F E L v2 G U H P M Q e f g i A B l o a b j q s c d p u v w z D y),v2::v1::s0::s1::s2::s3::s4::s5::s6::s7::s8::s9::s10::s11::s12::s13::s14::[]⟩ h nx:=by kernel_rfl
theorem F8.tab:T.get none (.of 8) tbl=some F8:=by kernel_rfl
theorem F8.bind (k:T AV->OP):zX F8.params [a0,a1,a2] F8.init k=k (F8.fr a0 a1 a2 .undef .undef .undef .undef .undef .undef .undef .undef .undef .undef .undef .undef .undef .undef .undef .undef .undef .undef .undef .undef .undef .undef .undef .undef .undef .undef .undef .undef .undef):=by kernel_rfl
theorem F8.jf:F8.body=F8.t99:=by kernel_rfl
theorem F8.go:zV tbl N C (.of 8) [a0,a1,a2] h nx K0=IR.run F8.t99 C N (fnO F8.res K0) (gq F8.res K0) (F8.fr a0 a1 a2 .undef .undef .undef .undef .undef .undef .undef .undef .undef .undef .undef .undef .undef .undef .undef .undef .undef .undef .undef .undef .undef .undef .undef .undef .undef .undef .undef .undef .undef) h nx:=by
 rw [zJ F8.tab,F8.bind,F8.jf];kernel_rfl
theorem F8.ret:gq F8.res K0 (F8.fr F E L V G U H P M Q e f g i A B l o a b j q s c d p u v w z D y) h nx=K0 V h nx:=by kernel_rfl
end
end Go.Ev
