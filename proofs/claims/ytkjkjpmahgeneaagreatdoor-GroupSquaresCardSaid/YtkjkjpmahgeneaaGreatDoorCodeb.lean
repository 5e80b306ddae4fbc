import Derived.Test.YtkjkjpmahgeneaaGreatDoorIrT
import Derived.Test.YtkjkjpmahgeneaaGreatDoorEvD
import Derived.KernelRfl
set_option linter.unusedSimpArgs false
set_option linter.unusedVariables false
noncomputable section
namespace Go.Ev
open Go Go.Proofs
set_option maxRecDepth 100000
section
variable {N:Nat} {C:Calls Prop} {K0:Kw Prop} {K:Ks Prop} {h:T Blk} {nx:Pa} {f u j g l p i o q s a e b c d a0:AV} {O:uo Prop} {tm:T AV} {Kt:KTm} {r:List RO} {s0 s1 s2 s3 s4 s5 s6 s7 s8 s9 s10 s11 s12 s13 s14 s15 s16 s17 s18 s19 s20 s21 s22 s23 s24 s25 s26 s27 s28 s29 s30 s31 s32 s33 s34 s35 s36 s37 s38 s39 s40 s41 s42 s43 s44 s45 s46 s47 s48 s49 s50 s51 s52 s53 s54 s55 s56 s57 s58 s59:AV}
def F10.t0:IR:=.reg [.q (.of 1) (.mv (.c (.bool false)))]
def F10.t1:IR:=.reg [.s (.mv (.t (.of 0))),.w .push none (.call (.c (.fn 66 (.of 66) [])) [(.s 0)]),.s (.mv (.s 0)),.s (.ext 0 (.s 0)),.s (.ext 1 (.s 1)),.q (.of 2) (.mv (.s 1)),.q (.of 3) (.mv (.s 0))]
def F10.t2:IR:=.reg [.s (.mv (.t (.of 0))),.w .push none (.call (.c (.fn 67 (.of 67) [])) [(.s 0)]),.s (.mv (.s 0)),.s (.ext 0 (.s 0)),.s (.ext 1 (.s 1)),.q (.of 4) (.mv (.s 1)),.q (.of 5) (.mv (.s 0))]
def F10.t3:IR:=.reg [.s (.mv (.t (.of 0))),.w .push none (.call (.c (.fn 68 (.of 68) [])) [(.s 0)]),.s (.mv (.s 0)),.s (.ext 0 (.s 0)),.s (.ext 1 (.s 1)),.q (.of 6) (.mv (.s 1)),.q (.of 7) (.mv (.s 0))]
def F10.t4:IR:=.reg [.s (.mv (.t (.of 0))),.s (.bin .lss .int (.s 0) (.c (I 1))),.s (.mv (.s 0)),.p .push (some ((.s 0),false)) (.mv (.t (.of 0))),.p .push (some ((.s 1),false)) (.bin .gtr .int (.s 0) (.c (I 16))),.q (.of 10) (.pick (.s 2) (.c (.bool true)) (.s 0))]
def F10.r5_4:List RO:=.s (.pick (.s 1) (.s 0) (.c (.bool false)))::.q (.of 1) (.mv (.s 0))::[]
def F10.r5_3:List RO:=.s (.pick (.s 3) (.s 0) (.c (.bool false)))::.s (.mv (.s 0))::.w .push (some ((.s 0),true)) (.call (.c (.fn 18 (.of 18) [])) [])::F10.r5_4
def F10.r5_2:List RO:=.s (.pick (.s 3) (.s 0) (.c (.bool false)))::.s (.mv (.s 0))::.p .push (some ((.s 0),true)) (.mv (.t (.of 6)))::.p .push (some ((.s 1),true)) (.mv (.t (.of 7)))::.w .push (some ((.s 2),true)) (.call (.c (.fn 28 (.of 28) [])) [(.s 1),(.s 0),(.c (I 3)),(.c .zf)])::F10.r5_3
def F10.r5_1:List RO:=.s (.mv (.s 0))::.p .push (some ((.s 0),true)) (.mv (.t (.of 4)))::.p .push (some ((.s 1),true)) (.mv (.t (.of 5)))::.w .push (some ((.s 2),true)) (.call (.c (.fn 28 (.of 28) [])) [(.s 1),(.s 0),(.c (I 3)),(.c .zf)])::F10.r5_2
def F10.r5_0:List RO:=.s (.mv (.t (.of 2)))::.s (.mv (.t (.of 3)))::.w .push none (.call (.c (.fn 28 (.of 28) [])) [(.s 1),(.s 0),(.c (I 3)),(.c .zf)])::F10.r5_1
def F10.t5:IR:=.reg F10.r5_0
def F10.t6:IR:=.seq F10.t5 .ret
def F10.t7:IR:=.cond (.t (.of 10)) F10.t6 .skip
def F10.t8:IR:=.seq F10.t4 F10.t7
def F10.t9:IR:=.reg [.q (.of 8) (.mv (.c (I 1)))]
def F10.t10:IR:=.reg [.q (.of 9) (.mv (.c (I 1)))]
def F10.t11:IR:=.reg [.s (.mv (.t (.of 9))),.s (.mv (.t (.of 0))),.s (.bin .quo .int (.s 0) (.c (I 2))),.s (.bin .leq .int (.s 2) (.s 0)),.s (.mv (.s 0)),.p .push (some ((.s 0),true)) (.mv (.t (.of 8))),.p .push (some ((.s 1),true)) (.bin .leq .int (.s 0) (.c (I 1536))),.q (.of 11) (.pick (.s 2) (.s 0) (.c (.bool false)))]
def F10.t12:IR:=.cond (.t (.of 11)) .skip (.exit 0)
def F10.t13:IR:=.seq F10.t11 F10.t12
def F10.t14:IR:=.reg [.s (.mv (.t (.of 8))),.s (.bin .mul .int (.s 0) (.c (I 2))),.s (.mv (.t (.of 9))),.s (.bin .mul .int (.s 1) (.s 0)),.q (.of 8) (.mv (.s 0))]
def F10.t15:IR:=.block 1 F10.t14
def F10.t16:IR:=.reg [.s (.mv (.t (.of 9))),.s (.bin .add .int (.s 0) (.c (I 1))),.q (.of 9) (.mv (.s 0))]
def F10.t17:IR:=.seq F10.t15 F10.t16
def F10.t18:IR:=.seq F10.t13 F10.t17
def F10.t19:IR:=.loop F10.t18
def F10.t20:IR:=.block 0 F10.t19
def F10.t21:IR:=.seq F10.t10 F10.t20
def F10.t22:IR:=.reg [.s (.mv (.t (.of 8))),.q (.of 12) (.bin .gtr .int (.s 0) (.c (I 1536)))]
def F10.zr9:List RO:=.s (.pick (.s 1) (.s 0) (.c (.bool false)))::.q (.of 1) (.mv (.s 0))::[]
def F10.zsa:List RO:=.s (.mv (.s 0))::.w .push (some ((.s 0),true)) (.call (.c (.fn 18 (.of 18) [])) [])::F10.zr9
def F10.zsb:List RO:=.s (.mv (.s 0))::.p .push (some ((.s 0),true)) (.mv (.t (.of 4)))::.p .push (some ((.s 1),true)) (.len (.s 0))::.p .push (some ((.s 2),true)) (.mv (.t (.of 0)))::.p .push (some ((.s 3),true)) (.mv (.t (.of 0)))::.p .push (some ((.s 4),true)) (.bin .mul .int (.s 1) (.s 0))::.p .push (some ((.s 5),true)) (.bin .eql .int (.s 3) (.s 0))::.s (.pick (.s 6) (.s 0) (.c (.bool false)))::F10.zsa
def F10.zsc:List RO:=.s (.mv (.s 0))::.p .push (some ((.s 0),true)) (.mv (.t (.of 3)))::.p .push (some ((.s 1),true)) (.bin .eql .int (.s 0) (.c (I 0)))::.s (.pick (.s 2) (.s 0) (.c (.bool false)))::.s (.mv (.s 0))::.p .push (some ((.s 0),true)) (.mv (.t (.of 5)))::.p .push (some ((.s 1),true)) (.bin .eql .int (.s 0) (.c (I 0)))::.s (.pick (.s 2) (.s 0) (.c (.bool false)))::F10.zsb
def F10.zl8:List RO:=.s (.mv (.t (.of 6)))::.s (.mv (.t (.of 7)))::.w .push none (.call (.c (.fn 28 (.of 28) [])) [(.s 1),(.s 0),(.c (I 5)),(.c .zf)])::F10.zsc
def F10.t23:IR:=.reg F10.zl8
def F10.t24:IR:=.seq F10.t23 .ret
def F10.t25:IR:=.cond (.t (.of 12)) F10.t24 .skip
def F10.t26:IR:=.seq F10.t22 F10.t25
def F10.zsd:List RO:=.s (.mv (.s 0))::.p .push (some ((.s 0),false)) (.mv (.t (.of 4)))::.p .push (some ((.s 1),false)) (.len (.s 0))::.p .push (some ((.s 2),false)) (.mv (.t (.of 0)))::.p .push (some ((.s 3),false)) (.mv (.t (.of 0)))::.p .push (some ((.s 4),false)) (.bin .mul .int (.s 1) (.s 0))::.p .push (some ((.s 5),false)) (.bin .neq .int (.s 3) (.s 0))::.q (.of 13) (.pick (.s 6) (.c (.bool true)) (.s 0))::[]
def F10.zse:List RO:=.p .push (some ((.s 1),false)) (.bin .neq .int (.s 0) (.c (I 0)))::.s (.pick (.s 2) (.c (.bool true)) (.s 0))::.s (.mv (.s 0))::.p .push (some ((.s 0),false)) (.mv (.t (.of 6)))::.p .push (some ((.s 1),false)) (.len (.s 0))::.p .push (some ((.s 2),false)) (.mv (.t (.of 8)))::.p .push (some ((.s 3),false)) (.bin .neq .int (.s 1) (.s 0))::.s (.pick (.s 4) (.c (.bool true)) (.s 0))::F10.zsd
def F10.zl9:List RO:=.s (.mv (.t (.of 3)))::.s (.bin .neq .int (.s 0) (.c (I 0)))::.s (.mv (.s 0))::.p .push (some ((.s 0),false)) (.mv (.t (.of 5)))::.p .push (some ((.s 1),false)) (.bin .neq .int (.s 0) (.c (I 0)))::.s (.pick (.s 2) (.c (.bool true)) (.s 0))::.s (.mv (.s 0))::.p .push (some ((.s 0),false)) (.mv (.t (.of 7)))::F10.zse
def F10.t27:IR:=.reg F10.zl9
def F10.t28:IR:=.reg [.q (.of 1) (.mv (.c (.bool false)))]
def F10.t29:IR:=.seq F10.t28 .ret
def F10.t30:IR:=.cond (.t (.of 13)) F10.t29 .skip
def F10.t31:IR:=.seq F10.t27 F10.t30
def F10.t32:IR:=.reg [.s (.mv (.t (.of 0))),.q (.of 14) (.bin .gtr .int (.s 0) (.c (I 5)))]
def F10.t33:IR:=.reg [.s (.mv (.t (.of 2))),.s (.len (.s 0)),.s (.bin .eql .int (.s 0) (.c (I 8))),.s (.mv (.s 0)),.w .push (some ((.s 0),true)) (.call (.c (.fn 18 (.of 18) [])) []),.s (.pick (.s 1) (.s 0) (.c (.bool false))),.q (.of 1) (.mv (.s 0))]
def F10.t34:IR:=.seq F10.t33 .ret
def F10.t35:IR:=.cond (.t (.of 14)) F10.t34 .skip
def F10.t36:IR:=.seq F10.t32 F10.t35
def F10.zsf:List RO:=.s (.pick (.s 1) (.s 0) (.c (.bool false)))::.q (.of 1) (.mv (.s 0))::[]
def F10.zsg:List RO:=.s (.pick (.s 4) (.s 0) (.c (.bool false)))::.s (.mv (.s 0))::.w .push (some ((.s 0),true)) (.call (.c (.fn 18 (.of 18) [])) [])::F10.zsf
def F10.zsh:List RO:=.w .push (some ((.s 3),true)) (.call (.c (.fn 69 (.of 69) [])) [(.s 2),(.s 0)])::F10.zsg
def F10.zsi:List RO:=.s (.pick (.s 4) (.s 0) (.c (.bool false)))::.s (.mv (.s 0))::.p .push (some ((.s 0),true)) (.mv (.t (.of 6)))::.p .push (some ((.s 1),true)) (.mv (.t (.of 0)))::.w .push (some ((.s 2),true)) (.call (.c (.fn 72 (.of 72) [])) [(.s 0)])::F10.zsh
def F10.zsj:List RO:=.w .push (some ((.s 3),true)) (.call (.c (.fn 69 (.of 69) [])) [(.s 2),(.s 0)])::F10.zsi
def F10.zsk:List RO:=.s (.mv (.s 0))::.p .push (some ((.s 0),true)) (.mv (.t (.of 4)))::.p .push (some ((.s 1),true)) (.mv (.t (.of 0)))::.w .push (some ((.s 2),true)) (.call (.c (.fn 71 (.of 71) [])) [(.s 0)])::F10.zsj
def F10.zsl:List RO:=.w .push none (.call (.c (.fn 69 (.of 69) [])) [(.s 2),(.s 0)])::F10.zsk
def F10.zma:List RO:=.s (.mv (.t (.of 2)))::.s (.mv (.t (.of 0)))::.w .push none (.call (.c (.fn 70 (.of 70) [])) [(.s 0)])::F10.zsl
def F10.t37:IR:=.reg F10.zma
def F10.t38:IR:=.seq F10.t37 .ret
def F10.t39:IR:=.seq F10.t36 F10.t38
def F10.t40:IR:=.seq F10.t31 F10.t39
def F10.t41:IR:=.seq F10.t26 F10.t40
def F10.t42:IR:=.seq F10.t21 F10.t41
def F10.t43:IR:=.seq F10.t9 F10.t42
def F10.t44:IR:=.seq F10.t8 F10.t43
def F10.t45:IR:=.seq F10.t3 F10.t44
def F10.t46:IR:=.seq F10.t2 F10.t45
def F10.t47:IR:=.seq F10.t1 F10.t46
def F10.t48:IR:=.seq F10.t0 F10.t47
theorem F10.wo:IR.run F10.t0 C N O K (F10.fr f u j g l p i o q s a e b c d) h nx =
 K (F10.fr f (.bool false) j g l p i o q s a e b c d) h nx:=by kernel_rfl
theorem F10.wu:IR.run F10.t1 C N O K (F10.fr f u j g l p i o q s a e b c d) h nx =
 C.fn 66 (.of 66) [f] h nx fun v1 h2 n3=>bY 0 v1 fun v4=>bY 1 v1 fun v5=>K (F10.fr f u v4 v5 l p i o q s a e b c d) h2 n3:=by kernel_rfl
theorem F10.dw:IR.run F10.t2 C N O K (F10.fr f u j g l p i o q s a e b c d) h nx =
 C.fn 67 (.of 67) [f] h nx fun v1 h2 n3=>bY 0 v1 fun v4=>bY 1 v1 fun v5=>K (F10.fr f u j g v4 v5 i o q s a e b c d) h2 n3:=by kernel_rfl
theorem F10.rF:IR.run F10.t3 C N O K (F10.fr f u j g l p i o q s a e b c d) h nx =
 C.fn 68 (.of 68) [f] h nx fun v1 h2 n3=>bY 0 v1 fun v4=>bY 1 v1 fun v5=>K (F10.fr f u j g l p v4 v5 q s a e b c d) h2 n3:=by kernel_rfl
theorem F10.t4_s:IR.run F10.t4 C N O K (F10.fr f u j g l p i o q s a e b c d) h nx =
 zu .lss .int f (I 1) fun v1=>sG v1 false (fun k=>k f) fun v2=>sG v1 false (fun k=>zu .gtr .int v2 (I 16) k) fun v3=>jI v1 (.bool true) v3 fun v4=>K (F10.fr f u j g l p i o q s v4 e b c d) h nx:=by kernel_rfl
theorem F10.t5_s:IR.run F10.t5 C N O K tm h nx=yH F10.r5_0 C ⟨tm,[]⟩ h nx (fun tm h nx=>K tm.v h nx):=wK ..
theorem F10.zax:yH (.s (.mv (.t (.of 2)))::.s (.mv (.t (.of 3)))::.w .push none (.call (.c (.fn 28 (.of 28) [])) [(.s 1),(.s 0),(.c (I 3)),(.c .zf)])::r) C ⟨(F10.fr f u j g l p i o q s a e b c d),[]⟩ h nx Kt =
 C.fn 28 (.of 28) [j,g,(I 3),.zf] h nx fun v1 h2 n3=>yH r C ⟨(F10.fr f u j g l p i o q s a e b c d),v1::g::j::[]⟩ h2 n3 Kt:=by kernel_rfl
theorem F10.zao:yH (.s (.mv (.s 0))::.p .push (some ((.s 0),true)) (.mv (.t (.of 4)))::.p .push (some ((.s 1),true)) (.mv (.t (.of 5)))::.w .push (some ((.s 2),true)) (.call (.c (.fn 28 (.of 28) [])) [(.s 1),(.s 0),(.c (I 3)),(.c .zf)])::r) C ⟨(F10.fr f u j g l p i o q s a e b c d),s0::s1::s2::[]⟩ h nx Kt =
 sG s0 true (fun k=>k l) fun v1=>sG s0 true (fun k=>k p) fun v2=>sGW s0 true (fun k=>C.fn 28 (.of 28) [v1,v2,(I 3),.zf] h nx k) h nx fun v3 h4 n5=>yH r C ⟨(F10.fr f u j g l p i o q s a e b c d),v3::v2::v1::s0::s0::s1::s2::[]⟩ h4 n5 Kt:=by kernel_rfl
theorem F10.zaq:yH (.s (.pick (.s 3) (.s 0) (.c (.bool false)))::.s (.mv (.s 0))::.p .push (some ((.s 0),true)) (.mv (.t (.of 6)))::.p .push (some ((.s 1),true)) (.mv (.t (.of 7)))::.w .push (some ((.s 2),true)) (.call (.c (.fn 28 (.of 28) [])) [(.s 1),(.s 0),(.c (I 3)),(.c .zf)])::r) C ⟨(F10.fr f u j g l p i o q s a e b c d),s0::s1::s2::s3::s4::s5::s6::[]⟩ h nx Kt =
 jI s3 s0 (.bool false) fun v1=>sG v1 true (fun k=>k i) fun v2=>sG v1 true (fun k=>k o) fun v3=>sGW v1 true (fun k=>C.fn 28 (.of 28) [v2,v3,(I 3),.zf] h nx k) h nx fun v4 h5 n6=>yH r C ⟨(F10.fr f u j g l p i o q s a e b c d),v4::v3::v2::v1::v1::s0::s1::s2::s3::s4::s5::s6::[]⟩ h5 n6 Kt:=by kernel_rfl
theorem F10.zg0:yH (.s (.pick (.s 3) (.s 0) (.c (.bool false)))::.s (.mv (.s 0))::.w .push (some ((.s 0),true)) (.call (.c (.fn 18 (.of 18) [])) [])::r) C ⟨(F10.fr f u j g l p i o q s a e b c d),s0::s1::s2::s3::s4::s5::s6::s7::s8::s9::s10::s11::[]⟩ h nx Kt =
 jI s3 s0 (.bool false) fun v1=>sGW v1 true (fun k=>C.fn 18 (.of 18) [] h nx k) h nx fun v2 h3 n4=>yH r C ⟨(F10.fr f u j g l p i o q s a e b c d),v2::v1::v1::s0::s1::s2::s3::s4::s5::s6::s7::s8::s9::s10::s11::[]⟩ h3 n4 Kt:=by kernel_rfl
theorem F10.zg1:yH (.s (.pick (.s 1) (.s 0) (.c (.bool false)))::.q (.of 1) (.mv (.s 0))::[]) C ⟨(F10.fr f u j g l p i o q s a e b c d),s0::s1::s2::s3::s4::s5::s6::s7::s8::s9::s10::s11::s12::s13::s14::[]⟩ h nx Kt =
 jI s1 s0 (.bool false) fun v1=>Kt ⟨(F10.fr f v1 j g l p i o q s a e b c d),v1::s0::s1::s2::s3::s4::s5::s6::s7::s8::s9::s10::s11::s12::s13::s14::[]⟩ h nx:=by kernel_rfl
theorem F10.v10:Arg.ev (.t (.of 10)) ⟨(F10.fr f u j g l p i o q s a e b c d),[]⟩=a:=by kernel_rfl
theorem F10.au:IR.run F10.t9 C N O K (F10.fr f u j g l p i o q s a e b c d) h nx =
 K (F10.fr f u j g l p i o (I 1) s a e b c d) h nx:=by kernel_rfl
theorem F10.fG:IR.run F10.t10 C N O K (F10.fr f u j g l p i o q s a e b c d) h nx =
 K (F10.fr f u j g l p i o q (I 1) a e b c d) h nx:=by kernel_rfl
theorem F10.zaj:IR.run F10.t11 C N O K (F10.fr f u j g l p i o q s a e b c d) h nx =
 zu .quo .int f (I 2) fun v1=>zu .leq .int s v1 fun v2=>sG v2 true (fun k=>k q) fun v3=>sG v2 true (fun k=>zu .leq .int v3 (I 1536) k) fun v4=>jI v2 v4 (.bool false) fun v5=>K (F10.fr f u j g l p i o q s a v5 b c d) h nx:=by kernel_rfl
theorem F10.v11:Arg.ev (.t (.of 11)) ⟨(F10.fr f u j g l p i o q s a e b c d),[]⟩=e:=by kernel_rfl
theorem F10.rC:IR.run F10.t14 C N O K (F10.fr f u j g l p i o q s a e b c d) h nx =
 zu .mul .int q (I 2) fun v1=>zu .mul .int v1 s fun v2=>K (F10.fr f u j g l p i o v2 s a e b c d) h nx:=by kernel_rfl
theorem F10.sQ:IR.run F10.t16 C N O K (F10.fr f u j g l p i o q s a e b c d) h nx =
 zu .add .int s (I 1) fun v1=>K (F10.fr f u j g l p i o q v1 a e b c d) h nx:=by kernel_rfl
theorem F10.zl0 (Inv:Nat->AV->AV->T Blk->Pa->Prop) {m:Nat} (hm:m<N) (hi:Inv m q s h nx)
  (step:∀ (m:Nat) (z8 z9 zA:AV) (h:T Blk) (nx:Pa) (R:Ks Prop),Inv m z8 z9 h nx->(∀ (m':Nat) (w8 w9 wA:AV) (h':T Blk) (nx':Pa),m'<m->Inv m' w8 w9 h' nx'->R (F10.fr f u j g l p i o w8 w9 a wA b c d) h' nx'=.ok True)->IR.run F10.t18 C N O R (F10.fr f u j g l p i o z8 z9 a zA b c d) h nx=.ok True) :
  IR.run F10.t19 C N O K (F10.fr f u j g l p i o q s a e b c d) h nx=.ok True:=by
 rw [F10.t19];refine yJ (fun m tm h nx=>∃ z8 z9 zA,tm=(F10.fr f u j g l p i o z8 z9 a zA b c d)/\Inv m z8 z9 h nx) ?_ hm ⟨_,_,_,rfl,hi⟩;rintro m tm h nx R ⟨z8,z9,zA,rfl,hi⟩ hR;exact step m z8 z9 zA h nx R hi fun m' w8 w9 wA h' nx' hlt hi'=>hR m' _ h' nx' hlt ⟨_,_,_,rfl,hi'⟩
theorem F10.zah:IR.run F10.t22 C N O K (F10.fr f u j g l p i o q s a e b c d) h nx =
 zu .gtr .int q (I 1536) fun v1=>K (F10.fr f u j g l p i o q s a e v1 c d) h nx:=by kernel_rfl
theorem F10.zl4:IR.run F10.t23 C N O K tm h nx=yH F10.zl8 C ⟨tm,[]⟩ h nx (fun tm h nx=>K tm.v h nx):=wK ..
theorem F10.zpr:yH (.s (.mv (.t (.of 6)))::.s (.mv (.t (.of 7)))::.w .push none (.call (.c (.fn 28 (.of 28) [])) [(.s 1),(.s 0),(.c (I 5)),(.c .zf)])::r) C ⟨(F10.fr f u j g l p i o q s a e b c d),[]⟩ h nx Kt =
 C.fn 28 (.of 28) [i,o,(I 5),.zf] h nx fun v1 h2 n3=>yH r C ⟨(F10.fr f u j g l p i o q s a e b c d),v1::o::i::[]⟩ h2 n3 Kt:=by kernel_rfl
theorem F10.zps:yH (.s (.mv (.s 0))::.p .push (some ((.s 0),true)) (.mv (.t (.of 3)))::.p .push (some ((.s 1),true)) (.bin .eql .int (.s 0) (.c (I 0)))::.s (.pick (.s 2) (.s 0) (.c (.bool false)))::.s (.mv (.s 0))::.p .push (some ((.s 0),true)) (.mv (.t (.of 5)))::.p .push (some ((.s 1),true)) (.bin .eql .int (.s 0) (.c (I 0)))::.s (.pick (.s 2) (.s 0) (.c (.bool false)))::r) C ⟨(F10.fr f u j g l p i o q s a e b c d),s0::s1::s2::[]⟩ h nx Kt =
 sG s0 true (fun k=>k g) fun v1=>sG s0 true (fun k=>zu .eql .int v1 (I 0) k) fun v2=>jI s0 v2 (.bool false) fun v3=>sG v3 true (fun k=>k p) fun v4=>sG v3 true (fun k=>zu .eql .int v4 (I 0) k) fun v5=>jI v3 v5 (.bool false) fun v6=>yH r C ⟨(F10.fr f u j g l p i o q s a e b c d),v6::v5::v4::v3::v3::v2::v1::s0::s0::s1::s2::[]⟩ h nx Kt:=by kernel_rfl
theorem F10.zpt:yH (.s (.mv (.s 0))::.p .push (some ((.s 0),true)) (.mv (.t (.of 4)))::.p .push (some ((.s 1),true)) (.len (.s 0))::.p .push (some ((.s 2),true)) (.mv (.t (.of 0)))::.p .push (some ((.s 3),true)) (.mv (.t (.of 0)))::.p .push (some ((.s 4),true)) (.bin .mul .int (.s 1) (.s 0))::.p .push (some ((.s 5),true)) (.bin .eql .int (.s 3) (.s 0))::.s (.pick (.s 6) (.s 0) (.c (.bool false)))::r) C ⟨(F10.fr f u j g l p i o q s a e b c d),s0::s1::s2::s3::s4::s5::s6::s7::s8::s9::s10::[]⟩ h nx Kt =
 sG s0 true (fun k=>k l) fun v1=>sG s0 true (fun k=>sLen v1 k) fun v2=>sG s0 true (fun k=>k f) fun v3=>sG s0 true (fun k=>k f) fun v4=>sG s0 true (fun k=>zu .mul .int v3 v4 k) fun v5=>sG s0 true (fun k=>zu .eql .int v2 v5 k) fun v6=>jI s0 v6 (.bool false) fun v7=>yH r C ⟨(F10.fr f u j g l p i o q s a e b c d),v7::v6::v5::v4::v3::v2::v1::s0::s0::s1::s2::s3::s4::s5::s6::s7::s8::s9::s10::[]⟩ h nx Kt:=by kernel_rfl
theorem F10.zpu:yH (.s (.mv (.s 0))::.w .push (some ((.s 0),true)) (.call (.c (.fn 18 (.of 18) [])) [])::r) C ⟨(F10.fr f u j g l p i o q s a e b c d),s0::s1::s2::s3::s4::s5::s6::s7::s8::s9::s10::s11::s12::s13::s14::s15::s16::s17::s18::[]⟩ h nx Kt =
 sGW s0 true (fun k=>C.fn 18 (.of 18) [] h nx k) h nx fun v1 h2 n3=>yH r C ⟨(F10.fr f u j g l p i o q s a e b c d),v1::s0::s0::s1::s2::s3::s4::s5::s6::s7::s8::s9::s10::s11::s12::s13::s14::s15::s16::s17::s18::[]⟩ h2 n3 Kt:=by kernel_rfl
theorem F10.zpv:yH (.s (.pick (.s 1) (.s 0) (.c (.bool false)))::.q (.of 1) (.mv (.s 0))::[]) C ⟨(F10.fr f u j g l p i o q s a e b c d),s0::s1::s2::s3::s4::s5::s6::s7::s8::s9::s10::s11::s12::s13::s14::s15::s16::s17::s18::s19::s20::[]⟩ h nx Kt =
 jI s1 s0 (.bool false) fun v1=>Kt ⟨(F10.fr f v1 j g l p i o q s a e b c d),v1::s0::s1::s2::s3::s4::s5::s6::s7::s8::s9::s10::s11::s12::s13::s14::s15::s16::s17::s18::s19::s20::[]⟩ h nx:=by kernel_rfl
theorem F10.v12:Arg.ev (.t (.of 12)) ⟨(F10.fr f u j g l p i o q s a e b c d),[]⟩=b:=by kernel_rfl
theorem F10.zl6:IR.run F10.t27 C N O K tm h nx=yH F10.zl9 C ⟨tm,[]⟩ h nx (fun tm h nx=>K tm.v h nx):=wK ..
theorem F10.zpw:yH (.s (.mv (.t (.of 3)))::.s (.bin .neq .int (.s 0) (.c (I 0)))::.s (.mv (.s 0))::.p .push (some ((.s 0),false)) (.mv (.t (.of 5)))::.p .push (some ((.s 1),false)) (.bin .neq .int (.s 0) (.c (I 0)))::.s (.pick (.s 2) (.c (.bool true)) (.s 0))::.s (.mv (.s 0))::.p .push (some ((.s 0),false)) (.mv (.t (.of 7)))::r) C ⟨(F10.fr f u j g l p i o q s a e b c d),[]⟩ h nx Kt =
 zu .neq .int g (I 0) fun v1=>sG v1 false (fun k=>k p) fun v2=>sG v1 false (fun k=>zu .neq .int v2 (I 0) k) fun v3=>jI v1 (.bool true) v3 fun v4=>sG v4 false (fun k=>k o) fun v5=>yH r C ⟨(F10.fr f u j g l p i o q s a e b c d),v5::v4::v4::v3::v2::v1::v1::g::[]⟩ h nx Kt:=by kernel_rfl
theorem F10.zpx:yH (.p .push (some ((.s 1),false)) (.bin .neq .int (.s 0) (.c (I 0)))::.s (.pick (.s 2) (.c (.bool true)) (.s 0))::.s (.mv (.s 0))::.p .push (some ((.s 0),false)) (.mv (.t (.of 6)))::.p .push (some ((.s 1),false)) (.len (.s 0))::.p .push (some ((.s 2),false)) (.mv (.t (.of 8)))::.p .push (some ((.s 3),false)) (.bin .neq .int (.s 1) (.s 0))::.s (.pick (.s 4) (.c (.bool true)) (.s 0))::r) C ⟨(F10.fr f u j g l p i o q s a e b c d),s0::s1::s2::s3::s4::s5::s6::s7::[]⟩ h nx Kt =
 sG s1 false (fun k=>zu .neq .int s0 (I 0) k) fun v1=>jI s1 (.bool true) v1 fun v2=>sG v2 false (fun k=>k i) fun v3=>sG v2 false (fun k=>sLen v3 k) fun v4=>sG v2 false (fun k=>k q) fun v5=>sG v2 false (fun k=>zu .neq .int v4 v5 k) fun v6=>jI v2 (.bool true) v6 fun v7=>yH r C ⟨(F10.fr f u j g l p i o q s a e b c d),v7::v6::v5::v4::v3::v2::v2::v1::s0::s1::s2::s3::s4::s5::s6::s7::[]⟩ h nx Kt:=by kernel_rfl
theorem F10.zpy:yH (.s (.mv (.s 0))::.p .push (some ((.s 0),false)) (.mv (.t (.of 4)))::.p .push (some ((.s 1),false)) (.len (.s 0))::.p .push (some ((.s 2),false)) (.mv (.t (.of 0)))::.p .push (some ((.s 3),false)) (.mv (.t (.of 0)))::.p .push (some ((.s 4),false)) (.bin .mul .int (.s 1) (.s 0))::.p .push (some ((.s 5),false)) (.bin .neq .int (.s 3) (.s 0))::.q (.of 13) (.pick (.s 6) (.c (.bool true)) (.s 0))::[]) C ⟨(F10.fr f u j g l p i o q s a e b c d),s0::s1::s2::s3::s4::s5::s6::s7::s8::s9::s10::s11::s12::s13::s14::s15::[]⟩ h nx Kt =
 sG s0 false (fun k=>k l) fun v1=>sG s0 false (fun k=>sLen v1 k) fun v2=>sG s0 false (fun k=>k f) fun v3=>sG s0 false (fun k=>k f) fun v4=>sG s0 false (fun k=>zu .mul .int v3 v4 k) fun v5=>sG s0 false (fun k=>zu .neq .int v2 v5 k) fun v6=>jI s0 (.bool true) v6 fun v7=>Kt ⟨(F10.fr f u j g l p i o q s a e b v7 d),v6::v5::v4::v3::v2::v1::s0::s0::s1::s2::s3::s4::s5::s6::s7::s8::s9::s10::s11::s12::s13::s14::s15::[]⟩ h nx:=by kernel_rfl
theorem F10.v13:Arg.ev (.t (.of 13)) ⟨(F10.fr f u j g l p i o q s a e b c d),[]⟩=c:=by kernel_rfl
theorem F10.zvw:IR.run F10.t32 C N O K (F10.fr f u j g l p i o q s a e b c d) h nx =
 zu .gtr .int f (I 5) fun v1=>K (F10.fr f u j g l p i o q s a e b c v1) h nx:=by kernel_rfl
theorem F10.zl7:IR.run F10.t33 C N O K (F10.fr f u j g l p i o q s a e b c d) h nx =
 sLen j fun v1=>zu .eql .int v1 (I 8) fun v2=>sGW v2 true (fun k=>C.fn 18 (.of 18) [] h nx k) h nx fun v3 h4 n5=>jI v2 v3 (.bool false) fun v6=>K (F10.fr f v6 j g l p i o q s a e b c d) h4 n5:=by kernel_rfl
theorem F10.v14:Arg.ev (.t (.of 14)) ⟨(F10.fr f u j g l p i o q s a e b c d),[]⟩=d:=by kernel_rfl
theorem F10.zvx:IR.run F10.t37 C N O K tm h nx=yH F10.zma C ⟨tm,[]⟩ h nx (fun tm h nx=>K tm.v h nx):=wK ..
theorem F10.zpz:yH (.s (.mv (.t (.of 2)))::.s (.mv (.t (.of 0)))::.w .push none (.call (.c (.fn 70 (.of 70) [])) [(.s 0)])::r) C ⟨(F10.fr f u j g l p i o q s a e b c d),[]⟩ h nx Kt =
 C.fn 70 (.of 70) [f] h nx fun v1 h2 n3=>yH r C ⟨(F10.fr f u j g l p i o q s a e b c d),v1::f::j::[]⟩ h2 n3 Kt:=by kernel_rfl
theorem F10.zp0:yH (.w .push none (.call (.c (.fn 69 (.of 69) [])) [(.s 2),(.s 0)])::r) C ⟨(F10.fr f u j g l p i o q s a e b c d),s0::s1::s2::[]⟩ h nx Kt =
 C.fn 69 (.of 69) [s2,s0] h nx fun v1 h2 n3=>yH r C ⟨(F10.fr f u j g l p i o q s a e b c d),v1::s0::s1::s2::[]⟩ h2 n3 Kt:=by kernel_rfl
theorem F10.zp1:yH (.s (.mv (.s 0))::.p .push (some ((.s 0),true)) (.mv (.t (.of 4)))::.p .push (some ((.s 1),true)) (.mv (.t (.of 0)))::.w .push (some ((.s 2),true)) (.call (.c (.fn 71 (.of 71) [])) [(.s 0)])::r) C ⟨(F10.fr f u j g l p i o q s a e b c d),s0::s1::s2::s3::[]⟩ h nx Kt =
 sG s0 true (fun k=>k l) fun v1=>sG s0 true (fun k=>k f) fun v2=>sGW s0 true (fun k=>C.fn 71 (.of 71) [v2] h nx k) h nx fun v3 h4 n5=>yH r C ⟨(F10.fr f u j g l p i o q s a e b c d),v3::v2::v1::s0::s0::s1::s2::s3::[]⟩ h4 n5 Kt:=by kernel_rfl
theorem F10.zp2:yH (.w .push (some ((.s 3),true)) (.call (.c (.fn 69 (.of 69) [])) [(.s 2),(.s 0)])::r) C ⟨(F10.fr f u j g l p i o q s a e b c d),s0::s1::s2::s3::s4::s5::s6::s7::[]⟩ h nx Kt =
 sGW s3 true (fun k=>C.fn 69 (.of 69) [s2,s0] h nx k) h nx fun v1 h2 n3=>yH r C ⟨(F10.fr f u j g l p i o q s a e b c d),v1::s0::s1::s2::s3::s4::s5::s6::s7::[]⟩ h2 n3 Kt:=by kernel_rfl
theorem F10.zp3:yH (.s (.pick (.s 4) (.s 0) (.c (.bool false)))::.s (.mv (.s 0))::.p .push (some ((.s 0),true)) (.mv (.t (.of 6)))::.p .push (some ((.s 1),true)) (.mv (.t (.of 0)))::.w .push (some ((.s 2),true)) (.call (.c (.fn 72 (.of 72) [])) [(.s 0)])::r) C ⟨(F10.fr f u j g l p i o q s a e b c d),s0::s1::s2::s3::s4::s5::s6::s7::s8::[]⟩ h nx Kt =
 jI s4 s0 (.bool false) fun v1=>sG v1 true (fun k=>k i) fun v2=>sG v1 true (fun k=>k f) fun v3=>sGW v1 true (fun k=>C.fn 72 (.of 72) [v3] h nx k) h nx fun v4 h5 n6=>yH r C ⟨(F10.fr f u j g l p i o q s a e b c d),v4::v3::v2::v1::v1::s0::s1::s2::s3::s4::s5::s6::s7::s8::[]⟩ h5 n6 Kt:=by kernel_rfl
theorem F10.zp4:yH (.w .push (some ((.s 3),true)) (.call (.c (.fn 69 (.of 69) [])) [(.s 2),(.s 0)])::r) C ⟨(F10.fr f u j g l p i o q s a e b c d),s0::s1::s2::s3::s4::s5::s6::s7::s8::s9::s10::s11::s12::s13::[]⟩ h nx Kt =
 sGW s3 true (fun k=>C.fn 69 (.of 69) [s2,s0] h nx k) h nx fun v1 h2 n3=>yH r C ⟨(F10.fr f u j g l p i o q s a e b c d),v1::s0::s1::s2::s3::s4::s5::s6::s7::s8::s9::s10::s11::s12::s13::[]⟩ h2 n3 Kt:=by kernel_rfl
theorem F10.zp5:yH (.s (.pick (.s 4) (.s 0) (.c (.bool false)))::.s (.mv (.s 0))::.w .push (some ((.s 0),true)) (.call (.c (.fn 18 (.of 18) [])) [])::r) C ⟨(F10.fr f u j g l p i o q s a e b c d),s0::s1::s2::s3::s4::s5::s6::s7::s8::s9::s10::s11::s12::s13::s14::[]⟩ h nx Kt =
 jI s4 s0 (.bool false) fun v1=>sGW v1 true (fun k=>C.fn 18 (.of 18) [] h nx k) h nx fun v2 h3 n4=>yH r C ⟨(F10.fr f u j g l p i o q s a e b c d),v2::v1::v1::s0::s1::s2::s3::s4::s5::s6::s7::s8::s9::s10::s11::s12::s13::s14::[]⟩ h3 n4 Kt:=by kernel_rfl
theorem F10.zp6:yH (.s (.pick (.s 1) (.s 0) (.c (.bool false)))::.q (.of 1) (.mv (.s 0))::[]) C ⟨(F10.fr f u j g l p i o q s a e b c d),s0::s1::s2::s3::s4::s5::s6::s7::s8::s9::s10::s11::s12::s13::s14::s15::s16::s17::[]⟩ h nx Kt =
 jI s1 s0 (.bool false) fun v1=>Kt ⟨(F10.fr f v1 j g l p i o q s a e b c d),v1::s0::s1::s2::s3::s4::s5::s6::s7::s8::s9::s10::s11::s12::s13::s14::s15::s16::s17::[]⟩ h nx:=by kernel_rfl
theorem F10.tab:T.get none (.of 10) tbl=some F10:=by kernel_rfl
theorem F10.bind (k:T AV->OP):zX F10.params [a0] F10.init k=k (F10.fr a0 .undef .undef .undef .undef .undef .undef .undef .undef .undef .undef .undef .undef .undef .undef):=by kernel_rfl
theorem F10.jg:F10.body=F10.t48:=by kernel_rfl
theorem F10.go:zW tbl N C (.of 10) [a0] h nx K0=IR.run F10.t48 C N (fnO F10.res K0) (jv F10.res K0) (F10.fr a0 .undef .undef .undef .undef .undef .undef .undef .undef .undef .undef .undef .undef .undef .undef) h nx:=by
 rw [zL F10.tab,F10.bind,F10.jg];kernel_rfl
theorem F10.ret:jv F10.res K0 (F10.fr f u j g l p i o q s a e b c d) h nx=K0 u h nx:=by kernel_rfl
end
end Go.Ev
