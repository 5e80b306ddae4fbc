import Derived.Test.YtlfhlkknakiafaaGreatDoorIrT
import Derived.Test.YtlfhlkknakiafaaGreatDoorEvD
import Derived.KernelRfl
set_option linter.unusedSimpArgs false
set_option linter.unusedVariables false
namespace Go.Ev
open Go Go.Proofs
set_option maxRecDepth 100000
section
variable {N : Nat} {C : Calls Prop} {K0 : Kw Prop} {K : Ks Prop} {h : T Blk} {nx : Pa} {F E G M H L P Q U V b c a0 a1 : AV} {O : Outs Prop} {tm : T AV} {Kt : KTm} {r : List RO} {s0 s1 s2 s3 s4 s5 s6 s7 s8 s9 s10 s11 s12 s13 s14 s15 s16 s17 s18 s19 s20 s21 s22 s23 s24 s25 s26 s27 s28 s29 s30 s31 s32 s33 s34 s35 s36 s37 s38 s39 s40 s41 s42 s43 s44 s45 s46 s47 s48 s49 s50 s51 s52 s53 s54 s55 s56 s57 s58 s59 : AV}
end
end Go.Ev
namespace Go.Ev
open Go Go.Proofs
set_option maxRecDepth 100000
section
variable {N : Nat} {C : Calls Prop} {K0 : Kw Prop} {K : Ks Prop} {h : T Blk} {nx : Pa} {F E G a0 : AV} {O : Outs Prop} {tm : T AV} {Kt : KTm} {r : List RO} {s0 s1 s2 s3 s4 s5 s6 s7 s8 s9 s10 s11 s12 s13 s14 s15 s16 s17 s18 s19 s20 s21 s22 s23 s24 s25 s26 s27 s28 s29 s30 s31 s32 s33 s34 s35 s36 s37 s38 s39 s40 s41 s42 s43 s44 s45 s46 s47 s48 s49 s50 s51 s52 s53 s54 s55 s56 s57 s58 s59 : AV}
end
end Go.Ev
namespace Go.Ev
open Go Go.Proofs
set_option maxRecDepth 100000
section
variable {N : Nat} {C : Calls Prop} {K0 : Kw Prop} {K : Ks Prop} {h : T Blk} {nx : Pa} {F E G M a0 : AV} {O : Outs Prop} {tm : T AV} {Kt : KTm} {r : List RO} {s0 s1 s2 s3 s4 s5 s6 s7 s8 s9 s10 s11 s12 s13 s14 s15 s16 s17 s18 s19 s20 s21 s22 s23 s24 s25 s26 s27 s28 s29 s30 s31 s32 s33 s34 s35 s36 s37 s38 s39 s40 s41 s42 s43 s44 s45 s46 s47 s48 s49 s50 s51 s52 s53 s54 s55 s56 s57 s58 s59 : AV}
end
end Go.Ev
namespace Go.Ev
open Go Go.Proofs
set_option maxRecDepth 100000
section
variable {N : Nat} {C : Calls Prop} {K0 : Kw Prop} {K : Ks Prop} {h : T Blk} {nx : Pa} {F E G M H L P Q U a0 a1 : AV} {O : Outs Prop} {tm : T AV} {Kt : KTm} {r : List RO} {s0 s1 s2 s3 s4 s5 s6 s7 s8 s9 s10 s11 s12 s13 s14 s15 s16 s17 s18 s19 s20 s21 s22 s23 s24 s25 s26 s27 s28 s29 s30 s31 s32 s33 s34 s35 s36 s37 s38 s39 s40 s41 s42 s43 s44 s45 s46 s47 s48 s49 s50 s51 s52 s53 s54 s55 s56 s57 s58 s59 : AV}
end
end Go.Ev
namespace Go.Ev
open Go Go.Proofs
set_option maxRecDepth 100000
section
variable {N : Nat} {C : Calls Prop} {K0 : Kw Prop} {K : Ks Prop} {h : T Blk} {nx : Pa} {F E G M H L P Q U V b c a0 a1 : AV} {O : Outs Prop} {tm : T AV} {Kt : KTm} {r : List RO} {s0 s1 s2 s3 s4 s5 s6 s7 s8 s9 s10 s11 s12 s13 s14 s15 s16 s17 s18 s19 s20 s21 s22 s23 s24 s25 s26 s27 s28 s29 s30 s31 s32 s33 s34 s35 s36 s37 s38 s39 s40 s41 s42 s43 s44 s45 s46 s47 s48 s49 s50 s51 s52 s53 s54 s55 s56 s57 s58 s59 : AV}
end
end Go.Ev
namespace Go.Ev
open Go Go.Proofs
set_option maxRecDepth 100000
section
variable {N : Nat} {C : Calls Prop} {K0 : Kw Prop} {K : Ks Prop} {h : T Blk} {nx : Pa} {F E G M H L P Q U V b a0 a1 : AV} {O : Outs Prop} {tm : T AV} {Kt : KTm} {r : List RO} {s0 s1 s2 s3 s4 s5 s6 s7 s8 s9 s10 s11 s12 s13 s14 s15 s16 s17 s18 s19 s20 s21 s22 s23 s24 s25 s26 s27 s28 s29 s30 s31 s32 s33 s34 s35 s36 s37 s38 s39 s40 s41 s42 s43 s44 s45 s46 s47 s48 s49 s50 s51 s52 s53 s54 s55 s56 s57 s58 s59 : AV}
end
end Go.Ev
namespace Go.Ev
open Go Go.Proofs
set_option maxRecDepth 100000
section
variable {N : Nat} {C : Calls Prop} {K0 : Kw Prop} {K : Ks Prop} {h : T Blk} {nx : Pa} {F E G M H L P Q U V b c d e f g i j a l a0 a1 : AV} {O : Outs Prop} {tm : T AV} {Kt : KTm} {r : List RO} {s0 s1 s2 s3 s4 s5 s6 s7 s8 s9 s10 s11 s12 s13 s14 s15 s16 s17 s18 s19 s20 s21 s22 s23 s24 s25 s26 s27 s28 s29 s30 s31 s32 s33 s34 s35 s36 s37 s38 s39 s40 s41 s42 s43 s44 s45 s46 s47 s48 s49 s50 s51 s52 s53 s54 s55 s56 s57 s58 s59 : AV}
end
end Go.Ev
namespace Go.Ev
open Go Go.Proofs
set_option maxRecDepth 100000
section
variable {N : Nat} {C : Calls Prop} {K0 : Kw Prop} {K : Ks Prop} {h : T Blk} {nx : Pa} {F E G M H a0 : AV} {O : Outs Prop} {tm : T AV} {Kt : KTm} {r : List RO} {s0 s1 s2 s3 s4 s5 s6 s7 s8 s9 s10 s11 s12 s13 s14 s15 s16 s17 s18 s19 s20 s21 s22 s23 s24 s25 s26 s27 s28 s29 s30 s31 s32 s33 s34 s35 s36 s37 s38 s39 s40 s41 s42 s43 s44 s45 s46 s47 s48 s49 s50 s51 s52 s53 s54 s55 s56 s57 s58 s59 : AV}
end
end Go.Ev
namespace Go.Ev
open Go Go.Proofs
set_option maxRecDepth 100000
section
variable {N : Nat} {C : Calls Prop} {K0 : Kw Prop} {K : Ks Prop} {h : T Blk} {nx : Pa} {F E a0 : AV} {O : Outs Prop} {tm : T AV} {Kt : KTm} {r : List RO} {s0 s1 s2 s3 s4 s5 s6 s7 s8 s9 s10 s11 s12 s13 s14 s15 s16 s17 s18 s19 s20 s21 s22 s23 s24 s25 s26 s27 s28 s29 s30 s31 s32 s33 s34 s35 s36 s37 s38 s39 s40 s41 s42 s43 s44 s45 s46 s47 s48 s49 s50 s51 s52 s53 s54 s55 s56 s57 s58 s59 : AV}
end
end Go.Ev
namespace Go.Ev
open Go Go.Proofs
set_option maxRecDepth 100000
section
variable {N : Nat} {C : Calls Prop} {K0 : Kw Prop} {K : Ks Prop} {h : T Blk} {nx : Pa} {F E G M H L P Q U V b c d e f g i j a l p o q a0 a1 a2 : AV} {O : Outs Prop} {tm : T AV} {Kt : KTm} {r : List RO} {s0 s1 s2 s3 s4 s5 s6 s7 s8 s9 s10 s11 s12 s13 s14 s15 s16 s17 s18 s19 s20 s21 s22 s23 s24 s25 s26 s27 s28 s29 s30 s31 s32 s33 s34 s35 s36 s37 s38 s39 s40 s41 s42 s43 s44 s45 s46 s47 s48 s49 s50 s51 s52 s53 s54 s55 s56 s57 s58 s59 : AV}
end
end Go.Ev
namespace Go.Ev
open Go Go.Proofs
set_option maxRecDepth 100000
section
variable {N : Nat} {C : Calls Prop} {K0 : Kw Prop} {K : Ks Prop} {h : T Blk} {nx : Pa} {F E G M H L P Q U V b c d e f g i j a l p o q s v u w a0 a1 : AV} {O : Outs Prop} {tm : T AV} {Kt : KTm} {r : List RO} {s0 s1 s2 s3 s4 s5 s6 s7 s8 s9 s10 s11 s12 s13 s14 s15 s16 s17 s18 s19 s20 s21 s22 s23 s24 s25 s26 s27 s28 s29 s30 s31 s32 s33 s34 s35 s36 s37 s38 s39 s40 s41 s42 s43 s44 s45 s46 s47 s48 s49 s50 s51 s52 s53 s54 s55 s56 s57 s58 s59 : AV}
end
end Go.Ev
namespace Go.Ev
open Go Go.Proofs
set_option maxRecDepth 100000
section
variable {N : Nat} {C : Calls Prop} {K0 : Kw Prop} {K : Ks Prop} {h : T Blk} {nx : Pa} {F E G M H L P Q U V b a0 a1 : AV} {O : Outs Prop} {tm : T AV} {Kt : KTm} {r : List RO} {s0 s1 s2 s3 s4 s5 s6 s7 s8 s9 s10 s11 s12 s13 s14 s15 s16 s17 s18 s19 s20 s21 s22 s23 s24 s25 s26 s27 s28 s29 s30 s31 s32 s33 s34 s35 s36 s37 s38 s39 s40 s41 s42 s43 s44 s45 s46 s47 s48 s49 s50 s51 s52 s53 s54 s55 s56 s57 s58 s59 : AV}
end
end Go.Ev
namespace Go.Ev
open Go Go.Proofs
set_option maxRecDepth 100000
section
variable {N : Nat} {C : Calls Prop} {K0 : Kw Prop} {K : Ks Prop} {h : T Blk} {nx : Pa} {F E G M H L P Q U V b c d e f g i j a l p o a0 a1 : AV} {O : Outs Prop} {tm : T AV} {Kt : KTm} {r : List RO} {s0 s1 s2 s3 s4 s5 s6 s7 s8 s9 s10 s11 s12 s13 s14 s15 s16 s17 s18 s19 s20 s21 s22 s23 s24 s25 s26 s27 s28 s29 s30 s31 s32 s33 s34 s35 s36 s37 s38 s39 s40 s41 s42 s43 s44 s45 s46 s47 s48 s49 s50 s51 s52 s53 s54 s55 s56 s57 s58 s59 : AV}
end
end Go.Ev
namespace Go.Ev
open Go Go.Proofs
set_option maxRecDepth 100000
section
variable {N : Nat} {C : Calls Prop} {K0 : Kw Prop} {K : Ks Prop} {h : T Blk} {nx : Pa} {F E G M H L a0 : AV} {O : Outs Prop} {tm : T AV} {Kt : KTm} {r : List RO} {s0 s1 s2 s3 s4 s5 s6 s7 s8 s9 s10 s11 s12 s13 s14 s15 s16 s17 s18 s19 s20 s21 s22 s23 s24 s25 s26 s27 s28 s29 s30 s31 s32 s33 s34 s35 s36 s37 s38 s39 s40 s41 s42 s43 s44 s45 s46 s47 s48 s49 s50 s51 s52 s53 s54 s55 s56 s57 s58 s59 : AV}
end
end Go.Ev
namespace Go.Ev
open Go Go.Proofs
set_option maxRecDepth 100000
section
variable {N : Nat} {C : Calls Prop} {K0 : Kw Prop} {K : Ks Prop} {h : T Blk} {nx : Pa} {F E G M H L P a0 a1 : AV} {O : Outs Prop} {tm : T AV} {Kt : KTm} {r : List RO} {s0 s1 s2 s3 s4 s5 s6 s7 s8 s9 s10 s11 s12 s13 s14 s15 s16 s17 s18 s19 s20 s21 s22 s23 s24 s25 s26 s27 s28 s29 s30 s31 s32 s33 s34 s35 s36 s37 s38 s39 s40 s41 s42 s43 s44 s45 s46 s47 s48 s49 s50 s51 s52 s53 s54 s55 s56 s57 s58 s59 : AV}
end
end Go.Ev
namespace Go.Ev
open Go Go.Proofs
set_option maxRecDepth 100000
section
variable {N : Nat} {C : Calls Prop} {K0 : Kw Prop} {K : Ks Prop} {h : T Blk} {nx : Pa} {F E a0 : AV} {O : Outs Prop} {tm : T AV} {Kt : KTm} {r : List RO} {s0 s1 s2 s3 s4 s5 s6 s7 s8 s9 s10 s11 s12 s13 s14 s15 s16 s17 s18 s19 s20 s21 s22 s23 s24 s25 s26 s27 s28 s29 s30 s31 s32 s33 s34 s35 s36 s37 s38 s39 s40 s41 s42 s43 s44 s45 s46 s47 s48 s49 s50 s51 s52 s53 s54 s55 s56 s57 s58 s59 : AV}
noncomputable def F190.t0 : IR := .reg [.w (.loc (.of 1)) none (.alloc [(I 0), .nils])]
noncomputable def F190.t1 : IR := .reg [.s (.mv (.t (.of 0))), .s (.build [(I 0), .nils] [(0, 1, (.s 0))]), .w .none none (.store 2 (.t (.of 1)) (.s 0))]
noncomputable def F190.t2 : IR := .seq F190.t1 .ret
noncomputable def F190.t3 : IR := .seq F190.t0 F190.t2
theorem F190.t0_s : IR.run F190.t0 C N O K (F190.fr F E) h nx =
 y9 [(I 0), .nils] h nx fun v1 h2 n3 => K (F190.fr F v1) h2 n3 := by kernel_rfl
theorem F190.t1_s : IR.run F190.t1 C N O K (F190.fr F E) h nx =
 sBuild [(I 0), .nils] [(0, 1, F)] fun v1 => yX 2 E v1 h nx fun v2 h3 n4 => K (F190.fr F E) h3 n4 := by kernel_rfl
theorem F190.tab : T.get none (.of 190) tbl = some F190 := by kernel_rfl
theorem F190.bind (k : T AV → OP) : yL F190.params [a0] F190.init k = k (F190.fr a0 .undef) := by kernel_rfl
theorem F190.body_eq : F190.body = F190.t3 := by kernel_rfl
theorem F190.go : y4 tbl N C (.of 190) [a0] h nx K0 = IR.run F190.t3 C N (fnO F190.res K0) (retK F190.res K0) (F190.fr a0 .undef) h nx := by
 rw [kE F190.tab, F190.bind, F190.body_eq]; kernel_rfl
theorem F190.ret : retK F190.res K0 (F190.fr F E) h nx = zG 2 E h fun v1 => K0 v1 h nx := by kernel_rfl
end
end Go.Ev
namespace Go.Ev
open Go Go.Proofs
set_option maxRecDepth 100000
section
variable {N : Nat} {C : Calls Prop} {K0 : Kw Prop} {K : Ks Prop} {h : T Blk} {nx : Pa} {F E G a0 : AV} {O : Outs Prop} {tm : T AV} {Kt : KTm} {r : List RO} {s0 s1 s2 s3 s4 s5 s6 s7 s8 s9 s10 s11 s12 s13 s14 s15 s16 s17 s18 s19 s20 s21 s22 s23 s24 s25 s26 s27 s28 s29 s30 s31 s32 s33 s34 s35 s36 s37 s38 s39 s40 s41 s42 s43 s44 s45 s46 s47 s48 s49 s50 s51 s52 s53 s54 s55 s56 s57 s58 s59 : AV}
end
end Go.Ev
namespace Go.Ev
open Go Go.Proofs
set_option maxRecDepth 100000
section
variable {N : Nat} {C : Calls Prop} {K0 : Kw Prop} {K : Ks Prop} {h : T Blk} {nx : Pa} {F E G M H L a0 : AV} {O : Outs Prop} {tm : T AV} {Kt : KTm} {r : List RO} {s0 s1 s2 s3 s4 s5 s6 s7 s8 s9 s10 s11 s12 s13 s14 s15 s16 s17 s18 s19 s20 s21 s22 s23 s24 s25 s26 s27 s28 s29 s30 s31 s32 s33 s34 s35 s36 s37 s38 s39 s40 s41 s42 s43 s44 s45 s46 s47 s48 s49 s50 s51 s52 s53 s54 s55 s56 s57 s58 s59 : AV}
end
end Go.Ev
namespace Go.Ev
open Go Go.Proofs
set_option maxRecDepth 100000
section
variable {N : Nat} {C : Calls Prop} {K0 : Kw Prop} {K : Ks Prop} {h : T Blk} {nx : Pa} {F E G M H L P Q U V b c d e a0 a1 : AV} {O : Outs Prop} {tm : T AV} {Kt : KTm} {r : List RO} {s0 s1 s2 s3 s4 s5 s6 s7 s8 s9 s10 s11 s12 s13 s14 s15 s16 s17 s18 s19 s20 s21 s22 s23 s24 s25 s26 s27 s28 s29 s30 s31 s32 s33 s34 s35 s36 s37 s38 s39 s40 s41 s42 s43 s44 s45 s46 s47 s48 s49 s50 s51 s52 s53 s54 s55 s56 s57 s58 s59 : AV}
end
end Go.Ev
namespace Go.Ev
open Go Go.Proofs
set_option maxRecDepth 100000
section
variable {N : Nat} {C : Calls Prop} {K0 : Kw Prop} {K : Ks Prop} {h : T Blk} {nx : Pa} {F E G M H a0 a1 : AV} {O : Outs Prop} {tm : T AV} {Kt : KTm} {r : List RO} {s0 s1 s2 s3 s4 s5 s6 s7 s8 s9 s10 s11 s12 s13 s14 s15 s16 s17 s18 s19 s20 s21 s22 s23 s24 s25 s26 s27 s28 s29 s30 s31 s32 s33 s34 s35 s36 s37 s38 s39 s40 s41 s42 s43 s44 s45 s46 s47 s48 s49 s50 s51 s52 s53 s54 s55 s56 s57 s58 s59 : AV}
end
end Go.Ev
namespace Go.Ev
open Go Go.Proofs
set_option maxRecDepth 100000
section
variable {N : Nat} {C : Calls Prop} {K0 : Kw Prop} {K : Ks Prop} {h : T Blk} {nx : Pa} {F E G M H L P Q U V b c d e a0 a1 : AV} {O : Outs Prop} {tm : T AV} {Kt : KTm} {r : List RO} {s0 s1 s2 s3 s4 s5 s6 s7 s8 s9 s10 s11 s12 s13 s14 s15 s16 s17 s18 s19 s20 s21 s22 s23 s24 s25 s26 s27 s28 s29 s30 s31 s32 s33 s34 s35 s36 s37 s38 s39 s40 s41 s42 s43 s44 s45 s46 s47 s48 s49 s50 s51 s52 s53 s54 s55 s56 s57 s58 s59 : AV}
end
end Go.Ev
namespace Go.Ev
open Go Go.Proofs
set_option maxRecDepth 100000
section
variable {N : Nat} {C : Calls Prop} {K0 : Kw Prop} {K : Ks Prop} {h : T Blk} {nx : Pa} {F E G M H L P Q a0 a1 : AV} {O : Outs Prop} {tm : T AV} {Kt : KTm} {r : List RO} {s0 s1 s2 s3 s4 s5 s6 s7 s8 s9 s10 s11 s12 s13 s14 s15 s16 s17 s18 s19 s20 s21 s22 s23 s24 s25 s26 s27 s28 s29 s30 s31 s32 s33 s34 s35 s36 s37 s38 s39 s40 s41 s42 s43 s44 s45 s46 s47 s48 s49 s50 s51 s52 s53 s54 s55 s56 s57 s58 s59 : AV}
end
end Go.Ev
namespace Go.Ev
open Go Go.Proofs
set_option maxRecDepth 100000
section
variable {N : Nat} {C : Calls Prop} {K0 : Kw Prop} {K : Ks Prop} {h : T Blk} {nx : Pa} {F E G M H L P Q U V b c d e f g i j a0 a1 : AV} {O : Outs Prop} {tm : T AV} {Kt : KTm} {r : List RO} {s0 s1 s2 s3 s4 s5 s6 s7 s8 s9 s10 s11 s12 s13 s14 s15 s16 s17 s18 s19 s20 s21 s22 s23 s24 s25 s26 s27 s28 s29 s30 s31 s32 s33 s34 s35 s36 s37 s38 s39 s40 s41 s42 s43 s44 s45 s46 s47 s48 s49 s50 s51 s52 s53 s54 s55 s56 s57 s58 s59 : AV}
end
end Go.Ev
namespace Go.Ev
open Go Go.Proofs
set_option maxRecDepth 100000
section
variable {N : Nat} {C : Calls Prop} {K0 : Kw Prop} {K : Ks Prop} {h : T Blk} {nx : Pa} {F E G M H L P a0 a1 : AV} {O : Outs Prop} {tm : T AV} {Kt : KTm} {r : List RO} {s0 s1 s2 s3 s4 s5 s6 s7 s8 s9 s10 s11 s12 s13 s14 s15 s16 s17 s18 s19 s20 s21 s22 s23 s24 s25 s26 s27 s28 s29 s30 s31 s32 s33 s34 s35 s36 s37 s38 s39 s40 s41 s42 s43 s44 s45 s46 s47 s48 s49 s50 s51 s52 s53 s54 s55 s56 s57 s58 s59 : AV}
end
end Go.Ev
namespace Go.Ev
open Go Go.Proofs
set_option maxRecDepth 100000
section
variable {N : Nat} {C : Calls Prop} {K0 : Kw Prop} {K : Ks Prop} {h : T Blk} {nx : Pa} {F E G M a0 : AV} {O : Outs Prop} {tm : T AV} {Kt : KTm} {r : List RO} {s0 s1 s2 s3 s4 s5 s6 s7 s8 s9 s10 s11 s12 s13 s14 s15 s16 s17 s18 s19 s20 s21 s22 s23 s24 s25 s26 s27 s28 s29 s30 s31 s32 s33 s34 s35 s36 s37 s38 s39 s40 s41 s42 s43 s44 s45 s46 s47 s48 s49 s50 s51 s52 s53 s54 s55 s56 s57 s58 s59 : AV}
end
end Go.Ev
namespace Go.Ev
open Go Go.Proofs
set_option maxRecDepth 100000
section
variable {N : Nat} {C : Calls Prop} {K0 : Kw Prop} {K : Ks Prop} {h : T Blk} {nx : Pa} {F E G M H L P a0 a1 : AV} {O : Outs Prop} {tm : T AV} {Kt : KTm} {r : List RO} {s0 s1 s2 s3 s4 s5 s6 s7 s8 s9 s10 s11 s12 s13 s14 s15 s16 s17 s18 s19 s20 s21 s22 s23 s24 s25 s26 s27 s28 s29 s30 s31 s32 s33 s34 s35 s36 s37 s38 s39 s40 s41 s42 s43 s44 s45 s46 s47 s48 s49 s50 s51 s52 s53 s54 s55 s56 s57 s58 s59 : AV}
end
end Go.Ev
namespace Go.Ev
open Go Go.Proofs
set_option maxRecDepth 100000
section
variable {N : Nat} {C : Calls Prop} {K0 : Kw Prop} {K : Ks Prop} {h : T Blk} {nx : Pa} {F E G a0 : AV} {O : Outs Prop} {tm : T AV} {Kt : KTm} {r : List RO} {s0 s1 s2 s3 s4 s5 s6 s7 s8 s9 s10 s11 s12 s13 s14 s15 s16 s17 s18 s19 s20 s21 s22 s23 s24 s25 s26 s27 s28 s29 s30 s31 s32 s33 s34 s35 s36 s37 s38 s39 s40 s41 s42 s43 s44 s45 s46 s47 s48 s49 s50 s51 s52 s53 s54 s55 s56 s57 s58 s59 : AV}
end
end Go.Ev
namespace Go.Ev
open Go Go.Proofs
set_option maxRecDepth 100000
section
variable {N : Nat} {C : Calls Prop} {K0 : Kw Prop} {K : Ks Prop} {h : T Blk} {nx : Pa} {F E G a0 : AV} {O : Outs Prop} {tm : T AV} {Kt : KTm} {r : List RO} {s0 s1 s2 s3 s4 s5 s6 s7 s8 s9 s10 s11 s12 s13 s14 s15 s16 s17 s18 s19 s20 s21 s22 s23 s24 s25 s26 s27 s28 s29 s30 s31 s32 s33 s34 s35 s36 s37 s38 s39 s40 s41 s42 s43 s44 s45 s46 s47 s48 s49 s50 s51 s52 s53 s54 s55 s56 s57 s58 s59 : AV}
noncomputable def F189.t0 : IR := .reg [.w (.loc (.of 1)) none (.box (.t (.of 0))), .w (.loc (.of 2)) none (.alloc [(I 0), .nils, (I 0), .nils])]
noncomputable def F189.t1 : IR := .dreg [] [(.s (.loadN 2 (.t (.of 1))), 1, []), (.w .push none (.call (.c (.fn 190 (.of 190) [])) [(.c (I 1))]), 0, []), (.s (.build [(I 0), .nils, (I 0), .nils] [(0, 2, (.s 1)), (2, 2, (.s 0))]), 0, []), (.w .none none (.store 4 (.t (.of 2)) (.s 0)), 0, [])]
noncomputable def F189.t2 : IR := .seq F189.t1 .ret
noncomputable def F189.t3 : IR := .seq F189.t0 F189.t2
theorem F189.t0_s : IR.run F189.t0 C N O K (F189.fr F E G) h nx =
 sBox F h nx fun v1 h2 n3 => y9 [(I 0), .nils, (I 0), .nils] h2 n3 fun v4 h5 n6 => K (F189.fr F v1 v4) h5 n6 := by kernel_rfl
theorem F189.t1_s : IR.run F189.t1 C N O K (F189.fr F E G) h nx =
 zG 2 E h fun v1 => C.fn 190 (.of 190) [(I 1)] h nx fun v2 h3 n4 => (zG 2 E h3 fun v9 => zF v9 v1 (sBuild [(I 0), .nils, (I 0), .nils] [(0, 2, v1), (2, 2, v2)] fun v5 => yX 4 G v5 h3 n4 fun v6 h7 n8 => K (F189.fr F E G) h7 n8)) := by kernel_rfl
theorem F189.tab : T.get none (.of 189) tbl = some F189 := by kernel_rfl
theorem F189.bind (k : T AV → OP) : yL F189.params [a0] F189.init k = k (F189.fr a0 .undef .undef) := by kernel_rfl
theorem F189.body_eq : F189.body = F189.t3 := by kernel_rfl
theorem F189.go : y4 tbl N C (.of 189) [a0] h nx K0 = IR.run F189.t3 C N (fnO F189.res K0) (retK F189.res K0) (F189.fr a0 .undef .undef) h nx := by
 rw [kE F189.tab, F189.bind, F189.body_eq]; kernel_rfl
theorem F189.ret : retK F189.res K0 (F189.fr F E G) h nx = zG 4 G h fun v1 => K0 v1 h nx := by kernel_rfl
end
end Go.Ev
namespace Go.Ev
open Go Go.Proofs
set_option maxRecDepth 100000
section
variable {N : Nat} {C : Calls Prop} {K0 : Kw Prop} {K : Ks Prop} {h : T Blk} {nx : Pa} {F E a0 : AV} {O : Outs Prop} {tm : T AV} {Kt : KTm} {r : List RO} {s0 s1 s2 s3 s4 s5 s6 s7 s8 s9 s10 s11 s12 s13 s14 s15 s16 s17 s18 s19 s20 s21 s22 s23 s24 s25 s26 s27 s28 s29 s30 s31 s32 s33 s34 s35 s36 s37 s38 s39 s40 s41 s42 s43 s44 s45 s46 s47 s48 s49 s50 s51 s52 s53 s54 s55 s56 s57 s58 s59 : AV}
noncomputable def F89.t0 : IR := .reg [.w (.loc (.of 1)) none (.alloc [(I 0), .nils, (I 0), .nils])]
noncomputable def F89.t1 : IR := .reg [.s (.mv (.t (.of 0))), .w .push none (.call (.c (.fn 190 (.of 190) [])) [(.s 0)]), .w .push none (.call (.c (.fn 189 (.of 189) [])) [(.s 0)]), .w .none none (.store 4 (.t (.of 1)) (.s 0))]
noncomputable def F89.t2 : IR := .seq F89.t1 .ret
noncomputable def F89.t3 : IR := .seq F89.t0 F89.t2
theorem F89.t0_s : IR.run F89.t0 C N O K (F89.fr F E) h nx =
 y9 [(I 0), .nils, (I 0), .nils] h nx fun v1 h2 n3 => K (F89.fr F v1) h2 n3 := by kernel_rfl
theorem F89.t1_s : IR.run F89.t1 C N O K (F89.fr F E) h nx =
 C.fn 190 (.of 190) [F] h nx fun v1 h2 n3 => C.fn 189 (.of 189) [v1] h2 n3 fun v4 h5 n6 => yX 4 E v4 h5 n6 fun v7 h8 n9 => K (F89.fr F E) h8 n9 := by kernel_rfl
theorem F89.tab : T.get none (.of 89) tbl = some F89 := by kernel_rfl
theorem F89.bind (k : T AV → OP) : yL F89.params [a0] F89.init k = k (F89.fr a0 .undef) := by kernel_rfl
theorem F89.body_eq : F89.body = F89.t3 := by kernel_rfl
theorem F89.go : y4 tbl N C (.of 89) [a0] h nx K0 = IR.run F89.t3 C N (fnO F89.res K0) (retK F89.res K0) (F89.fr a0 .undef) h nx := by
 rw [kE F89.tab, F89.bind, F89.body_eq]; kernel_rfl
theorem F89.ret : retK F89.res K0 (F89.fr F E) h nx = zG 4 E h fun v1 => K0 v1 h nx := by kernel_rfl
end
end Go.Ev
namespace Go.Ev
open Go Go.Proofs
set_option maxRecDepth 100000
section
variable {N : Nat} {C : Calls Prop} {K0 : Kw Prop} {K : Ks Prop} {h : T Blk} {nx : Pa} {F E G M H L P Q a0 a1 : AV} {O : Outs Prop} {tm : T AV} {Kt : KTm} {r : List RO} {s0 s1 s2 s3 s4 s5 s6 s7 s8 s9 s10 s11 s12 s13 s14 s15 s16 s17 s18 s19 s20 s21 s22 s23 s24 s25 s26 s27 s28 s29 s30 s31 s32 s33 s34 s35 s36 s37 s38 s39 s40 s41 s42 s43 s44 s45 s46 s47 s48 s49 s50 s51 s52 s53 s54 s55 s56 s57 s58 s59 : AV}
end
end Go.Ev
namespace Go.Ev
open Go Go.Proofs
set_option maxRecDepth 100000
section
variable {N : Nat} {C : Calls Prop} {K0 : Kw Prop} {K : Ks Prop} {h : T Blk} {nx : Pa} {F E G a0 : AV} {O : Outs Prop} {tm : T AV} {Kt : KTm} {r : List RO} {s0 s1 s2 s3 s4 s5 s6 s7 s8 s9 s10 s11 s12 s13 s14 s15 s16 s17 s18 s19 s20 s21 s22 s23 s24 s25 s26 s27 s28 s29 s30 s31 s32 s33 s34 s35 s36 s37 s38 s39 s40 s41 s42 s43 s44 s45 s46 s47 s48 s49 s50 s51 s52 s53 s54 s55 s56 s57 s58 s59 : AV}
end
end Go.Ev
namespace Go.Ev
open Go Go.Proofs
set_option maxRecDepth 100000
section
variable {N : Nat} {C : Calls Prop} {K0 : Kw Prop} {K : Ks Prop} {h : T Blk} {nx : Pa} {F E G a0 : AV} {O : Outs Prop} {tm : T AV} {Kt : KTm} {r : List RO} {s0 s1 s2 s3 s4 s5 s6 s7 s8 s9 s10 s11 s12 s13 s14 s15 s16 s17 s18 s19 s20 s21 s22 s23 s24 s25 s26 s27 s28 s29 s30 s31 s32 s33 s34 s35 s36 s37 s38 s39 s40 s41 s42 s43 s44 s45 s46 s47 s48 s49 s50 s51 s52 s53 s54 s55 s56 s57 s58 s59 : AV}
end
end Go.Ev
namespace Go.Ev
open Go Go.Proofs
set_option maxRecDepth 100000
section
variable {N : Nat} {C : Calls Prop} {K0 : Kw Prop} {K : Ks Prop} {h : T Blk} {nx : Pa} {F E G a0 : AV} {O : Outs Prop} {tm : T AV} {Kt : KTm} {r : List RO} {s0 s1 s2 s3 s4 s5 s6 s7 s8 s9 s10 s11 s12 s13 s14 s15 s16 s17 s18 s19 s20 s21 s22 s23 s24 s25 s26 s27 s28 s29 s30 s31 s32 s33 s34 s35 s36 s37 s38 s39 s40 s41 s42 s43 s44 s45 s46 s47 s48 s49 s50 s51 s52 s53 s54 s55 s56 s57 s58 s59 : AV}
end
end Go.Ev
namespace Go.Ev
open Go Go.Proofs
set_option maxRecDepth 100000
section
variable {N : Nat} {C : Calls Prop} {K0 : Kw Prop} {K : Ks Prop} {h : T Blk} {nx : Pa} {F E G M H a0 a1 : AV} {O : Outs Prop} {tm : T AV} {Kt : KTm} {r : List RO} {s0 s1 s2 s3 s4 s5 s6 s7 s8 s9 s10 s11 s12 s13 s14 s15 s16 s17 s18 s19 s20 s21 s22 s23 s24 s25 s26 s27 s28 s29 s30 s31 s32 s33 s34 s35 s36 s37 s38 s39 s40 s41 s42 s43 s44 s45 s46 s47 s48 s49 s50 s51 s52 s53 s54 s55 s56 s57 s58 s59 : AV}
end
end Go.Ev
namespace Go.Ev
open Go Go.Proofs
set_option maxRecDepth 100000
section
variable {N : Nat} {C : Calls Prop} {K0 : Kw Prop} {K : Ks Prop} {h : T Blk} {nx : Pa} {F E G M H L a0 a1 : AV} {O : Outs Prop} {tm : T AV} {Kt : KTm} {r : List RO} {s0 s1 s2 s3 s4 s5 s6 s7 s8 s9 s10 s11 s12 s13 s14 s15 s16 s17 s18 s19 s20 s21 s22 s23 s24 s25 s26 s27 s28 s29 s30 s31 s32 s33 s34 s35 s36 s37 s38 s39 s40 s41 s42 s43 s44 s45 s46 s47 s48 s49 s50 s51 s52 s53 s54 s55 s56 s57 s58 s59 : AV}
end
end Go.Ev
namespace Go.Ev
open Go Go.Proofs
set_option maxRecDepth 100000
section
variable {N : Nat} {C : Calls Prop} {K0 : Kw Prop} {K : Ks Prop} {h : T Blk} {nx : Pa} {F E G M H a0 a1 : AV} {O : Outs Prop} {tm : T AV} {Kt : KTm} {r : List RO} {s0 s1 s2 s3 s4 s5 s6 s7 s8 s9 s10 s11 s12 s13 s14 s15 s16 s17 s18 s19 s20 s21 s22 s23 s24 s25 s26 s27 s28 s29 s30 s31 s32 s33 s34 s35 s36 s37 s38 s39 s40 s41 s42 s43 s44 s45 s46 s47 s48 s49 s50 s51 s52 s53 s54 s55 s56 s57 s58 s59 : AV}
end
end Go.Ev
namespace Go.Ev
open Go Go.Proofs
set_option maxRecDepth 100000
section
variable {N : Nat} {C : Calls Prop} {K0 : Kw Prop} {K : Ks Prop} {h : T Blk} {nx : Pa} {F E G M H a0 a1 : AV} {O : Outs Prop} {tm : T AV} {Kt : KTm} {r : List RO} {s0 s1 s2 s3 s4 s5 s6 s7 s8 s9 s10 s11 s12 s13 s14 s15 s16 s17 s18 s19 s20 s21 s22 s23 s24 s25 s26 s27 s28 s29 s30 s31 s32 s33 s34 s35 s36 s37 s38 s39 s40 s41 s42 s43 s44 s45 s46 s47 s48 s49 s50 s51 s52 s53 s54 s55 s56 s57 s58 s59 : AV}
end
end Go.Ev
namespace Go.Ev
open Go Go.Proofs
set_option maxRecDepth 100000
section
variable {N : Nat} {C : Calls Prop} {K0 : Kw Prop} {K : Ks Prop} {h : T Blk} {nx : Pa} {F E G M H a0 a1 : AV} {O : Outs Prop} {tm : T AV} {Kt : KTm} {r : List RO} {s0 s1 s2 s3 s4 s5 s6 s7 s8 s9 s10 s11 s12 s13 s14 s15 s16 s17 s18 s19 s20 s21 s22 s23 s24 s25 s26 s27 s28 s29 s30 s31 s32 s33 s34 s35 s36 s37 s38 s39 s40 s41 s42 s43 s44 s45 s46 s47 s48 s49 s50 s51 s52 s53 s54 s55 s56 s57 s58 s59 : AV}
end
end Go.Ev
namespace Go.Ev
open Go Go.Proofs
set_option maxRecDepth 100000
section
variable {N : Nat} {C : Calls Prop} {K0 : Kw Prop} {K : Ks Prop} {h : T Blk} {nx : Pa} {F E G M H a0 a1 : AV} {O : Outs Prop} {tm : T AV} {Kt : KTm} {r : List RO} {s0 s1 s2 s3 s4 s5 s6 s7 s8 s9 s10 s11 s12 s13 s14 s15 s16 s17 s18 s19 s20 s21 s22 s23 s24 s25 s26 s27 s28 s29 s30 s31 s32 s33 s34 s35 s36 s37 s38 s39 s40 s41 s42 s43 s44 s45 s46 s47 s48 s49 s50 s51 s52 s53 s54 s55 s56 s57 s58 s59 : AV}
end
end Go.Ev
namespace Go.Ev
open Go Go.Proofs
set_option maxRecDepth 100000
section
variable {N : Nat} {C : Calls Prop} {K0 : Kw Prop} {K : Ks Prop} {h : T Blk} {nx : Pa} {F E G M a0 : AV} {O : Outs Prop} {tm : T AV} {Kt : KTm} {r : List RO} {s0 s1 s2 s3 s4 s5 s6 s7 s8 s9 s10 s11 s12 s13 s14 s15 s16 s17 s18 s19 s20 s21 s22 s23 s24 s25 s26 s27 s28 s29 s30 s31 s32 s33 s34 s35 s36 s37 s38 s39 s40 s41 s42 s43 s44 s45 s46 s47 s48 s49 s50 s51 s52 s53 s54 s55 s56 s57 s58 s59 : AV}
end
end Go.Ev
namespace Go.Ev
open Go Go.Proofs
set_option maxRecDepth 100000
section
variable {N : Nat} {C : Calls Prop} {K0 : Kw Prop} {K : Ks Prop} {h : T Blk} {nx : Pa} {F E G M H L P Q U V b c d e f g i j a l p o q s v u w y z A B D a0 a1 a2 : AV} {O : Outs Prop} {tm : T AV} {Kt : KTm} {r : List RO} {s0 s1 s2 s3 s4 s5 s6 s7 s8 s9 s10 s11 s12 s13 s14 s15 s16 s17 s18 s19 s20 s21 s22 s23 s24 s25 s26 s27 s28 s29 s30 s31 s32 s33 s34 s35 s36 s37 s38 s39 s40 s41 s42 s43 s44 s45 s46 s47 s48 s49 s50 s51 s52 s53 s54 s55 s56 s57 s58 s59 : AV}
noncomputable def F3.t0 : IR := .reg [.q (.of 3) (.mv (.c (.bool false)))]
noncomputable def F3.t1 : IR := .reg [.w .push none (.bslice 1 3 [(I 0)] [(0, 1, (.c (I 3))), (1, 1, (.c (I 4))), (2, 1, (.c (I 5)))]), .s (.mv (.t (.of 0))), .s (.conv .i64 (.s 0)), .s (.bin .rem .int (.s 0) (.c (I 3))), .s (.iaddr 1 (.s 3) (.s 0)), .s (.load (.s 0)), .q (.of 4) (.mv (.s 0))]
noncomputable def F3.t2 : IR := .reg [.s (.mv (.t (.of 4))), .w .push none (.call (.c (.fn 8 (.of 8) [])) [(.s 0)]), .s (.mv (.s 0)), .s (.ext 0 (.s 0)), .s (.ext 1 (.s 1)), .q (.of 5) (.mv (.s 1)), .q (.of 6) (.mv (.s 0))]
noncomputable def F3.r3_1 : List RO := .q (.of 26) (.pick (.s 5) (.c (.bool true)) (.s 0)) :: []
noncomputable def F3.r3_0 : List RO := .s (.mv (.t (.of 6))) :: .s (.bin .neq .int (.s 0) (.c (I 0))) :: .s (.mv (.s 0)) :: .p .push (some ((.s 0), false)) (.mv (.t (.of 5))) :: .p .push (some ((.s 1), false)) (.len (.s 0)) :: .p .push (some ((.s 2), false)) (.mv (.t (.of 4))) :: .p .push (some ((.s 3), false)) (.bin .sub .int (.s 0) (.c (I 1))) :: .p .push (some ((.s 4), false)) (.bin .neq .int (.s 2) (.s 0)) :: F3.r3_1
noncomputable def F3.t3 : IR := .reg F3.r3_0
noncomputable def F3.t4 : IR := .reg [.q (.of 3) (.mv (.c (.bool false)))]
noncomputable def F3.t5 : IR := .seq F3.t4 .ret
noncomputable def F3.t6 : IR := .cond (.t (.of 26)) F3.t5 .skip
noncomputable def F3.t7 : IR := .seq F3.t3 F3.t6
noncomputable def F3.t8 : IR := .dreg [(.alloc [(I 0), (I 0), .nils]), (.alloc [(I 0), (I 0), .nils])] [(.s (.mv (.t (.of 5))), 2, []), (.s (.mv (.t (.of 1))), 2, []), (.s (.conv .i64 (.s 0)), 2, []), (.s (.mv (.t (.of 4))), 2, []), (.s (.bin .sub .int (.s 0) (.c (I 1))), 2, []), (.s (.bin .rem .int (.s 2) (.s 0)), 2, []), (.s (.iaddr 3 (.s 5) (.s 0)), 2, []), (.s (.loadN 3 (.s 0)), 2, []), (.s (.mv (.t (.of 5))), 3, []), (.s (.mv (.t (.of 2))), 3, []), (.s (.conv .i64 (.s 0)), 3, []), (.s (.mv (.t (.of 4))), 3, []), (.s (.bin .sub .int (.s 0) (.c (I 1))), 3, []), (.s (.bin .rem .int (.s 2) (.s 0)), 3, []), (.s (.iaddr 3 (.s 5) (.s 0)), 3, []), (.s (.loadN 3 (.s 0)), 3, []), (.w (.loc (.of 7)) none (.alloc [(I 0), (I 0), .nils]), 0, []), (.w (.loc (.of 8)) none (.alloc [(I 0), (I 0), .nils]), 0, []), (.w .none none (.store 3 (.t (.of 7)) (.s 8)), 0, []), (.w .none none (.store 3 (.t (.of 8)) (.s 0)), 0, [])]
noncomputable def F3.t9 : IR := .reg [.s (.loadN 3 (.t (.of 7))), .s (.loadN 3 (.t (.of 8))), .w .push none (.call (.c (.fn 9 (.of 9) [])) [(.s 1), (.s 0)]), .s (.mv (.s 0)), .s (.ext 0 (.s 0)), .s (.ext 1 (.s 1)), .w (.loc (.of 9)) none (.alloc [(I 0), (I 0), .nils]), .w .none none (.store 3 (.t (.of 9)) (.s 1)), .q (.of 10) (.mv (.s 0))]
noncomputable def F3.t10 : IR := .dreg [] [(.s (.mv (.t (.of 1))), 0, []), (.s (.conv .i64 (.s 0)), 0, []), (.s (.mv (.t (.of 4))), 0, []), (.s (.bin .sub .int (.s 0) (.c (I 1))), 0, []), (.s (.bin .rem .int (.s 2) (.s 0)), 0, []), (.s (.mv (.t (.of 2))), 0, []), (.s (.conv .i64 (.s 0)), 0, []), (.s (.mv (.t (.of 4))), 0, []), (.s (.bin .sub .int (.s 0) (.c (I 1))), 0, []), (.s (.bin .rem .int (.s 2) (.s 0)), 0, []), (.q (.of 27) (.bin .eql .int (.s 5) (.s 0)), 0, [])]
noncomputable def F3.t11 : IR := .reg [.s (.mv (.t (.of 10))), .s (.bin .eql .int (.s 0) (.c (I 9))), .s (.mv (.s 0)), .w .push (some ((.s 0), true)) (.call (.c (.fn 10 (.of 10) [])) []), .s (.pick (.s 1) (.s 0) (.c (.bool false))), .q (.of 3) (.mv (.s 0))]
noncomputable def F3.t12 : IR := .seq F3.t11 .ret
noncomputable def F3.t13 : IR := .cond (.t (.of 27)) F3.t12 .skip
noncomputable def F3.t14 : IR := .seq F3.t10 F3.t13
noncomputable def F3.t15 : IR := .reg [.s (.loadN 3 (.t (.of 9))), .w .push none (.call (.c (.fn 11 (.of 11) [])) [(.s 0)]), .s (.mv (.s 0)), .s (.ext 0 (.s 0)), .s (.ext 1 (.s 1)), .s (.ext 2 (.s 2)), .w (.loc (.of 11)) none (.alloc [(I 0), (I 0), .nils]), .w (.loc (.of 12)) none (.alloc [(I 0), (I 0), .nils]), .w .none none (.store 3 (.t (.of 11)) (.s 2)), .w .none none (.store 3 (.t (.of 12)) (.s 1)), .q (.of 13) (.mv (.s 0))]
noncomputable def F3.t16 : IR := .reg [.s (.mv (.t (.of 4))), .w .push none (.call (.c (.fn 12 (.of 12) [])) [(.c (.str [115, 101, 109, 105, 109, 97, 103, 105, 99])), (.s 0)]), .s (.mv (.s 0)), .s (.ext 0 (.s 0)), .s (.ext 1 (.s 1)), .w (.loc (.of 14)) none (.alloc [(I 0), .nils]), .w .none none (.store 2 (.t (.of 14)) (.s 1)), .q (.of 15) (.mv (.s 0))]
noncomputable def F3.r9_4 : List RO := .p .push (some ((.s 5), false)) (.bin .neq .int (.s 3) (.s 0)) :: .q (.of 28) (.pick (.s 6) (.c (.bool true)) (.s 0)) :: []
noncomputable def F3.r9_3 : List RO := .p .push (some ((.s 3), false)) (.not (.s 0)) :: .s (.pick (.s 4) (.c (.bool true)) (.s 0)) :: .s (.mv (.s 0)) :: .p .push (some ((.s 0), false)) (.faddr 0 (.t (.of 14))) :: .p .push (some ((.s 1), false)) (.load (.s 0)) :: .p .push (some ((.s 2), false)) (.faddr 2 (.t (.of 9))) :: .p .push (some ((.s 3), false)) (.load (.s 0)) :: .p .push (some ((.s 4), false)) (.len (.s 0)) :: F3.r9_4
noncomputable def F3.r9_2 : List RO := .p .push (some ((.s 3), false)) (.not (.s 0)) :: .s (.pick (.s 4) (.c (.bool true)) (.s 0)) :: .s (.mv (.s 0)) :: .p .push (some ((.s 0), false)) (.loadN 3 (.t (.of 12))) :: .p .push (some ((.s 1), false)) (.loadN 3 (.t (.of 8))) :: .w .push (some ((.s 2), false)) (.call (.c (.fn 13 (.of 13) [])) [(.s 1), (.s 0)]) :: F3.r9_3
noncomputable def F3.r9_1 : List RO := .p .push (some ((.s 1), false)) (.bin .neq .int (.s 0) (.c (I 0))) :: .s (.pick (.s 2) (.c (.bool true)) (.s 0)) :: .s (.mv (.s 0)) :: .p .push (some ((.s 0), false)) (.loadN 3 (.t (.of 11))) :: .p .push (some ((.s 1), false)) (.loadN 3 (.t (.of 7))) :: .w .push (some ((.s 2), false)) (.call (.c (.fn 13 (.of 13) [])) [(.s 1), (.s 0)]) :: F3.r9_2
noncomputable def F3.r9_0 : List RO := .s (.mv (.t (.of 10))) :: .s (.bin .neq .int (.s 0) (.c (I 0))) :: .s (.mv (.s 0)) :: .p .push (some ((.s 0), false)) (.mv (.t (.of 13))) :: .p .push (some ((.s 1), false)) (.bin .neq .int (.s 0) (.c (I 0))) :: .s (.pick (.s 2) (.c (.bool true)) (.s 0)) :: .s (.mv (.s 0)) :: .p .push (some ((.s 0), false)) (.mv (.t (.of 15))) :: F3.r9_1
noncomputable def F3.t17 : IR := .reg F3.r9_0
noncomputable def F3.t18 : IR := .reg [.q (.of 3) (.mv (.c (.bool false)))]
noncomputable def F3.t19 : IR := .seq F3.t18 .ret
noncomputable def F3.t20 : IR := .cond (.t (.of 28)) F3.t19 .skip
noncomputable def F3.t21 : IR := .seq F3.t17 F3.t20
noncomputable def F3.t22 : IR := .reg [.s (.loadN 2 (.t (.of 14))), .s (.faddr 2 (.t (.of 9))), .s (.load (.s 0)), .w .push none (.call (.c (.fn 14 (.of 14) [])) [(.s 2), (.s 0)]), .s (.mv (.s 0)), .s (.ext 0 (.s 0)), .s (.ext 1 (.s 1)), .q (.of 16) (.mv (.s 1)), .q (.of 17) (.mv (.s 0))]
noncomputable def F3.t23 : IR := .reg [.s (.mv (.t (.of 17))), .s (.bin .neq .int (.s 0) (.c (I 0))), .s (.mv (.s 0)), .p .push (some ((.s 0), false)) (.mv (.t (.of 16))), .p .push (some ((.s 1), false)) (.not (.s 0)), .q (.of 29) (.pick (.s 2) (.c (.bool true)) (.s 0))]
noncomputable def F3.t24 : IR := .reg [.q (.of 3) (.mv (.c (.bool false)))]
noncomputable def F3.t25 : IR := .seq F3.t24 .ret
noncomputable def F3.t26 : IR := .cond (.t (.of 29)) F3.t25 .skip
noncomputable def F3.t27 : IR := .seq F3.t23 F3.t26
noncomputable def F3.t28 : IR := .reg [.s (.mv (.t (.of 4))), .q (.of 30) (.bin .gtr .int (.s 0) (.c (I 4)))]
noncomputable def F3.t29 : IR := .reg [.w .push none (.call (.c (.fn 10 (.of 10) [])) []), .q (.of 3) (.mv (.s 0))]
noncomputable def F3.t30 : IR := .seq F3.t29 .ret
noncomputable def F3.t31 : IR := .cond (.t (.of 30)) F3.t30 .skip
noncomputable def F3.t32 : IR := .seq F3.t28 F3.t31
noncomputable def F3.t33 : IR := .reg [.w .push none (.call (.c (.fn 8 (.of 8) [])) [(.c (I 3))]), .s (.mv (.s 0)), .s (.ext 0 (.s 0)), .s (.ext 1 (.s 1)), .q (.of 18) (.mv (.s 1)), .q (.of 19) (.mv (.s 0))]
noncomputable def F3.t34 : IR := .reg [.s (.mv (.t (.of 19))), .s (.bin .neq .int (.s 0) (.c (I 0))), .s (.mv (.s 0)), .p .push (some ((.s 0), false)) (.mv (.t (.of 18))), .p .push (some ((.s 1), false)) (.len (.s 0)), .p .push (some ((.s 2), false)) (.bin .neq .int (.s 0) (.c (I 2))), .q (.of 31) (.pick (.s 3) (.c (.bool true)) (.s 0))]
noncomputable def F3.t35 : IR := .reg [.q (.of 3) (.mv (.c (.bool false)))]
noncomputable def F3.t36 : IR := .seq F3.t35 .ret
noncomputable def F3.t37 : IR := .cond (.t (.of 31)) F3.t36 .skip
noncomputable def F3.t38 : IR := .seq F3.t34 F3.t37
noncomputable def F3.t39 : IR := .dreg [(.alloc [(I 0), (I 0), .nils])] [(.s (.loadN 3 (.t (.of 7))), 2, []), (.s (.mv (.t (.of 18))), 2, []), (.s (.iaddr 3 (.s 0) (.c (I 0))), 2, []), (.s (.loadN 3 (.s 0)), 2, []), (.w .push none (.call (.c (.fn 15 (.of 15) [])) [(.s 3), (.s 0)]), 0, []), (.s (.mv (.s 0)), 1, []), (.s (.ext 0 (.s 0)), 1, []), (.s (.ext 1 (.s 1)), 2, []), (.w (.loc (.of 20)) none (.alloc [(I 0), (I 0), .nils]), 0, []), (.w .none none (.store 3 (.t (.of 20)) (.s 1)), 0, []), (.q (.of 21) (.mv (.s 0)), 0, [])]
noncomputable def F3.t40 : IR := .dreg [(.alloc [(I 0), (I 0), .nils])] [(.s (.loadN 3 (.t (.of 8))), 2, []), (.s (.mv (.t (.of 18))), 2, []), (.s (.iaddr 3 (.s 0) (.c (I 1))), 2, []), (.s (.loadN 3 (.s 0)), 2, []), (.w .push none (.call (.c (.fn 15 (.of 15) [])) [(.s 3), (.s 0)]), 0, []), (.s (.mv (.s 0)), 1, []), (.s (.ext 0 (.s 0)), 1, []), (.s (.ext 1 (.s 1)), 2, []), (.w (.loc (.of 22)) none (.alloc [(I 0), (I 0), .nils]), 0, []), (.w .none none (.store 3 (.t (.of 22)) (.s 1)), 0, []), (.q (.of 23) (.mv (.s 0)), 0, [])]
noncomputable def F3.t41 : IR := .reg [.s (.loadN 3 (.t (.of 20))), .s (.loadN 3 (.t (.of 22))), .w .push none (.call (.c (.fn 9 (.of 9) [])) [(.s 1), (.s 0)]), .s (.mv (.s 0)), .s (.ext 0 (.s 0)), .s (.ext 1 (.s 1)), .w (.loc (.of 24)) none (.alloc [(I 0), (I 0), .nils]), .w .none none (.store 3 (.t (.of 24)) (.s 1)), .q (.of 25) (.mv (.s 0))]
noncomputable def F3.r20_4 : List RO := .s (.pick (.s 1) (.s 0) (.c (.bool false))) :: .q (.of 3) (.mv (.s 0)) :: []
noncomputable def F3.r20_3 : List RO := .s (.pick (.s 3) (.s 0) (.c (.bool false))) :: .s (.mv (.s 0)) :: .w .push (some ((.s 0), true)) (.call (.c (.fn 10 (.of 10) [])) []) :: F3.r20_4
noncomputable def F3.r20_2 : List RO := .w .push (some ((.s 2), true)) (.call (.c (.fn 16 (.of 16) [])) [(.s 1), (.s 0)]) :: F3.r20_3
noncomputable def F3.r20_1 : List RO := .w .push (some ((.s 1), true)) (.bslice 1 2 [(.str [])] [(0, 1, (.c (.str [110, 111, 114, 109, 97, 108]))), (1, 1, (.c (.str [115, 101, 109, 105, 109, 97, 103, 105, 99])))]) :: F3.r20_2
noncomputable def F3.r20_0 : List RO := .s (.mv (.t (.of 21))) :: .s (.mv (.t (.of 23))) :: .s (.bin .add .int (.s 1) (.s 0)) :: .s (.mv (.t (.of 25))) :: .s (.bin .add .int (.s 1) (.s 0)) :: .s (.bin .eql .int (.s 0) (.c (I 0))) :: .s (.mv (.s 0)) :: .p .push (some ((.s 0), true)) (.loadN 3 (.t (.of 24))) :: F3.r20_1
noncomputable def F3.t42 : IR := .reg F3.r20_0
noncomputable def F3.t43 : IR := .seq F3.t42 .ret
noncomputable def F3.t44 : IR := .seq F3.t41 F3.t43
noncomputable def F3.t45 : IR := .seq F3.t40 F3.t44
noncomputable def F3.t46 : IR := .seq F3.t39 F3.t45
noncomputable def F3.t47 : IR := .seq F3.t38 F3.t46
noncomputable def F3.t48 : IR := .seq F3.t33 F3.t47
noncomputable def F3.t49 : IR := .seq F3.t32 F3.t48
noncomputable def F3.t50 : IR := .seq F3.t27 F3.t49
noncomputable def F3.t51 : IR := .seq F3.t22 F3.t50
noncomputable def F3.t52 : IR := .seq F3.t21 F3.t51
noncomputable def F3.t53 : IR := .seq F3.t16 F3.t52
noncomputable def F3.t54 : IR := .seq F3.t15 F3.t53
noncomputable def F3.t55 : IR := .seq F3.t14 F3.t54
noncomputable def F3.t56 : IR := .seq F3.t9 F3.t55
noncomputable def F3.t57 : IR := .seq F3.t8 F3.t56
noncomputable def F3.t58 : IR := .seq F3.t7 F3.t57
noncomputable def F3.t59 : IR := .seq F3.t2 F3.t58
noncomputable def F3.t60 : IR := .seq F3.t1 F3.t59
noncomputable def F3.t61 : IR := .seq F3.t0 F3.t60
theorem F3.t0_s : IR.run F3.t0 C N O K (F3.fr F E G M H L P Q U V b c d e f g i j a l p o q s v u w y z A B D) h nx =
 K (F3.fr F E G (.bool false) H L P Q U V b c d e f g i j a l p o q s v u w y z A B D) h nx := by kernel_rfl
theorem F3.t1_s : IR.run F3.t1 C N O K (F3.fr F E G M H L P Q U V b c d e f g i j a l p o q s v u w y z A B D) h nx =
 kX 1 3 [(I 0)] [(0, 1, (I 3)), (1, 1, (I 4)), (2, 1, (I 5))] h nx fun v1 h2 n3 => gC .i64 F fun v4 => sBin .rem .int v4 (I 3) fun v5 => zZ 1 v1 v5 fun v6 => kW v6 h2 fun v7 => K (F3.fr F E G M v7 L P Q U V b c d e f g i j a l p o q s v u w y z A B D) h2 n3 := by kernel_rfl
theorem F3.t2_s : IR.run F3.t2 C N O K (F3.fr F E G M H L P Q U V b c d e f g i j a l p o q s v u w y z A B D) h nx =
 C.fn 8 (.of 8) [H] h nx fun v1 h2 n3 => sExt 0 v1 fun v4 => sExt 1 v1 fun v5 => K (F3.fr F E G M H v4 v5 Q U V b c d e f g i j a l p o q s v u w y z A B D) h2 n3 := by kernel_rfl
theorem F3.t3_s : IR.run F3.t3 C N O K tm h nx = yC F3.r3_0 C ⟨tm, []⟩ h nx (fun tm h nx => K tm.v h nx) := srun_reg ..
theorem F3.r3_0_g : yC (.s (.mv (.t (.of 6))) :: .s (.bin .neq .int (.s 0) (.c (I 0))) :: .s (.mv (.s 0)) :: .p .push (some ((.s 0), false)) (.mv (.t (.of 5))) :: .p .push (some ((.s 1), false)) (.len (.s 0)) :: .p .push (some ((.s 2), false)) (.mv (.t (.of 4))) :: .p .push (some ((.s 3), false)) (.bin .sub .int (.s 0) (.c (I 1))) :: .p .push (some ((.s 4), false)) (.bin .neq .int (.s 2) (.s 0)) :: r) C ⟨(F3.fr F E G M H L P Q U V b c d e f g i j a l p o q s v u w y z A B D), []⟩ h nx Kt =
 sBin .neq .int P (I 0) fun v1 => sG v1 false (fun k => k L) fun v2 => sG v1 false (fun k => sLen v2 k) fun v3 => sG v1 false (fun k => k H) fun v4 => sG v1 false (fun k => sBin .sub .int v4 (I 1) k) fun v5 => sG v1 false (fun k => sBin .neq .int v3 v5 k) fun v6 => yC r C ⟨(F3.fr F E G M H L P Q U V b c d e f g i j a l p o q s v u w y z A B D), v6 :: v5 :: v4 :: v3 :: v2 :: v1 :: v1 :: P :: []⟩ h nx Kt := by kernel_rfl
theorem F3.r3_1_g : yC (.q (.of 26) (.pick (.s 5) (.c (.bool true)) (.s 0)) :: []) C ⟨(F3.fr F E G M H L P Q U V b c d e f g i j a l p o q s v u w y z A B D), s0 :: s1 :: s2 :: s3 :: s4 :: s5 :: s6 :: s7 :: []⟩ h nx Kt =
 gA s5 (.bool true) s0 fun v1 => Kt ⟨(F3.fr F E G M H L P Q U V b c d e f g i j a l p o q s v u v1 y z A B D), s0 :: s1 :: s2 :: s3 :: s4 :: s5 :: s6 :: s7 :: []⟩ h nx := by kernel_rfl
theorem F3.v26 : Arg.ev (.t (.of 26)) ⟨(F3.fr F E G M H L P Q U V b c d e f g i j a l p o q s v u w y z A B D), []⟩ = w := by kernel_rfl
theorem F3.t8_s : IR.run F3.t8 C N O K (F3.fr F E G M H L P Q U V b c d e f g i j a l p o q s v u w y z A B D) h nx =
 sChk (true && (true && true)) (gC .i64 E fun v1 => sBin .sub .int H (I 1) fun v2 => sBin .rem .int v1 v2 fun v3 => zZ 3 L v3 fun v4 => zG 3 v4 h fun v5 => gC .i64 G fun v6 => sBin .sub .int H (I 1) fun v7 => sBin .rem .int v6 v7 fun v8 => zZ 3 L v8 fun v9 => zG 3 v9 h fun vA => y9 [(I 0), (I 0), .nils] h nx fun vB hA nA => (zG 3 v9 hA fun vC => zF vC vA ((zZ 3 L v8 fun vD => zF vD v9 ((sBin .rem .int v6 v7 fun vE => zF vE v8 ((sBin .sub .int H (I 1) fun vF => zF vF v7 (zF H H ((gC .i64 G fun vG => zF vG v6 (zF G G (zF L L ((zG 3 v4 hA fun vH => zF vH v5 ((zZ 3 L v3 fun vI => zF vI v4 ((sBin .rem .int v1 v2 fun vJ => zF vJ v3 ((sBin .sub .int H (I 1) fun vK => zF vK v2 (zF H H ((gC .i64 E fun vL => zF vL v1 (zF E E (zF L L (y9 [(I 0), (I 0), .nils] hA nA fun vM hB nB => (zG 3 v9 hB fun vN => zF vN vA ((zZ 3 L v8 fun vO => zF vO v9 ((sBin .rem .int v6 v7 fun vP => zF vP v8 ((sBin .sub .int H (I 1) fun vQ => zF vQ v7 (zF H H ((gC .i64 G fun vR => zF vR v6 (zF G G (zF L L ((zG 3 v4 hB fun vS => zF vS v5 ((zZ 3 L v3 fun vT => zF vT v4 ((sBin .rem .int v1 v2 fun vU => zF vU v3 ((sBin .sub .int H (I 1) fun vV => zF vV v2 (zF H H ((gC .i64 E fun vW => zF vW v1 (zF E E (zF L L (yX 3 vB v5 hB nB fun vX hC nC => (zG 3 v9 hC fun vY => zF vY vA ((zZ 3 L v8 fun vZ => zF vZ v9 ((sBin .rem .int v6 v7 fun v25 => zF v25 v8 ((sBin .sub .int H (I 1) fun v24 => zF v24 v7 (zF H H ((gC .i64 G fun v23 => zF v23 v6 (zF G G (zF L L (yX 3 vM vA hC nC fun v20 hD nD => K (F3.fr F E G M H L P vB vM V b c d e f g i j a l p o q s v u w y z A B D) hD nD)))))))))))))))))))))))))))))))))))))))))))))))))))))))))))))))))) := by kernel_rfl
theorem F3.t9_s : IR.run F3.t9 C N O K (F3.fr F E G M H L P Q U V b c d e f g i j a l p o q s v u w y z A B D) h nx =
 zG 3 Q h fun v1 => zG 3 U h fun v2 => C.fn 9 (.of 9) [v1, v2] h nx fun v3 h4 n5 => sExt 0 v3 fun v6 => sExt 1 v3 fun v7 => y9 [(I 0), (I 0), .nils] h4 n5 fun v8 h9 nE => yX 3 v8 v6 h9 nE fun vB hA nA => K (F3.fr F E G M H L P Q U v8 v7 c d e f g i j a l p o q s v u w y z A B D) hA nA := by kernel_rfl
theorem F3.t10_s : IR.run F3.t10 C N O K (F3.fr F E G M H L P Q U V b c d e f g i j a l p o q s v u w y z A B D) h nx =
 gC .i64 E fun v1 => sBin .sub .int H (I 1) fun v2 => sBin .rem .int v1 v2 fun v3 => gC .i64 G fun v4 => sBin .sub .int H (I 1) fun v5 => sBin .rem .int v4 v5 fun v6 => sBin .eql .int v3 v6 fun v7 => K (F3.fr F E G M H L P Q U V b c d e f g i j a l p o q s v u w v7 z A B D) h nx := by kernel_rfl
theorem F3.t11_s : IR.run F3.t11 C N O K (F3.fr F E G M H L P Q U V b c d e f g i j a l p o q s v u w y z A B D) h nx =
 sBin .eql .int b (I 9) fun v1 => sGW v1 true (fun k => C.fn 10 (.of 10) [] h nx k) h nx fun v2 h3 n4 => gA v1 v2 (.bool false) fun v5 => K (F3.fr F E G v5 H L P Q U V b c d e f g i j a l p o q s v u w y z A B D) h3 n4 := by kernel_rfl
theorem F3.v27 : Arg.ev (.t (.of 27)) ⟨(F3.fr F E G M H L P Q U V b c d e f g i j a l p o q s v u w y z A B D), []⟩ = y := by kernel_rfl
theorem F3.t15_s : IR.run F3.t15 C N O K (F3.fr F E G M H L P Q U V b c d e f g i j a l p o q s v u w y z A B D) h nx =
 zG 3 V h fun v1 => C.fn 11 (.of 11) [v1] h nx fun v2 h3 n4 => sExt 0 v2 fun v5 => sExt 1 v2 fun v6 => sExt 2 v2 fun v7 => y9 [(I 0), (I 0), .nils] h3 n4 fun v8 h9 nE => y9 [(I 0), (I 0), .nils] h9 nE fun vB hA nA => yX 3 v8 v5 hA nA fun vM hB nB => yX 3 vB v6 hB nB fun vX hC nC => K (F3.fr F E G M H L P Q U V b v8 vB v7 f g i j a l p o q s v u w y z A B D) hC nC := by kernel_rfl
theorem F3.t16_s : IR.run F3.t16 C N O K (F3.fr F E G M H L P Q U V b c d e f g i j a l p o q s v u w y z A B D) h nx =
 C.fn 12 (.of 12) [(.str [115, 101, 109, 105, 109, 97, 103, 105, 99]), H] h nx fun v1 h2 n3 => sExt 0 v1 fun v4 => sExt 1 v1 fun v5 => y9 [(I 0), .nils] h2 n3 fun v6 h7 n8 => yX 2 v6 v4 h7 n8 fun v9 hE nF => K (F3.fr F E G M H L P Q U V b c d e v6 v5 i j a l p o q s v u w y z A B D) hE nF := by kernel_rfl
theorem F3.t17_s : IR.run F3.t17 C N O K tm h nx = yC F3.r9_0 C ⟨tm, []⟩ h nx (fun tm h nx => K tm.v h nx) := srun_reg ..
theorem F3.r9_0_g : yC (.s (.mv (.t (.of 10))) :: .s (.bin .neq .int (.s 0) (.c (I 0))) :: .s (.mv (.s 0)) :: .p .push (some ((.s 0), false)) (.mv (.t (.of 13))) :: .p .push (some ((.s 1), false)) (.bin .neq .int (.s 0) (.c (I 0))) :: .s (.pick (.s 2) (.c (.bool true)) (.s 0)) :: .s (.mv (.s 0)) :: .p .push (some ((.s 0), false)) (.mv (.t (.of 15))) :: r) C ⟨(F3.fr F E G M H L P Q U V b c d e f g i j a l p o q s v u w y z A B D), []⟩ h nx Kt =
 sBin .neq .int b (I 0) fun v1 => sG v1 false (fun k => k e) fun v2 => sG v1 false (fun k => sBin .neq .int v2 (I 0) k) fun v3 => gA v1 (.bool true) v3 fun v4 => sG v4 false (fun k => k g) fun v5 => yC r C ⟨(F3.fr F E G M H L P Q U V b c d e f g i j a l p o q s v u w y z A B D), v5 :: v4 :: v4 :: v3 :: v2 :: v1 :: v1 :: b :: []⟩ h nx Kt := by kernel_rfl
theorem F3.r9_1_g : yC (.p .push (some ((.s 1), false)) (.bin .neq .int (.s 0) (.c (I 0))) :: .s (.pick (.s 2) (.c (.bool true)) (.s 0)) :: .s (.mv (.s 0)) :: .p .push (some ((.s 0), false)) (.loadN 3 (.t (.of 11))) :: .p .push (some ((.s 1), false)) (.loadN 3 (.t (.of 7))) :: .w .push (some ((.s 2), false)) (.call (.c (.fn 13 (.of 13) [])) [(.s 1), (.s 0)]) :: r) C ⟨(F3.fr F E G M H L P Q U V b c d e f g i j a l p o q s v u w y z A B D), s0 :: s1 :: s2 :: s3 :: s4 :: s5 :: s6 :: s7 :: []⟩ h nx Kt =
 sG s1 false (fun k => sBin .neq .int s0 (I 0) k) fun v1 => gA s1 (.bool true) v1 fun v2 => sG v2 false (fun k => zG 3 c h k) fun v3 => sG v2 false (fun k => zG 3 Q h k) fun v4 => sGW v2 false (fun k => C.fn 13 (.of 13) [v3, v4] h nx k) h nx fun v5 h6 n7 => yC r C ⟨(F3.fr F E G M H L P Q U V b c d e f g i j a l p o q s v u w y z A B D), v5 :: v4 :: v3 :: v2 :: v2 :: v1 :: s0 :: s1 :: s2 :: s3 :: s4 :: s5 :: s6 :: s7 :: []⟩ h6 n7 Kt := by kernel_rfl
theorem F3.r9_2_g : yC (.p .push (some ((.s 3), false)) (.not (.s 0)) :: .s (.pick (.s 4) (.c (.bool true)) (.s 0)) :: .s (.mv (.s 0)) :: .p .push (some ((.s 0), false)) (.loadN 3 (.t (.of 12))) :: .p .push (some ((.s 1), false)) (.loadN 3 (.t (.of 8))) :: .w .push (some ((.s 2), false)) (.call (.c (.fn 13 (.of 13) [])) [(.s 1), (.s 0)]) :: r) C ⟨(F3.fr F E G M H L P Q U V b c d e f g i j a l p o q s v u w y z A B D), s0 :: s1 :: s2 :: s3 :: s4 :: s5 :: s6 :: s7 :: s8 :: s9 :: s10 :: s11 :: s12 :: s13 :: []⟩ h nx Kt =
 sG s3 false (fun k => sNot s0 k) fun v1 => gA s3 (.bool true) v1 fun v2 => sG v2 false (fun k => zG 3 d h k) fun v3 => sG v2 false (fun k => zG 3 U h k) fun v4 => sGW v2 false (fun k => C.fn 13 (.of 13) [v3, v4] h nx k) h nx fun v5 h6 n7 => yC r C ⟨(F3.fr F E G M H L P Q U V b c d e f g i j a l p o q s v u w y z A B D), v5 :: v4 :: v3 :: v2 :: v2 :: v1 :: s0 :: s1 :: s2 :: s3 :: s4 :: s5 :: s6 :: s7 :: s8 :: s9 :: s10 :: s11 :: s12 :: s13 :: []⟩ h6 n7 Kt := by kernel_rfl
theorem F3.r9_3_g : yC (.p .push (some ((.s 3), false)) (.not (.s 0)) :: .s (.pick (.s 4) (.c (.bool true)) (.s 0)) :: .s (.mv (.s 0)) :: .p .push (some ((.s 0), false)) (.faddr 0 (.t (.of 14))) :: .p .push (some ((.s 1), false)) (.load (.s 0)) :: .p .push (some ((.s 2), false)) (.faddr 2 (.t (.of 9))) :: .p .push (some ((.s 3), false)) (.load (.s 0)) :: .p .push (some ((.s 4), false)) (.len (.s 0)) :: r) C ⟨(F3.fr F E G M H L P Q U V b c d e f g i j a l p o q s v u w y z A B D), s0 :: s1 :: s2 :: s3 :: s4 :: s5 :: s6 :: s7 :: s8 :: s9 :: s10 :: s11 :: s12 :: s13 :: s14 :: s15 :: s16 :: s17 :: s18 :: s19 :: []⟩ h nx Kt =
 sG s3 false (fun k => sNot s0 k) fun v1 => gA s3 (.bool true) v1 fun v2 => sG v2 false (fun k => sFaddr 0 f k) fun v3 => sG v2 false (fun k => kW v3 h k) fun v4 => sG v2 false (fun k => sFaddr 2 V k) fun v5 => sG v2 false (fun k => kW v5 h k) fun v6 => sG v2 false (fun k => sLen v6 k) fun v7 => yC r C ⟨(F3.fr F E G M H L P Q U V b c d e f g i j a l p o q s v u w y z A B D), v7 :: v6 :: v5 :: v4 :: v3 :: v2 :: v2 :: v1 :: s0 :: s1 :: s2 :: s3 :: s4 :: s5 :: s6 :: s7 :: s8 :: s9 :: s10 :: s11 :: s12 :: s13 :: s14 :: s15 :: s16 :: s17 :: s18 :: s19 :: []⟩ h nx Kt := by kernel_rfl
theorem F3.r9_4_g : yC (.p .push (some ((.s 5), false)) (.bin .neq .int (.s 3) (.s 0)) :: .q (.of 28) (.pick (.s 6) (.c (.bool true)) (.s 0)) :: []) C ⟨(F3.fr F E G M H L P Q U V b c d e f g i j a l p o q s v u w y z A B D), s0 :: s1 :: s2 :: s3 :: s4 :: s5 :: s6 :: s7 :: s8 :: s9 :: s10 :: s11 :: s12 :: s13 :: s14 :: s15 :: s16 :: s17 :: s18 :: s19 :: s20 :: s21 :: s22 :: s23 :: s24 :: s25 :: s26 :: s27 :: []⟩ h nx Kt =
 sG s5 false (fun k => sBin .neq .int s3 s0 k) fun v1 => gA s5 (.bool true) v1 fun v2 => Kt ⟨(F3.fr F E G M H L P Q U V b c d e f g i j a l p o q s v u w y v2 A B D), v1 :: s0 :: s1 :: s2 :: s3 :: s4 :: s5 :: s6 :: s7 :: s8 :: s9 :: s10 :: s11 :: s12 :: s13 :: s14 :: s15 :: s16 :: s17 :: s18 :: s19 :: s20 :: s21 :: s22 :: s23 :: s24 :: s25 :: s26 :: s27 :: []⟩ h nx := by kernel_rfl
theorem F3.v28 : Arg.ev (.t (.of 28)) ⟨(F3.fr F E G M H L P Q U V b c d e f g i j a l p o q s v u w y z A B D), []⟩ = z := by kernel_rfl
theorem F3.t22_s : IR.run F3.t22 C N O K (F3.fr F E G M H L P Q U V b c d e f g i j a l p o q s v u w y z A B D) h nx =
 zG 2 f h fun v1 => sFaddr 2 V fun v2 => kW v2 h fun v3 => C.fn 14 (.of 14) [v1, v3] h nx fun v4 h5 n6 => sExt 0 v4 fun v7 => sExt 1 v4 fun v8 => K (F3.fr F E G M H L P Q U V b c d e f g v7 v8 a l p o q s v u w y z A B D) h5 n6 := by kernel_rfl
theorem F3.t23_s : IR.run F3.t23 C N O K (F3.fr F E G M H L P Q U V b c d e f g i j a l p o q s v u w y z A B D) h nx =
 sBin .neq .int j (I 0) fun v1 => sG v1 false (fun k => k i) fun v2 => sG v1 false (fun k => sNot v2 k) fun v3 => gA v1 (.bool true) v3 fun v4 => K (F3.fr F E G M H L P Q U V b c d e f g i j a l p o q s v u w y z v4 B D) h nx := by kernel_rfl
theorem F3.v29 : Arg.ev (.t (.of 29)) ⟨(F3.fr F E G M H L P Q U V b c d e f g i j a l p o q s v u w y z A B D), []⟩ = A := by kernel_rfl
theorem F3.t28_s : IR.run F3.t28 C N O K (F3.fr F E G M H L P Q U V b c d e f g i j a l p o q s v u w y z A B D) h nx =
 sBin .gtr .int H (I 4) fun v1 => K (F3.fr F E G M H L P Q U V b c d e f g i j a l p o q s v u w y z A v1 D) h nx := by kernel_rfl
theorem F3.t29_s : IR.run F3.t29 C N O K (F3.fr F E G M H L P Q U V b c d e f g i j a l p o q s v u w y z A B D) h nx =
 C.fn 10 (.of 10) [] h nx fun v1 h2 n3 => K (F3.fr F E G v1 H L P Q U V b c d e f g i j a l p o q s v u w y z A B D) h2 n3 := by kernel_rfl
theorem F3.v30 : Arg.ev (.t (.of 30)) ⟨(F3.fr F E G M H L P Q U V b c d e f g i j a l p o q s v u w y z A B D), []⟩ = B := by kernel_rfl
theorem F3.t33_s : IR.run F3.t33 C N O K (F3.fr F E G M H L P Q U V b c d e f g i j a l p o q s v u w y z A B D) h nx =
 C.fn 8 (.of 8) [(I 3)] h nx fun v1 h2 n3 => sExt 0 v1 fun v4 => sExt 1 v1 fun v5 => K (F3.fr F E G M H L P Q U V b c d e f g i j v4 v5 p o q s v u w y z A B D) h2 n3 := by kernel_rfl
theorem F3.t34_s : IR.run F3.t34 C N O K (F3.fr F E G M H L P Q U V b c d e f g i j a l p o q s v u w y z A B D) h nx =
 sBin .neq .int l (I 0) fun v1 => sG v1 false (fun k => k a) fun v2 => sG v1 false (fun k => sLen v2 k) fun v3 => sG v1 false (fun k => sBin .neq .int v3 (I 2) k) fun v4 => gA v1 (.bool true) v4 fun v5 => K (F3.fr F E G M H L P Q U V b c d e f g i j a l p o q s v u w y z A B v5) h nx := by kernel_rfl
theorem F3.v31 : Arg.ev (.t (.of 31)) ⟨(F3.fr F E G M H L P Q U V b c d e f g i j a l p o q s v u w y z A B D), []⟩ = D := by kernel_rfl
theorem F3.t39_s : IR.run F3.t39 C N O K (F3.fr F E G M H L P Q U V b c d e f g i j a l p o q s v u w y z A B D) h nx =
 sChk (true && true) (zG 3 Q h fun v1 => zZ 3 a (I 0) fun v2 => zG 3 v2 h fun v3 => C.fn 15 (.of 15) [v1, v3] h nx fun v4 h5 n6 => (zG 3 v2 h5 fun v23 => zF v23 v3 ((zZ 3 a (I 0) fun v22 => zF v22 v2 (zF a a ((zG 3 Q h5 fun v21 => zF v21 v1 (sExt 0 v4 fun v7 => sExt 1 v4 fun v8 => y9 [(I 0), (I 0), .nils] h5 n6 fun v9 hE nF => (sExt 1 v4 fun v20 => zF v20 v8 ((sExt 0 v4 fun v19 => zF v19 v7 (zF v4 v4 ((zG 3 v2 hE fun v18 => zF v18 v3 ((zZ 3 a (I 0) fun vX => zF vX v2 (zF a a ((zG 3 Q hE fun v16 => zF v16 v1 (yX 3 v9 v7 hE nF fun v12 hF nG => (sExt 1 v4 fun v15 => zF v15 v8 (K (F3.fr F E G M H L P Q U V b c d e f g i j a l v9 v8 q s v u w y z A B D) hF nG)))))))))))))))))))))) := by kernel_rfl
theorem F3.t40_s : IR.run F3.t40 C N O K (F3.fr F E G M H L P Q U V b c d e f g i j a l p o q s v u w y z A B D) h nx =
 sChk (true && true) (zG 3 U h fun v1 => zZ 3 a (I 1) fun v2 => zG 3 v2 h fun v3 => C.fn 15 (.of 15) [v1, v3] h nx fun v4 h5 n6 => (zG 3 v2 h5 fun v23 => zF v23 v3 ((zZ 3 a (I 1) fun v22 => zF v22 v2 (zF a a ((zG 3 U h5 fun v21 => zF v21 v1 (sExt 0 v4 fun v7 => sExt 1 v4 fun v8 => y9 [(I 0), (I 0), .nils] h5 n6 fun v9 hE nF => (sExt 1 v4 fun v20 => zF v20 v8 ((sExt 0 v4 fun v19 => zF v19 v7 (zF v4 v4 ((zG 3 v2 hE fun v18 => zF v18 v3 ((zZ 3 a (I 1) fun vX => zF vX v2 (zF a a ((zG 3 U hE fun v16 => zF v16 v1 (yX 3 v9 v7 hE nF fun v12 hF nG => (sExt 1 v4 fun v15 => zF v15 v8 (K (F3.fr F E G M H L P Q U V b c d e f g i j a l p o v9 v8 v u w y z A B D) hF nG)))))))))))))))))))))) := by kernel_rfl
theorem F3.t41_s : IR.run F3.t41 C N O K (F3.fr F E G M H L P Q U V b c d e f g i j a l p o q s v u w y z A B D) h nx =
 zG 3 p h fun v1 => zG 3 q h fun v2 => C.fn 9 (.of 9) [v1, v2] h nx fun v3 h4 n5 => sExt 0 v3 fun v6 => sExt 1 v3 fun v7 => y9 [(I 0), (I 0), .nils] h4 n5 fun v8 h9 nE => yX 3 v8 v6 h9 nE fun vB hA nA => K (F3.fr F E G M H L P Q U V b c d e f g i j a l p o q s v8 v7 w y z A B D) hA nA := by kernel_rfl
theorem F3.t42_s : IR.run F3.t42 C N O K tm h nx = yC F3.r20_0 C ⟨tm, []⟩ h nx (fun tm h nx => K tm.v h nx) := srun_reg ..
theorem F3.r20_0_g : yC (.s (.mv (.t (.of 21))) :: .s (.mv (.t (.of 23))) :: .s (.bin .add .int (.s 1) (.s 0)) :: .s (.mv (.t (.of 25))) :: .s (.bin .add .int (.s 1) (.s 0)) :: .s (.bin .eql .int (.s 0) (.c (I 0))) :: .s (.mv (.s 0)) :: .p .push (some ((.s 0), true)) (.loadN 3 (.t (.of 24))) :: r) C ⟨(F3.fr F E G M H L P Q U V b c d e f g i j a l p o q s v u w y z A B D), []⟩ h nx Kt =
 sBin .add .int o s fun v1 => sBin .add .int v1 u fun v2 => sBin .eql .int v2 (I 0) fun v3 => sG v3 true (fun k => zG 3 v h k) fun v4 => yC r C ⟨(F3.fr F E G M H L P Q U V b c d e f g i j a l p o q s v u w y z A B D), v4 :: v3 :: v3 :: v2 :: u :: v1 :: s :: o :: []⟩ h nx Kt := by kernel_rfl
theorem F3.r20_1_g : yC (.w .push (some ((.s 1), true)) (.bslice 1 2 [(.str [])] [(0, 1, (.c (.str [110, 111, 114, 109, 97, 108]))), (1, 1, (.c (.str [115, 101, 109, 105, 109, 97, 103, 105, 99])))]) :: r) C ⟨(F3.fr F E G M H L P Q U V b c d e f g i j a l p o q s v u w y z A B D), s0 :: s1 :: s2 :: s3 :: s4 :: s5 :: s6 :: s7 :: []⟩ h nx Kt =
 sGW s1 true (fun k => kX 1 2 [(.str [])] [(0, 1, (.str [110, 111, 114, 109, 97, 108])), (1, 1, (.str [115, 101, 109, 105, 109, 97, 103, 105, 99]))] h nx k) h nx fun v1 h2 n3 => yC r C ⟨(F3.fr F E G M H L P Q U V b c d e f g i j a l p o q s v u w y z A B D), v1 :: s0 :: s1 :: s2 :: s3 :: s4 :: s5 :: s6 :: s7 :: []⟩ h2 n3 Kt := by kernel_rfl
theorem F3.r20_2_g : yC (.w .push (some ((.s 2), true)) (.call (.c (.fn 16 (.of 16) [])) [(.s 1), (.s 0)]) :: r) C ⟨(F3.fr F E G M H L P Q U V b c d e f g i j a l p o q s v u w y z A B D), s0 :: s1 :: s2 :: s3 :: s4 :: s5 :: s6 :: s7 :: s8 :: []⟩ h nx Kt =
 sGW s2 true (fun k => C.fn 16 (.of 16) [s1, s0] h nx k) h nx fun v1 h2 n3 => yC r C ⟨(F3.fr F E G M H L P Q U V b c d e f g i j a l p o q s v u w y z A B D), v1 :: s0 :: s1 :: s2 :: s3 :: s4 :: s5 :: s6 :: s7 :: s8 :: []⟩ h2 n3 Kt := by kernel_rfl
theorem F3.r20_3_g : yC (.s (.pick (.s 3) (.s 0) (.c (.bool false))) :: .s (.mv (.s 0)) :: .w .push (some ((.s 0), true)) (.call (.c (.fn 10 (.of 10) [])) []) :: r) C ⟨(F3.fr F E G M H L P Q U V b c d e f g i j a l p o q s v u w y z A B D), s0 :: s1 :: s2 :: s3 :: s4 :: s5 :: s6 :: s7 :: s8 :: s9 :: []⟩ h nx Kt =
 gA s3 s0 (.bool false) fun v1 => sGW v1 true (fun k => C.fn 10 (.of 10) [] h nx k) h nx fun v2 h3 n4 => yC r C ⟨(F3.fr F E G M H L P Q U V b c d e f g i j a l p o q s v u w y z A B D), v2 :: v1 :: v1 :: s0 :: s1 :: s2 :: s3 :: s4 :: s5 :: s6 :: s7 :: s8 :: s9 :: []⟩ h3 n4 Kt := by kernel_rfl
theorem F3.r20_4_g : yC (.s (.pick (.s 1) (.s 0) (.c (.bool false))) :: .q (.of 3) (.mv (.s 0)) :: []) C ⟨(F3.fr F E G M H L P Q U V b c d e f g i j a l p o q s v u w y z A B D), s0 :: s1 :: s2 :: s3 :: s4 :: s5 :: s6 :: s7 :: s8 :: s9 :: s10 :: s11 :: s12 :: []⟩ h nx Kt =
 gA s1 s0 (.bool false) fun v1 => Kt ⟨(F3.fr F E G v1 H L P Q U V b c d e f g i j a l p o q s v u w y z A B D), v1 :: s0 :: s1 :: s2 :: s3 :: s4 :: s5 :: s6 :: s7 :: s8 :: s9 :: s10 :: s11 :: s12 :: []⟩ h nx := by kernel_rfl
theorem F3.tab : T.get none (.of 3) tbl = some F3 := by kernel_rfl
theorem F3.bind (k : T AV → OP) : yL F3.params [a0, a1, a2] F3.init k = k (F3.fr a0 a1 a2 .undef .undef .undef .undef .undef .undef .undef .undef .undef .undef .undef .undef .undef .undef .undef .undef .undef .undef .undef .undef .undef .undef .undef .undef .undef .undef .undef .undef .undef) := by kernel_rfl
theorem F3.body_eq : F3.body = F3.t61 := by kernel_rfl
theorem F3.go : y4 tbl N C (.of 3) [a0, a1, a2] h nx K0 = IR.run F3.t61 C N (fnO F3.res K0) (retK F3.res K0) (F3.fr a0 a1 a2 .undef .undef .undef .undef .undef .undef .undef .undef .undef .undef .undef .undef .undef .undef .undef .undef .undef .undef .undef .undef .undef .undef .undef .undef .undef .undef .undef .undef .undef) h nx := by
 rw [kE F3.tab, F3.bind, F3.body_eq]; kernel_rfl
theorem F3.ret : retK F3.res K0 (F3.fr F E G M H L P Q U V b c d e f g i j a l p o q s v u w y z A B D) h nx = K0 M h nx := by kernel_rfl
end
end Go.Ev
