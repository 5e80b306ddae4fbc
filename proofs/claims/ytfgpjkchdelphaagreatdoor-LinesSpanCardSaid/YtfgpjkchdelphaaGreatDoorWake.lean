import Derived.Test.YtfgpjkchdelphaaGreatDoorEvD
import Derived.Test.YtfgpjkchdelphaaGreatDoorWordsa
import Derived.Test.YtfgpjkchdelphaaGreatDoorIrT
import Derived.KernelRfl
set_option linter.unusedSimpArgs false
set_option linter.unusedVariables false
noncomputable section
namespace Go.Ev
open Go Go.Proofs
def noS (_:Nat):Bool:=false
def frV (n d:Int):AV:=.agg [I n,.ze,I d,.ze]
def frB (a b c d e f:Int):List AV×AV:=([frV a b,frV c d],frV e f)
def frU (a b e f:Int):List AV×AV:=([frV a b],frV e f)
def qct (f:Nat) (l:List (List AV×AV)):Bool:=l.all λe=>nns e.1&&zjm zg6 f e.1 e.2
theorem xG {f:Nat} {l:List (List AV×AV)} (h:qct f l=true):gD Tryz.prog f l:=λe he B=>by
  have:=List.all_eq_true.1 h e he;rw [Bool.and_eq_true] at this;exact zg7 (λ_=>zb0) this.1 this.2
def zwy:List (List AV×AV):=[frB (-2) 1 1 2 (-1) 1,frB (-2) 1 1 1 (-2) 1,frB (-3) 2 (-2) 3 1 1,frB (-1) 1 (-1) 1 1 1,frB (-1) 1 (-2) 3 2 3,frB (-1) 1 (-1) 2 1 2,frB (-1) 1 1 2 (-1) 2,frB (-1) 1 1 1 (-1) 1,frB (-1) 2 (-4) 3 2 3,frB (-1) 2 (-1) 3 1 6,frB (-1) 2 2 3 (-1) 3,frB (-1) 2 1 1 (-1) 2,frB 0 1 (-2) 1 0 1,frB 0 1 (-1) 1 0 1,frB 0 1 (-1) 2 0 1,frB 0 1 1 2 0 1,frB 0 1 1 1 0 1,frB 0 1 2 1 0 1,frB 1 2 (-4) 3 (-2) 3,frB 1 2 (-2) 3 (-1) 3,frB 1 2 (-1) 3 (-1) 6,frB 1 2 2 3 1 3,frB 1 2 1 1 1 2,frB 1 1 (-2) 1 (-2) 1,frB 1 1 (-4) 3 (-4) 3,frB 1 1 (-1) 1 (-1) 1,frB 1 1 (-1) 2 (-1) 2,frB 1 1 (-1) 3 (-1) 3,frB 1 1 1 2 1 2,frB 1 1 2 3 2 3,frB 1 1 1 1 1 1,frB 1 1 2 1 2 1,frB 2 1 (-2) 3 (-4) 3,frB 2 1 1 2 1 1,frB 2 1 1 1 2 1,frB 3 1 0 1 0 1,frB 3 1 1 1 3 1]
theorem zqy:gD Tryz.prog 119 zwy:=xG (by kernel_rfl)
def zwz:List (List AV×AV):=[frB (-2) 1 (-1) 1 (-1) 1,frB (-2) 1 0 1 (-2) 1,frB (-1) 1 (-2) 1 1 1,frB (-1) 1 (-4) 3 1 3,frB (-1) 1 (-1) 1 0 1,frB (-1) 1 (-2) 3 (-1) 3,frB (-1) 1 (-1) 2 (-1) 2,frB (-1) 1 (-1) 3 (-2) 3,frB (-1) 1 0 1 (-1) 1,frB (-1) 1 1 3 (-4) 3,frB (-1) 1 1 2 (-3) 2,frB (-1) 1 1 1 (-2) 1,frB (-1) 2 (-1) 2 0 1,frB (-1) 2 (-1) 6 (-1) 3,frB (-1) 2 1 6 (-2) 3,frB 0 1 (-2) 1 2 1,frB 0 1 (-1) 1 1 1,frB 0 1 (-2) 3 2 3,frB 0 1 (-1) 2 1 2,frB 0 1 (-1) 3 1 3,frB 0 1 0 1 0 1,frB 0 1 1 3 (-1) 3,frB 0 1 1 2 (-1) 2,frB 0 1 2 3 (-2) 3,frB 0 1 1 1 (-1) 1,frB 0 1 2 1 (-2) 1,frB 1 2 1 6 1 3,frB 1 2 1 2 0 1,frB 1 1 (-1) 1 2 1,frB 1 1 0 1 1 1,frB 1 1 1 2 1 2,frB 1 1 1 1 0 1,frB 2 1 0 1 2 1,frB 2 1 1 1 1 1]
theorem zqz:gD Tryz.prog 192 zwz:=xG (by kernel_rfl)
def zw0:List (List AV×AV):=[frU (-3) 2 (-2) 3,frU (-1) 1 (-1) 1,frU 1 1 1 1,frU 2 1 1 2]
theorem zq0:gD Tryz.prog 112 zw0:=xG (by kernel_rfl)
def zw1:List (List AV×AV):=[frU (-4) 3 4 3,frU (-1) 1 1 1,frU (-2) 3 2 3,frU (-1) 3 1 3,frU 0 1 0 1,frU 1 3 (-1) 3,frU 2 3 (-2) 3,frU 1 1 (-1) 1]
theorem zq1:gD Tryz.prog 107 zw1:=xG (by kernel_rfl)
def zw2:List (List AV×AV):=[frB (-1) 1 1 1 0 1,frB 0 1 (-1) 1 (-1) 1,frB 0 1 0 1 0 1,frB 0 1 1 1 1 1,frB 1 3 1 3 2 3,frB 2 3 4 3 2 1,frB 1 1 (-1) 1 0 1,frB 1 1 (-2) 3 1 3,frB 1 1 0 1 1 1,frB 1 1 1 3 4 3,frB 1 1 1 1 2 1,frB 1 1 4 3 7 3,frB 4 3 1 3 5 3,frB 5 3 1 3 2 1,frB 5 3 2 3 7 3,frB 2 1 (-1) 1 1 1,frB 2 1 (-1) 3 5 3,frB 2 1 0 1 2 1,frB 2 1 2 3 8 3,frB 2 1 1 1 3 1,frB 7 3 1 3 8 3,frB 7 3 2 3 3 1,frB 8 3 (-2) 3 2 1,frB 8 3 (-1) 3 7 3,frB 8 3 2 3 10 3,frB 3 1 (-1) 1 2 1,frB 3 1 0 1 3 1,frB 10 3 (-1) 3 3 1]
theorem zq2:gD Tryz.prog 114 zw2:=xG (by kernel_rfl)
def zw3:List (List AV×AV):=[frB 3 1 1 1 3 1,frB 45 1 3 1 15 1,frB 78 1 3 1 26 1]
theorem zq3:gD Tryz.prog 115 zw3:=xG (by kernel_rfl)
def opT (f:Nat):List (List AV×AV):=bif Nat.beq f 119 then zwy else (bif Nat.beq f 192 then zwz else (bif Nat.beq f 112 then zw0 else (bif Nat.beq f 107 then zw1 else (bif Nat.beq f 114 then zw2 else (bif Nat.beq f 115 then zw3 else ([]))))))
theorem gZ {P:Program} {k f:Nat} {l m:List (List AV×AV)} (h1:gD P k l) (h2:gD P f m):gD P f (bif Nat.beq f k then l else m):=by
  cases h:Nat.beq f k with
  | true=>have e:=yQ h;subst e;exact h1
  | false=>exact h2
theorem zzb (f:Nat):gD Tryz.prog f (opT f):=gZ zqy (gZ zqz (gZ zq0 (gZ zq1 (gZ zq2 (gZ zq3 (λ_ h=>by cases h))))))
noncomputable abbrev pB:Nat->List AV->T Blk->Option (AV×T Blk):=zgy opT zg6
theorem kF {B:Nat}:JOk Tryz.prog B pB:=zen zzb zb0
end Go.Ev
namespace Go.Ev
open Go Go.Proofs
abbrev sysM:AV:=.agg [I 9,wu [[0,1,2],[3,4,5],[6,7,8],[0,3,6],[1,4,7],[2,5,8],[0,4,8],[2,4,6]]]
abbrev sysE:AV:=.agg [I 9,wu [[0,1,2],[3,4,5],[6,7,8],[0,3,6],[1,4,7],[2,5,8]]]
abbrev sysT:AV:=.agg [I 12,wu [[0,2,6,7],[1,3,7,8],[2,4,8,9],[3,5,9,10],[0,4,10,11],[1,5,6,11]]]
abbrev shuV:AV:=encI [2,7,6,9,5,1,4,3,8]
abbrev spcM:AV:=.agg [encI [0,1,2],.lst 1 3 [.lst 4 9 [I 1,.ze,I 1,.ze,I 0,.ze,I 1,.ze,I 0,.ze,I 1,.ze,I (-2),.ze,I 3,.ze,I 1,.ze,I 3,.ze,I 4,.ze,I 3,.ze,I 2,.ze,I 3,.ze,I 2,.ze,I 3,.ze,I (-1),.ze,I 3,.ze],.lst 4 9 [I 0,.ze,I 1,.ze,I 1,.ze,I 1,.ze,I 0,.ze,I 1,.ze,I 1,.ze,I 3,.ze,I 1,.ze,I 3,.ze,I 1,.ze,I 3,.ze,I 2,.ze,I 3,.ze,I (-1),.ze,I 3,.ze,I 2,.ze,I 3,.ze],.lst 4 9 [I 0,.ze,I 1,.ze,I 0,.ze,I 1,.ze,I 1,.ze,I 1,.ze,I 4,.ze,I 3,.ze,I 1,.ze,I 3,.ze,I (-2),.ze,I 3,.ze,I (-1),.ze,I 3,.ze,I 2,.ze,I 3,.ze,I 2,.ze,I 3,.ze]]]
abbrev spcT:AV:=.agg [encI [0,1,2,3,4,6,7],.lst 1 7 [.lst 4 12 [I 1,.ze,I 1,.ze,I 0,.ze,I 1,.ze,I 0,.ze,I 1,.ze,I 0,.ze,I 1,.ze,I 0,.ze,I 1,.ze,I 1,.ze,I 1,.ze,I 0,.ze,I 1,.ze,I 0,.ze,I 1,.ze,I 1,.ze,I 1,.ze,I 0,.ze,I 1,.ze,I 0,.ze,I 1,.ze,I 0,.ze,I 1,.ze],.lst 4 12 [I 0,.ze,I 1,.ze,I 1,.ze,I 1,.ze,I 0,.ze,I 1,.ze,I 0,.ze,I 1,.ze,I 0,.ze,I 1,.ze,I (-1),.ze,I 1,.ze,I 0,.ze,I 1,.ze,I 0,.ze,I 1,.ze,I (-1),.ze,I 1,.ze,I 1,.ze,I 1,.ze,I 0,.ze,I 1,.ze,I 0,.ze,I 1,.ze],.lst 4 12 [I 0,.ze,I 1,.ze,I 0,.ze,I 1,.ze,I 1,.ze,I 1,.ze,I 0,.ze,I 1,.ze,I 0,.ze,I 1,.ze,I 1,.ze,I 1,.ze,I 0,.ze,I 1,.ze,I 0,.ze,I 1,.ze,I 1,.ze,I 1,.ze,I (-1),.ze,I 1,.ze,I 1,.ze,I 1,.ze,I 0,.ze,I 1,.ze],.lst 4 12 [I 0,.ze,I 1,.ze,I 0,.ze,I 1,.ze,I 0,.ze,I 1,.ze,I 1,.ze,I 1,.ze,I 0,.ze,I 1,.ze,I (-1),.ze,I 1,.ze,I 0,.ze,I 1,.ze,I 0,.ze,I 1,.ze,I (-1),.ze,I 1,.ze,I 1,.ze,I 1,.ze,I (-1),.ze,I 1,.ze,I 1,.ze,I 1,.ze],.lst 4 12 [I 0,.ze,I 1,.ze,I 0,.ze,I 1,.ze,I 0,.ze,I 1,.ze,I 0,.ze,I 1,.ze,I 1,.ze,I 1,.ze,I 1,.ze,I 1,.ze,I 0,.ze,I 1,.ze,I 0,.ze,I 1,.ze,I 0,.ze,I 1,.ze,I (-1),.ze,I 1,.ze,I 0,.ze,I 1,.ze,I (-1),.ze,I 1,.ze],.lst 4 12 [I 0,.ze,I 1,.ze,I 0,.ze,I 1,.ze,I 0,.ze,I 1,.ze,I 0,.ze,I 1,.ze,I 0,.ze,I 1,.ze,I 0,.ze,I 1,.ze,I 1,.ze,I 1,.ze,I 0,.ze,I 1,.ze,I 1,.ze,I 1,.ze,I 0,.ze,I 1,.ze,I 1,.ze,I 1,.ze,I 0,.ze,I 1,.ze],.lst 4 12 [I 0,.ze,I 1,.ze,I 0,.ze,I 1,.ze,I 0,.ze,I 1,.ze,I 0,.ze,I 1,.ze,I 0,.ze,I 1,.ze,I 0,.ze,I 1,.ze,I 0,.ze,I 1,.ze,I 1,.ze,I 1,.ze,I 0,.ze,I 1,.ze,I 1,.ze,I 1,.ze,I 0,.ze,I 1,.ze,I 1,.ze,I 1,.ze]]]
abbrev depE:AV:=.tup [.lst 2 1 [I 5,.lst 1 5 [.str [49],.str [49],.str [49],.str [45,49],.str [45,49]]],I 0]
abbrev kndM:AV:=.tup [.lst 1 4 [.str [110,111,114,109,97,108],.str [115,101,109,105,109,97,103,105,99],.str [109,97,103,105,99],.str [97,115,115,111,99,105,97,116,105,118,101]],I 0]
abbrev basM:AV:=.tup [.lst 1 3 [.lst 1 9 [.str [49],.str [48],.str [48],.str [45,50,47,51],.str [49,47,51],.str [52,47,51],.str [50,47,51],.str [50,47,51],.str [45,49,47,51]],.lst 1 9 [.str [48],.str [49],.str [48],.str [49,47,51],.str [49,47,51],.str [49,47,51],.str [50,47,51],.str [45,49,47,51],.str [50,47,51]],.lst 1 9 [.str [48],.str [48],.str [49],.str [52,47,51],.str [49,47,51],.str [45,50,47,51],.str [45,49,47,51],.str [50,47,51],.str [50,47,51]]],I 0]
abbrev corM:AV:=.tup [.lst 1 3 [.str [50],.str [55],.str [54]],I 0]
set_option maxRecDepth 100000 in
theorem r93M {B:Nat}:Pure Tryz.prog B 93 [sysM] (· = spcM) :=
  jB (S:=noS) (J:=pB) (fuel:=1000) (n:=60) zQ mixed (λ_=>kF) (by kernel_rfl) (by kernel_rfl)
end Go.Ev
namespace Go.Ev
open Go Go.Proofs
set_option maxRecDepth 100000 in
theorem r93T {B:Nat}:Pure Tryz.prog B 93 [sysT] (· = spcT) :=
  jB (S:=noS) (J:=pB) (fuel:=1000) (n:=60) zQ mixed (λ_=>kF) (by kernel_rfl) (by kernel_rfl)
end Go.Ev
namespace Go.Ev
open Go Go.Proofs
def zw4:List (List AV×AV):=([sysM],spcM)::([sysT],spcT)::[]
theorem zq4:gD Tryz.prog 93 zw4:=List.forall_mem_cons.2 ⟨λ_=>r93M,List.forall_mem_cons.2 ⟨λ_=>r93T,λ_ h=>by cases h⟩⟩
def Nq (f:Nat):List (List AV×AV):=bif Nat.beq f 93 then zw4 else ([])
theorem qcu (f:Nat):gD Tryz.prog f (Nq f):=gZ zq4 (λ_ h=>by cases h)
noncomputable abbrev zb1:Nat->List AV->T Blk->Option (AV×T Blk):=zgy Nq pB
theorem dS {B:Nat}:JOk Tryz.prog B zb1:=zen qcu kF
set_option maxRecDepth 100000 in
theorem r23 {B:Nat}:Pure Tryz.prog B 23 [sysM] (· = basM) :=
  jB (S:=noS) (J:=zb1) (fuel:=1000) (n:=60) zQ mixed (λ_=>dS) (by kernel_rfl) (by kernel_rfl)
end Go.Ev
namespace Go.Ev
open Go Go.Proofs
set_option maxRecDepth 100000 in
theorem r24 {B:Nat}:Pure Tryz.prog B 24 [sysM,shuV] (· = corM) :=
  jB (S:=noS) (J:=zb1) (fuel:=1000) (n:=60) zQ mixed (λ_=>dS) (by kernel_rfl) (by kernel_rfl)
set_option maxRecDepth 100000 in
theorem r33M {B:Nat}:Pure Tryz.prog B 33 [sysM] (· = .tup [I 15,I 0]) :=
  jB (S:=noS) (J:=zb1) (fuel:=1000) (n:=60) zQ mixed (λ_=>dS) (by kernel_rfl) (by kernel_rfl)
set_option maxRecDepth 100000 in
theorem r33T {B:Nat}:Pure Tryz.prog B 33 [sysT] (· = .tup [I 26,I 0]) :=
  jB (S:=noS) (J:=zb1) (fuel:=1000) (n:=60) zQ mixed (λ_=>dS) (by kernel_rfl) (by kernel_rfl)
end Go.Ev
namespace Go.Ev
open Go Go.Proofs
set_option maxRecDepth 100000 in
theorem r31E {B:Nat}:Pure Tryz.prog B 31 [sysE] (· = depE) :=
  jB (S:=noS) (J:=pB) (fuel:=1000) (n:=60) zQ mixed (λ_=>kF) (by kernel_rfl) (by kernel_rfl)
end Go.Ev
namespace Go.Ev
open Go Go.Proofs
set_option maxRecDepth 100000 in
theorem r51 {B:Nat}:Pure Tryz.prog B 51 [.agg [I 3,I 3,shuV]] (· = kndM) :=
  jB (S:=noS) (J:=pB) (fuel:=1000) (n:=60) zQ mixed (λ_=>kF) (by kernel_rfl) (by kernel_rfl)
end Go.Ev
namespace Go.Ev
open Go Go.Proofs
set_option maxRecDepth 100000 in
theorem r65M {B:Nat}:Pure Tryz.prog B 65 [.str [109,97,103,105,99],I 3] (· = .tup [sysM,I 0]) :=
  jB (S:=noS) (J:=pB) (fuel:=1000) (n:=60) zQ mixed (λ_=>kF) (by kernel_rfl) (by kernel_rfl)
set_option maxRecDepth 100000 in
theorem r65E {B:Nat}:Pure Tryz.prog B 65 [.str [115,101,109,105,109,97,103,105,99],I 3] (· = .tup [sysE,I 0]) :=
  jB (S:=noS) (J:=pB) (fuel:=1000) (n:=60) zQ mixed (λ_=>kF) (by kernel_rfl) (by kernel_rfl)
set_option maxRecDepth 100000 in
theorem r69 {B:Nat}:Pure Tryz.prog B 69 [I 6] (· = .tup [sysT,I 0]) :=
  jB (S:=noS) (J:=pB) (fuel:=1000) (n:=60) zQ mixed (λ_=>kF) (by kernel_rfl) (by kernel_rfl)
set_option maxRecDepth 100000 in
theorem r85 {B:Nat}:Pure Tryz.prog B 85 [] (· = shuV) :=
  jB (S:=noS) (J:=pB) (fuel:=1000) (n:=60) zQ mixed (λ_=>kF) (by kernel_rfl) (by kernel_rfl)
end Go.Ev
namespace Go.Ev
open Go Go.Proofs
def zw5:List (List AV×AV):=([sysM],basM)::[]
theorem zq5:gD Tryz.prog 23 zw5:=List.forall_mem_cons.2 ⟨λ_=>r23,λ_ h=>by cases h⟩
def zw6:List (List AV×AV):=([sysM,shuV],corM)::[]
theorem zq6:gD Tryz.prog 24 zw6:=List.forall_mem_cons.2 ⟨λ_=>r24,λ_ h=>by cases h⟩
def zw7:List (List AV×AV):=([sysE],depE)::[]
theorem zq7:gD Tryz.prog 31 zw7:=List.forall_mem_cons.2 ⟨λ_=>r31E,λ_ h=>by cases h⟩
def zw8:List (List AV×AV):=([sysM],.tup [I 15,I 0])::([sysT],.tup [I 26,I 0])::[]
theorem zq8:gD Tryz.prog 33 zw8:=List.forall_mem_cons.2 ⟨λ_=>r33M,List.forall_mem_cons.2 ⟨λ_=>r33T,λ_ h=>by cases h⟩⟩
def zw9:List (List AV×AV):=([.agg [I 3,I 3,shuV]],kndM)::[]
theorem zq9:gD Tryz.prog 51 zw9:=List.forall_mem_cons.2 ⟨λ_=>r51,λ_ h=>by cases h⟩
def zxa:List (List AV×AV):=([.str [109,97,103,105,99],I 3],.tup [sysM,I 0])::([.str [115,101,109,105,109,97,103,105,99],I 3],.tup [sysE,I 0])::[]
theorem zra:gD Tryz.prog 65 zxa:=List.forall_mem_cons.2 ⟨λ_=>r65M,List.forall_mem_cons.2 ⟨λ_=>r65E,λ_ h=>by cases h⟩⟩
def zxb:List (List AV×AV):=([I 6],.tup [sysT,I 0])::[]
theorem zrb:gD Tryz.prog 69 zxb:=List.forall_mem_cons.2 ⟨λ_=>r69,λ_ h=>by cases h⟩
def zxc:List (List AV×AV):=([],shuV)::[]
theorem zrc:gD Tryz.prog 85 zxc:=List.forall_mem_cons.2 ⟨λ_=>r85,λ_ h=>by cases h⟩
def Nr (f:Nat):List (List AV×AV):=bif Nat.beq f 23 then zw5 else (bif Nat.beq f 24 then zw6 else (bif Nat.beq f 31 then zw7 else (bif Nat.beq f 33 then zw8 else (bif Nat.beq f 51 then zw9 else (bif Nat.beq f 65 then zxa else (bif Nat.beq f 69 then zxb else (bif Nat.beq f 85 then zxc else ([]))))))))
theorem qcv (f:Nat):gD Tryz.prog f (Nr f):=gZ zq5 (gZ zq6 (gZ zq7 (gZ zq8 (gZ zq9 (gZ zra (gZ zrb (gZ zrc (λ_ h=>by cases h))))))))
noncomputable abbrev zrd:Nat->List AV->T Blk->Option (AV×T Blk):=zgy Nr zg6
theorem zmc {B:Nat}:JOk Tryz.prog B zrd:=zen qcv zb0
set_option maxRecDepth 100000 in
theorem zuq {B:Nat}:Pure Tryz.prog B 17 [] (· = .bool true) :=
  jB (S:=noS) (J:=zrd) (fuel:=1000) (n:=60) zQ mixed (λ_=>zmc) (by kernel_rfl) (by kernel_rfl)
end Go.Ev
