import Derived.Test.YtfgpjkchdelphaaGreatDoorEvD
import Derived.Test.YtfgpjkchdelphaaGreatDoorWordsa
import Derived.Test.YtfgpjkchdelphaaGreatDoorIrT
import Derived.KernelRfl
set_option linter.unusedSimpArgs false
set_option linter.unusedVariables false
noncomputable section
namespace Go.Ev
open Go Go.Proofs
def noS (_:Nat):Bool:=false
def frV (n d:Int):AV:=.agg [I n,.za,I d,.za]
def frB (a b c d e f:Int):List AV×AV:=([frV a b,frV c d],frV e f)
def frU (a b e f:Int):List AV×AV:=([frV a b],frV e f)
def zzt (f:Nat) (l:List (List AV×AV)):Bool:=l.all λe=>nns e.1&&zi4 zgs f e.1 e.2
theorem xF {f:Nat} {l:List (List AV×AV)} (h:zzt f l=true):gG Tryz.prog f l:=λe he B=>by
  have:=List.all_eq_true.1 h e he;rw [Bool.and_eq_true] at this;exact zgt (λ_=>zbl) this.1 this.2
def zt8:List (List AV×AV):=[frB (-2) 1 1 2 (-1) 1,frB (-2) 1 1 1 (-2) 1,frB (-3) 2 (-2) 3 1 1,frB (-1) 1 (-1) 1 1 1,frB (-1) 1 (-2) 3 2 3,frB (-1) 1 (-1) 2 1 2,frB (-1) 1 1 2 (-1) 2,frB (-1) 1 1 1 (-1) 1,frB (-1) 2 (-4) 3 2 3,frB (-1) 2 (-1) 3 1 6,frB (-1) 2 2 3 (-1) 3,frB (-1) 2 1 1 (-1) 2,frB 0 1 (-2) 1 0 1,frB 0 1 (-1) 1 0 1,frB 0 1 (-1) 2 0 1,frB 0 1 1 2 0 1,frB 0 1 1 1 0 1,frB 0 1 2 1 0 1,frB 1 2 (-4) 3 (-2) 3,frB 1 2 (-2) 3 (-1) 3,frB 1 2 (-1) 3 (-1) 6,frB 1 2 2 3 1 3,frB 1 2 1 1 1 2,frB 1 1 (-2) 1 (-2) 1,frB 1 1 (-4) 3 (-4) 3,frB 1 1 (-1) 1 (-1) 1,frB 1 1 (-1) 2 (-1) 2,frB 1 1 (-1) 3 (-1) 3,frB 1 1 1 2 1 2,frB 1 1 2 3 2 3,frB 1 1 1 1 1 1,frB 1 1 2 1 2 1,frB 2 1 (-2) 3 (-4) 3,frB 2 1 1 2 1 1,frB 2 1 1 1 2 1,frB 3 1 0 1 0 1,frB 3 1 1 1 3 1]
theorem zpf:gG Tryz.prog 119 zt8:=xF (by kernel_rfl)
def zt9:List (List AV×AV):=[frB (-2) 1 (-1) 1 (-1) 1,frB (-2) 1 0 1 (-2) 1,frB (-1) 1 (-2) 1 1 1,frB (-1) 1 (-4) 3 1 3,frB (-1) 1 (-1) 1 0 1,frB (-1) 1 (-2) 3 (-1) 3,frB (-1) 1 (-1) 2 (-1) 2,frB (-1) 1 (-1) 3 (-2) 3,frB (-1) 1 0 1 (-1) 1,frB (-1) 1 1 3 (-4) 3,frB (-1) 1 1 2 (-3) 2,frB (-1) 1 1 1 (-2) 1,frB (-1) 2 (-1) 2 0 1,frB (-1) 2 (-1) 6 (-1) 3,frB (-1) 2 1 6 (-2) 3,frB 0 1 (-2) 1 2 1,frB 0 1 (-1) 1 1 1,frB 0 1 (-2) 3 2 3,frB 0 1 (-1) 2 1 2,frB 0 1 (-1) 3 1 3,frB 0 1 0 1 0 1,frB 0 1 1 3 (-1) 3,frB 0 1 1 2 (-1) 2,frB 0 1 2 3 (-2) 3,frB 0 1 1 1 (-1) 1,frB 0 1 2 1 (-2) 1,frB 1 2 1 6 1 3,frB 1 2 1 2 0 1,frB 1 1 (-1) 1 2 1,frB 1 1 0 1 1 1,frB 1 1 1 2 1 2,frB 1 1 1 1 0 1,frB 2 1 0 1 2 1,frB 2 1 1 1 1 1]
theorem zpg:gG Tryz.prog 192 zt9:=xF (by kernel_rfl)
def zua:List (List AV×AV):=[frU (-3) 2 (-2) 3,frU (-1) 1 (-1) 1,frU 1 1 1 1,frU 2 1 1 2]
theorem zph:gG Tryz.prog 112 zua:=xF (by kernel_rfl)
def zue:List (List AV×AV):=[frU (-4) 3 4 3,frU (-1) 1 1 1,frU (-2) 3 2 3,frU (-1) 3 1 3,frU 0 1 0 1,frU 1 3 (-1) 3,frU 2 3 (-2) 3,frU 1 1 (-1) 1]
theorem zpi:gG Tryz.prog 107 zue:=xF (by kernel_rfl)
def zuf:List (List AV×AV):=[frB (-1) 1 1 1 0 1,frB 0 1 (-1) 1 (-1) 1,frB 0 1 0 1 0 1,frB 0 1 1 1 1 1,frB 1 3 1 3 2 3,frB 2 3 4 3 2 1,frB 1 1 (-1) 1 0 1,frB 1 1 (-2) 3 1 3,frB 1 1 0 1 1 1,frB 1 1 1 3 4 3,frB 1 1 1 1 2 1,frB 1 1 4 3 7 3,frB 4 3 1 3 5 3,frB 5 3 1 3 2 1,frB 5 3 2 3 7 3,frB 2 1 (-1) 1 1 1,frB 2 1 (-1) 3 5 3,frB 2 1 0 1 2 1,frB 2 1 2 3 8 3,frB 2 1 1 1 3 1,frB 7 3 1 3 8 3,frB 7 3 2 3 3 1,frB 8 3 (-2) 3 2 1,frB 8 3 (-1) 3 7 3,frB 8 3 2 3 10 3,frB 3 1 (-1) 1 2 1,frB 3 1 0 1 3 1,frB 10 3 (-1) 3 3 1]
theorem zpj:gG Tryz.prog 114 zuf:=xF (by kernel_rfl)
def zug:List (List AV×AV):=[frB 3 1 1 1 3 1,frB 45 1 3 1 15 1,frB 78 1 3 1 26 1]
theorem zpk:gG Tryz.prog 115 zug:=xF (by kernel_rfl)
def opT (f:Nat):List (List AV×AV):=bif Nat.beq f 119 then zt8 else (bif Nat.beq f 192 then zt9 else (bif Nat.beq f 112 then zua else (bif Nat.beq f 107 then zue else (bif Nat.beq f 114 then zuf else (bif Nat.beq f 115 then zug else ([]))))))
theorem uD {P:Program} {k f:Nat} {l m:List (List AV×AV)} (h1:gG P k l) (h2:gG P f m):gG P f (bif Nat.beq f k then l else m):=by
  cases h:Nat.beq f k with
  | true=>have e:=yN h;subst e;exact h1
  | false=>exact h2
theorem zwg (f:Nat):gG Tryz.prog f (opT f):=uD zpf (uD zpg (uD zph (uD zpi (uD zpj (uD zpk (λ_ h=>by cases h))))))
noncomputable abbrev d8:Nat->List AV->T Blk->Option (AV×T Blk):=zgk opT zgs
theorem kB {B:Nat}:JOk Tryz.prog B d8:=zef zwg zbl
end Go.Ev
namespace Go.Ev
open Go Go.Proofs
abbrev sysM:AV:=.agg [I 9,xk [[0,1,2],[3,4,5],[6,7,8],[0,3,6],[1,4,7],[2,5,8],[0,4,8],[2,4,6]]]
abbrev sysE:AV:=.agg [I 9,xk [[0,1,2],[3,4,5],[6,7,8],[0,3,6],[1,4,7],[2,5,8]]]
abbrev sysT:AV:=.agg [I 12,xk [[0,2,6,7],[1,3,7,8],[2,4,8,9],[3,5,9,10],[0,4,10,11],[1,5,6,11]]]
abbrev shuV:AV:=encI [2,7,6,9,5,1,4,3,8]
abbrev spcM:AV:=.agg [encI [0,1,2],.lst 1 3 [.lst 4 9 [I 1,.za,I 1,.za,I 0,.za,I 1,.za,I 0,.za,I 1,.za,I (-2),.za,I 3,.za,I 1,.za,I 3,.za,I 4,.za,I 3,.za,I 2,.za,I 3,.za,I 2,.za,I 3,.za,I (-1),.za,I 3,.za],.lst 4 9 [I 0,.za,I 1,.za,I 1,.za,I 1,.za,I 0,.za,I 1,.za,I 1,.za,I 3,.za,I 1,.za,I 3,.za,I 1,.za,I 3,.za,I 2,.za,I 3,.za,I (-1),.za,I 3,.za,I 2,.za,I 3,.za],.lst 4 9 [I 0,.za,I 1,.za,I 0,.za,I 1,.za,I 1,.za,I 1,.za,I 4,.za,I 3,.za,I 1,.za,I 3,.za,I (-2),.za,I 3,.za,I (-1),.za,I 3,.za,I 2,.za,I 3,.za,I 2,.za,I 3,.za]]]
abbrev spcT:AV:=.agg [encI [0,1,2,3,4,6,7],.lst 1 7 [.lst 4 12 [I 1,.za,I 1,.za,I 0,.za,I 1,.za,I 0,.za,I 1,.za,I 0,.za,I 1,.za,I 0,.za,I 1,.za,I 1,.za,I 1,.za,I 0,.za,I 1,.za,I 0,.za,I 1,.za,I 1,.za,I 1,.za,I 0,.za,I 1,.za,I 0,.za,I 1,.za,I 0,.za,I 1,.za],.lst 4 12 [I 0,.za,I 1,.za,I 1,.za,I 1,.za,I 0,.za,I 1,.za,I 0,.za,I 1,.za,I 0,.za,I 1,.za,I (-1),.za,I 1,.za,I 0,.za,I 1,.za,I 0,.za,I 1,.za,I (-1),.za,I 1,.za,I 1,.za,I 1,.za,I 0,.za,I 1,.za,I 0,.za,I 1,.za],.lst 4 12 [I 0,.za,I 1,.za,I 0,.za,I 1,.za,I 1,.za,I 1,.za,I 0,.za,I 1,.za,I 0,.za,I 1,.za,I 1,.za,I 1,.za,I 0,.za,I 1,.za,I 0,.za,I 1,.za,I 1,.za,I 1,.za,I (-1),.za,I 1,.za,I 1,.za,I 1,.za,I 0,.za,I 1,.za],.lst 4 12 [I 0,.za,I 1,.za,I 0,.za,I 1,.za,I 0,.za,I 1,.za,I 1,.za,I 1,.za,I 0,.za,I 1,.za,I (-1),.za,I 1,.za,I 0,.za,I 1,.za,I 0,.za,I 1,.za,I (-1),.za,I 1,.za,I 1,.za,I 1,.za,I (-1),.za,I 1,.za,I 1,.za,I 1,.za],.lst 4 12 [I 0,.za,I 1,.za,I 0,.za,I 1,.za,I 0,.za,I 1,.za,I 0,.za,I 1,.za,I 1,.za,I 1,.za,I 1,.za,I 1,.za,I 0,.za,I 1,.za,I 0,.za,I 1,.za,I 0,.za,I 1,.za,I (-1),.za,I 1,.za,I 0,.za,I 1,.za,I (-1),.za,I 1,.za],.lst 4 12 [I 0,.za,I 1,.za,I 0,.za,I 1,.za,I 0,.za,I 1,.za,I 0,.za,I 1,.za,I 0,.za,I 1,.za,I 0,.za,I 1,.za,I 1,.za,I 1,.za,I 0,.za,I 1,.za,I 1,.za,I 1,.za,I 0,.za,I 1,.za,I 1,.za,I 1,.za,I 0,.za,I 1,.za],.lst 4 12 [I 0,.za,I 1,.za,I 0,.za,I 1,.za,I 0,.za,I 1,.za,I 0,.za,I 1,.za,I 0,.za,I 1,.za,I 0,.za,I 1,.za,I 0,.za,I 1,.za,I 1,.za,I 1,.za,I 0,.za,I 1,.za,I 1,.za,I 1,.za,I 0,.za,I 1,.za,I 1,.za,I 1,.za]]]
abbrev depE:AV:=.tup [.lst 2 1 [I 5,.lst 1 5 [.str [49],.str [49],.str [49],.str [45,49],.str [45,49]]],I 0]
abbrev kndM:AV:=.tup [.lst 1 4 [.str [110,111,114,109,97,108],.str [115,101,109,105,109,97,103,105,99],.str [109,97,103,105,99],.str [97,115,115,111,99,105,97,116,105,118,101]],I 0]
abbrev basM:AV:=.tup [.lst 1 3 [.lst 1 9 [.str [49],.str [48],.str [48],.str [45,50,47,51],.str [49,47,51],.str [52,47,51],.str [50,47,51],.str [50,47,51],.str [45,49,47,51]],.lst 1 9 [.str [48],.str [49],.str [48],.str [49,47,51],.str [49,47,51],.str [49,47,51],.str [50,47,51],.str [45,49,47,51],.str [50,47,51]],.lst 1 9 [.str [48],.str [48],.str [49],.str [52,47,51],.str [49,47,51],.str [45,50,47,51],.str [45,49,47,51],.str [50,47,51],.str [50,47,51]]],I 0]
abbrev corM:AV:=.tup [.lst 1 3 [.str [50],.str [55],.str [54]],I 0]
set_option maxRecDepth 100000 in
theorem r93M {B:Nat}:Pure Tryz.prog B 93 [sysM] (· = spcM) :=
  yY (S:=noS) (J:=d8) (fuel:=1000) (n:=60) zQ mixed (λ_=>kB) (by kernel_rfl) (by kernel_rfl)
end Go.Ev
namespace Go.Ev
open Go Go.Proofs
set_option maxRecDepth 100000 in
theorem r93T {B:Nat}:Pure Tryz.prog B 93 [sysT] (· = spcT) :=
  yY (S:=noS) (J:=d8) (fuel:=1000) (n:=60) zQ mixed (λ_=>kB) (by kernel_rfl) (by kernel_rfl)
end Go.Ev
namespace Go.Ev
open Go Go.Proofs
def zuh:List (List AV×AV):=([sysM],spcM)::([sysT],spcT)::[]
theorem zpl:gG Tryz.prog 93 zuh:=List.forall_mem_cons.2 ⟨λ_=>r93M,List.forall_mem_cons.2 ⟨λ_=>r93T,λ_ h=>by cases h⟩⟩
def Nq (f:Nat):List (List AV×AV):=bif Nat.beq f 93 then zuh else ([])
theorem zzu (f:Nat):gG Tryz.prog f (Nq f):=uD zpl (λ_ h=>by cases h)
noncomputable abbrev zbm:Nat->List AV->T Blk->Option (AV×T Blk):=zgk Nq d8
theorem dS {B:Nat}:JOk Tryz.prog B zbm:=zef zzu kB
set_option maxRecDepth 100000 in
theorem r23 {B:Nat}:Pure Tryz.prog B 23 [sysM] (· = basM) :=
  yY (S:=noS) (J:=zbm) (fuel:=1000) (n:=60) zQ mixed (λ_=>dS) (by kernel_rfl) (by kernel_rfl)
end Go.Ev
namespace Go.Ev
open Go Go.Proofs
set_option maxRecDepth 100000 in
theorem r24 {B:Nat}:Pure Tryz.prog B 24 [sysM,shuV] (· = corM) :=
  yY (S:=noS) (J:=zbm) (fuel:=1000) (n:=60) zQ mixed (λ_=>dS) (by kernel_rfl) (by kernel_rfl)
set_option maxRecDepth 100000 in
theorem r33M {B:Nat}:Pure Tryz.prog B 33 [sysM] (· = .tup [I 15,I 0]) :=
  yY (S:=noS) (J:=zbm) (fuel:=1000) (n:=60) zQ mixed (λ_=>dS) (by kernel_rfl) (by kernel_rfl)
set_option maxRecDepth 100000 in
theorem r33T {B:Nat}:Pure Tryz.prog B 33 [sysT] (· = .tup [I 26,I 0]) :=
  yY (S:=noS) (J:=zbm) (fuel:=1000) (n:=60) zQ mixed (λ_=>dS) (by kernel_rfl) (by kernel_rfl)
end Go.Ev
namespace Go.Ev
open Go Go.Proofs
set_option maxRecDepth 100000 in
theorem r31E {B:Nat}:Pure Tryz.prog B 31 [sysE] (· = depE) :=
  yY (S:=noS) (J:=d8) (fuel:=1000) (n:=60) zQ mixed (λ_=>kB) (by kernel_rfl) (by kernel_rfl)
end Go.Ev
namespace Go.Ev
open Go Go.Proofs
set_option maxRecDepth 100000 in
theorem r51 {B:Nat}:Pure Tryz.prog B 51 [.agg [I 3,I 3,shuV]] (· = kndM) :=
  yY (S:=noS) (J:=d8) (fuel:=1000) (n:=60) zQ mixed (λ_=>kB) (by kernel_rfl) (by kernel_rfl)
end Go.Ev
namespace Go.Ev
open Go Go.Proofs
set_option maxRecDepth 100000 in
theorem r65M {B:Nat}:Pure Tryz.prog B 65 [.str [109,97,103,105,99],I 3] (· = .tup [sysM,I 0]) :=
  yY (S:=noS) (J:=d8) (fuel:=1000) (n:=60) zQ mixed (λ_=>kB) (by kernel_rfl) (by kernel_rfl)
set_option maxRecDepth 100000 in
theorem r65E {B:Nat}:Pure Tryz.prog B 65 [.str [115,101,109,105,109,97,103,105,99],I 3] (· = .tup [sysE,I 0]) :=
  yY (S:=noS) (J:=d8) (fuel:=1000) (n:=60) zQ mixed (λ_=>kB) (by kernel_rfl) (by kernel_rfl)
set_option maxRecDepth 100000 in
theorem r69 {B:Nat}:Pure Tryz.prog B 69 [I 6] (· = .tup [sysT,I 0]) :=
  yY (S:=noS) (J:=d8) (fuel:=1000) (n:=60) zQ mixed (λ_=>kB) (by kernel_rfl) (by kernel_rfl)
set_option maxRecDepth 100000 in
theorem r85 {B:Nat}:Pure Tryz.prog B 85 [] (· = shuV) :=
  yY (S:=noS) (J:=d8) (fuel:=1000) (n:=60) zQ mixed (λ_=>kB) (by kernel_rfl) (by kernel_rfl)
end Go.Ev
namespace Go.Ev
open Go Go.Proofs
def zui:List (List AV×AV):=([sysM],basM)::[]
theorem zpm:gG Tryz.prog 23 zui:=List.forall_mem_cons.2 ⟨λ_=>r23,λ_ h=>by cases h⟩
def zuj:List (List AV×AV):=([sysM,shuV],corM)::[]
theorem zpn:gG Tryz.prog 24 zuj:=List.forall_mem_cons.2 ⟨λ_=>r24,λ_ h=>by cases h⟩
def zuk:List (List AV×AV):=([sysE],depE)::[]
theorem zpo:gG Tryz.prog 31 zuk:=List.forall_mem_cons.2 ⟨λ_=>r31E,λ_ h=>by cases h⟩
def zul:List (List AV×AV):=([sysM],.tup [I 15,I 0])::([sysT],.tup [I 26,I 0])::[]
theorem zpp:gG Tryz.prog 33 zul:=List.forall_mem_cons.2 ⟨λ_=>r33M,List.forall_mem_cons.2 ⟨λ_=>r33T,λ_ h=>by cases h⟩⟩
def zum:List (List AV×AV):=([.agg [I 3,I 3,shuV]],kndM)::[]
theorem zpq:gG Tryz.prog 51 zum:=List.forall_mem_cons.2 ⟨λ_=>r51,λ_ h=>by cases h⟩
def zun:List (List AV×AV):=([.str [109,97,103,105,99],I 3],.tup [sysM,I 0])::([.str [115,101,109,105,109,97,103,105,99],I 3],.tup [sysE,I 0])::[]
theorem zpr:gG Tryz.prog 65 zun:=List.forall_mem_cons.2 ⟨λ_=>r65M,List.forall_mem_cons.2 ⟨λ_=>r65E,λ_ h=>by cases h⟩⟩
def zuo:List (List AV×AV):=([I 6],.tup [sysT,I 0])::[]
theorem zps:gG Tryz.prog 69 zuo:=List.forall_mem_cons.2 ⟨λ_=>r69,λ_ h=>by cases h⟩
def zup:List (List AV×AV):=([],shuV)::[]
theorem zpt:gG Tryz.prog 85 zup:=List.forall_mem_cons.2 ⟨λ_=>r85,λ_ h=>by cases h⟩
def Nr (f:Nat):List (List AV×AV):=bif Nat.beq f 23 then zui else (bif Nat.beq f 24 then zuj else (bif Nat.beq f 31 then zuk else (bif Nat.beq f 33 then zul else (bif Nat.beq f 51 then zum else (bif Nat.beq f 65 then zun else (bif Nat.beq f 69 then zuo else (bif Nat.beq f 85 then zup else ([]))))))))
theorem zzv (f:Nat):gG Tryz.prog f (Nr f):=uD zpm (uD zpn (uD zpo (uD zpp (uD zpq (uD zpr (uD zps (uD zpt (λ_ h=>by cases h))))))))
noncomputable abbrev zpu:Nat->List AV->T Blk->Option (AV×T Blk):=zgk Nr zgs
theorem zma {B:Nat}:JOk Tryz.prog B zpu:=zef zzv zbl
set_option maxRecDepth 100000 in
theorem zsc {B:Nat}:Pure Tryz.prog B 17 [] (· = .bool true) :=
  yY (S:=noS) (J:=zpu) (fuel:=1000) (n:=60) zQ mixed (λ_=>zma) (by kernel_rfl) (by kernel_rfl)
end Go.Ev
