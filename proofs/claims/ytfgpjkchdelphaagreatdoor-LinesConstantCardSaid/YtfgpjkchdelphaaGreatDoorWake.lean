import Derived.Test.YtfgpjkchdelphaaGreatDoorEvD
import Derived.Test.YtfgpjkchdelphaaGreatDoorWordsa
import Derived.Test.YtfgpjkchdelphaaGreatDoorIrT
import Derived.KernelRfl
set_option linter.unusedSimpArgs false
set_option linter.unusedVariables false
noncomputable section
namespace Go.Ev
open Go Go.Proofs
def noS (_:Nat):Bool:=false
def frV (n d:Int):AV:=.agg [I n,.za,I d,.za]
def frB (a b c d e f:Int):List AV×AV:=([frV a b,frV c d],frV e f)
def frU (a b e f:Int):List AV×AV:=([frV a b],frV e f)
def qa4 (f:Nat) (l:List (List AV×AV)):Bool:=l.all λe=>nns e.1&&zjd zgz f e.1 e.2
theorem xN {f:Nat} {l:List (List AV×AV)} (h:qa4 f l=true):gI Tryz.prog f l:=λe he B=>by
  have:=List.all_eq_true.1 h e he;rw [Bool.and_eq_true] at this;exact zg0 (λ_=>zbt) this.1 this.2
def zvj:List (List AV×AV):=[frB (-2) 1 1 2 (-1) 1,frB (-2) 1 1 1 (-2) 1,frB (-3) 2 (-2) 3 1 1,frB (-1) 1 (-1) 1 1 1,frB (-1) 1 (-2) 3 2 3,frB (-1) 1 (-1) 2 1 2,frB (-1) 1 1 2 (-1) 2,frB (-1) 1 1 1 (-1) 1,frB (-1) 2 (-4) 3 2 3,frB (-1) 2 (-1) 3 1 6,frB (-1) 2 2 3 (-1) 3,frB (-1) 2 1 1 (-1) 2,frB 0 1 (-2) 1 0 1,frB 0 1 (-1) 1 0 1,frB 0 1 (-1) 2 0 1,frB 0 1 1 2 0 1,frB 0 1 1 1 0 1,frB 0 1 2 1 0 1,frB 1 2 (-4) 3 (-2) 3,frB 1 2 (-2) 3 (-1) 3,frB 1 2 (-1) 3 (-1) 6,frB 1 2 2 3 1 3,frB 1 2 1 1 1 2,frB 1 1 (-2) 1 (-2) 1,frB 1 1 (-4) 3 (-4) 3,frB 1 1 (-1) 1 (-1) 1,frB 1 1 (-1) 2 (-1) 2,frB 1 1 (-1) 3 (-1) 3,frB 1 1 1 2 1 2,frB 1 1 2 3 2 3,frB 1 1 1 1 1 1,frB 1 1 2 1 2 1,frB 2 1 (-2) 3 (-4) 3,frB 2 1 1 2 1 1,frB 2 1 1 1 2 1,frB 3 1 0 1 0 1,frB 3 1 1 1 3 1]
theorem zp9:gI Tryz.prog 119 zvj:=xN (by kernel_rfl)
def zvk:List (List AV×AV):=[frB (-2) 1 (-1) 1 (-1) 1,frB (-2) 1 0 1 (-2) 1,frB (-1) 1 (-2) 1 1 1,frB (-1) 1 (-4) 3 1 3,frB (-1) 1 (-1) 1 0 1,frB (-1) 1 (-2) 3 (-1) 3,frB (-1) 1 (-1) 2 (-1) 2,frB (-1) 1 (-1) 3 (-2) 3,frB (-1) 1 0 1 (-1) 1,frB (-1) 1 1 3 (-4) 3,frB (-1) 1 1 2 (-3) 2,frB (-1) 1 1 1 (-2) 1,frB (-1) 2 (-1) 2 0 1,frB (-1) 2 (-1) 6 (-1) 3,frB (-1) 2 1 6 (-2) 3,frB 0 1 (-2) 1 2 1,frB 0 1 (-1) 1 1 1,frB 0 1 (-2) 3 2 3,frB 0 1 (-1) 2 1 2,frB 0 1 (-1) 3 1 3,frB 0 1 0 1 0 1,frB 0 1 1 3 (-1) 3,frB 0 1 1 2 (-1) 2,frB 0 1 2 3 (-2) 3,frB 0 1 1 1 (-1) 1,frB 0 1 2 1 (-2) 1,frB 1 2 1 6 1 3,frB 1 2 1 2 0 1,frB 1 1 (-1) 1 2 1,frB 1 1 0 1 1 1,frB 1 1 1 2 1 2,frB 1 1 1 1 0 1,frB 2 1 0 1 2 1,frB 2 1 1 1 1 1]
theorem zqa:gI Tryz.prog 192 zvk:=xN (by kernel_rfl)
def zvl:List (List AV×AV):=[frU (-3) 2 (-2) 3,frU (-1) 1 (-1) 1,frU 1 1 1 1,frU 2 1 1 2]
theorem zqb:gI Tryz.prog 112 zvl:=xN (by kernel_rfl)
def zvm:List (List AV×AV):=[frU (-4) 3 4 3,frU (-1) 1 1 1,frU (-2) 3 2 3,frU (-1) 3 1 3,frU 0 1 0 1,frU 1 3 (-1) 3,frU 2 3 (-2) 3,frU 1 1 (-1) 1]
theorem zqc:gI Tryz.prog 107 zvm:=xN (by kernel_rfl)
def zvn:List (List AV×AV):=[frB (-1) 1 1 1 0 1,frB 0 1 (-1) 1 (-1) 1,frB 0 1 0 1 0 1,frB 0 1 1 1 1 1,frB 1 3 1 3 2 3,frB 2 3 4 3 2 1,frB 1 1 (-1) 1 0 1,frB 1 1 (-2) 3 1 3,frB 1 1 0 1 1 1,frB 1 1 1 3 4 3,frB 1 1 1 1 2 1,frB 1 1 4 3 7 3,frB 4 3 1 3 5 3,frB 5 3 1 3 2 1,frB 5 3 2 3 7 3,frB 2 1 (-1) 1 1 1,frB 2 1 (-1) 3 5 3,frB 2 1 0 1 2 1,frB 2 1 2 3 8 3,frB 2 1 1 1 3 1,frB 7 3 1 3 8 3,frB 7 3 2 3 3 1,frB 8 3 (-2) 3 2 1,frB 8 3 (-1) 3 7 3,frB 8 3 2 3 10 3,frB 3 1 (-1) 1 2 1,frB 3 1 0 1 3 1,frB 10 3 (-1) 3 3 1]
theorem zqd:gI Tryz.prog 114 zvn:=xN (by kernel_rfl)
def zvo:List (List AV×AV):=[frB 3 1 1 1 3 1,frB 45 1 3 1 15 1,frB 78 1 3 1 26 1]
theorem zqe:gI Tryz.prog 115 zvo:=xN (by kernel_rfl)
def opT (f:Nat):List (List AV×AV):=bif Nat.beq f 119 then zvj else (bif Nat.beq f 192 then zvk else (bif Nat.beq f 112 then zvl else (bif Nat.beq f 107 then zvm else (bif Nat.beq f 114 then zvn else (bif Nat.beq f 115 then zvo else ([]))))))
theorem uD {P:Program} {k f:Nat} {l m:List (List AV×AV)} (h1:gI P k l) (h2:gI P f m):gI P f (bif Nat.beq f k then l else m):=by
  cases h:Nat.beq f k with
  | true=>have e:=yO h;subst e;exact h1
  | false=>exact h2
theorem zxz (f:Nat):gI Tryz.prog f (opT f):=uD zp9 (uD zqa (uD zqb (uD zqc (uD zqd (uD zqe (λ_ h=>by cases h))))))
noncomputable abbrev pM:Nat->List AV->T Blk->Option (AV×T Blk):=zgs opT zgz
theorem kH {B:Nat}:JOk Tryz.prog B pM:=zei zxz zbt
end Go.Ev
namespace Go.Ev
open Go Go.Proofs
abbrev sysM:AV:=.agg [I 9,uq [[0,1,2],[3,4,5],[6,7,8],[0,3,6],[1,4,7],[2,5,8],[0,4,8],[2,4,6]]]
abbrev sysE:AV:=.agg [I 9,uq [[0,1,2],[3,4,5],[6,7,8],[0,3,6],[1,4,7],[2,5,8]]]
abbrev sysT:AV:=.agg [I 12,uq [[0,2,6,7],[1,3,7,8],[2,4,8,9],[3,5,9,10],[0,4,10,11],[1,5,6,11]]]
abbrev shuV:AV:=encI [2,7,6,9,5,1,4,3,8]
abbrev spcM:AV:=.agg [encI [0,1,2],.lst 1 3 [.lst 4 9 [I 1,.za,I 1,.za,I 0,.za,I 1,.za,I 0,.za,I 1,.za,I (-2),.za,I 3,.za,I 1,.za,I 3,.za,I 4,.za,I 3,.za,I 2,.za,I 3,.za,I 2,.za,I 3,.za,I (-1),.za,I 3,.za],.lst 4 9 [I 0,.za,I 1,.za,I 1,.za,I 1,.za,I 0,.za,I 1,.za,I 1,.za,I 3,.za,I 1,.za,I 3,.za,I 1,.za,I 3,.za,I 2,.za,I 3,.za,I (-1),.za,I 3,.za,I 2,.za,I 3,.za],.lst 4 9 [I 0,.za,I 1,.za,I 0,.za,I 1,.za,I 1,.za,I 1,.za,I 4,.za,I 3,.za,I 1,.za,I 3,.za,I (-2),.za,I 3,.za,I (-1),.za,I 3,.za,I 2,.za,I 3,.za,I 2,.za,I 3,.za]]]
abbrev spcT:AV:=.agg [encI [0,1,2,3,4,6,7],.lst 1 7 [.lst 4 12 [I 1,.za,I 1,.za,I 0,.za,I 1,.za,I 0,.za,I 1,.za,I 0,.za,I 1,.za,I 0,.za,I 1,.za,I 1,.za,I 1,.za,I 0,.za,I 1,.za,I 0,.za,I 1,.za,I 1,.za,I 1,.za,I 0,.za,I 1,.za,I 0,.za,I 1,.za,I 0,.za,I 1,.za],.lst 4 12 [I 0,.za,I 1,.za,I 1,.za,I 1,.za,I 0,.za,I 1,.za,I 0,.za,I 1,.za,I 0,.za,I 1,.za,I (-1),.za,I 1,.za,I 0,.za,I 1,.za,I 0,.za,I 1,.za,I (-1),.za,I 1,.za,I 1,.za,I 1,.za,I 0,.za,I 1,.za,I 0,.za,I 1,.za],.lst 4 12 [I 0,.za,I 1,.za,I 0,.za,I 1,.za,I 1,.za,I 1,.za,I 0,.za,I 1,.za,I 0,.za,I 1,.za,I 1,.za,I 1,.za,I 0,.za,I 1,.za,I 0,.za,I 1,.za,I 1,.za,I 1,.za,I (-1),.za,I 1,.za,I 1,.za,I 1,.za,I 0,.za,I 1,.za],.lst 4 12 [I 0,.za,I 1,.za,I 0,.za,I 1,.za,I 0,.za,I 1,.za,I 1,.za,I 1,.za,I 0,.za,I 1,.za,I (-1),.za,I 1,.za,I 0,.za,I 1,.za,I 0,.za,I 1,.za,I (-1),.za,I 1,.za,I 1,.za,I 1,.za,I (-1),.za,I 1,.za,I 1,.za,I 1,.za],.lst 4 12 [I 0,.za,I 1,.za,I 0,.za,I 1,.za,I 0,.za,I 1,.za,I 0,.za,I 1,.za,I 1,.za,I 1,.za,I 1,.za,I 1,.za,I 0,.za,I 1,.za,I 0,.za,I 1,.za,I 0,.za,I 1,.za,I (-1),.za,I 1,.za,I 0,.za,I 1,.za,I (-1),.za,I 1,.za],.lst 4 12 [I 0,.za,I 1,.za,I 0,.za,I 1,.za,I 0,.za,I 1,.za,I 0,.za,I 1,.za,I 0,.za,I 1,.za,I 0,.za,I 1,.za,I 1,.za,I 1,.za,I 0,.za,I 1,.za,I 1,.za,I 1,.za,I 0,.za,I 1,.za,I 1,.za,I 1,.za,I 0,.za,I 1,.za],.lst 4 12 [I 0,.za,I 1,.za,I 0,.za,I 1,.za,I 0,.za,I 1,.za,I 0,.za,I 1,.za,I 0,.za,I 1,.za,I 0,.za,I 1,.za,I 0,.za,I 1,.za,I 1,.za,I 1,.za,I 0,.za,I 1,.za,I 1,.za,I 1,.za,I 0,.za,I 1,.za,I 1,.za,I 1,.za]]]
abbrev depE:AV:=.tup [.lst 2 1 [I 5,.lst 1 5 [.str [49],.str [49],.str [49],.str [45,49],.str [45,49]]],I 0]
abbrev kndM:AV:=.tup [.lst 1 4 [.str [110,111,114,109,97,108],.str [115,101,109,105,109,97,103,105,99],.str [109,97,103,105,99],.str [97,115,115,111,99,105,97,116,105,118,101]],I 0]
abbrev basM:AV:=.tup [.lst 1 3 [.lst 1 9 [.str [49],.str [48],.str [48],.str [45,50,47,51],.str [49,47,51],.str [52,47,51],.str [50,47,51],.str [50,47,51],.str [45,49,47,51]],.lst 1 9 [.str [48],.str [49],.str [48],.str [49,47,51],.str [49,47,51],.str [49,47,51],.str [50,47,51],.str [45,49,47,51],.str [50,47,51]],.lst 1 9 [.str [48],.str [48],.str [49],.str [52,47,51],.str [49,47,51],.str [45,50,47,51],.str [45,49,47,51],.str [50,47,51],.str [50,47,51]]],I 0]
abbrev corM:AV:=.tup [.lst 1 3 [.str [50],.str [55],.str [54]],I 0]
set_option maxRecDepth 100000 in
theorem r93M {B:Nat}:Pure Tryz.prog B 93 [sysM] (· = spcM) :=
  jE (S:=noS) (J:=pM) (fuel:=1000) (n:=60) zP mixed (λ_=>kH) (by kernel_rfl) (by kernel_rfl)
end Go.Ev
namespace Go.Ev
open Go Go.Proofs
set_option maxRecDepth 100000 in
theorem r93T {B:Nat}:Pure Tryz.prog B 93 [sysT] (· = spcT) :=
  jE (S:=noS) (J:=pM) (fuel:=1000) (n:=60) zP mixed (λ_=>kH) (by kernel_rfl) (by kernel_rfl)
end Go.Ev
namespace Go.Ev
open Go Go.Proofs
def zvp:List (List AV×AV):=([sysM],spcM)::([sysT],spcT)::[]
theorem zqf:gI Tryz.prog 93 zvp:=List.forall_mem_cons.2 ⟨λ_=>r93M,List.forall_mem_cons.2 ⟨λ_=>r93T,λ_ h=>by cases h⟩⟩
def Nq (f:Nat):List (List AV×AV):=bif Nat.beq f 93 then zvp else ([])
theorem qa5 (f:Nat):gI Tryz.prog f (Nq f):=uD zqf (λ_ h=>by cases h)
noncomputable abbrev zbu:Nat->List AV->T Blk->Option (AV×T Blk):=zgs Nq pM
theorem d9 {B:Nat}:JOk Tryz.prog B zbu:=zei qa5 kH
set_option maxRecDepth 100000 in
theorem r23 {B:Nat}:Pure Tryz.prog B 23 [sysM] (· = basM) :=
  jE (S:=noS) (J:=zbu) (fuel:=1000) (n:=60) zP mixed (λ_=>d9) (by kernel_rfl) (by kernel_rfl)
end Go.Ev
namespace Go.Ev
open Go Go.Proofs
set_option maxRecDepth 100000 in
theorem r24 {B:Nat}:Pure Tryz.prog B 24 [sysM,shuV] (· = corM) :=
  jE (S:=noS) (J:=zbu) (fuel:=1000) (n:=60) zP mixed (λ_=>d9) (by kernel_rfl) (by kernel_rfl)
set_option maxRecDepth 100000 in
theorem r33M {B:Nat}:Pure Tryz.prog B 33 [sysM] (· = .tup [I 15,I 0]) :=
  jE (S:=noS) (J:=zbu) (fuel:=1000) (n:=60) zP mixed (λ_=>d9) (by kernel_rfl) (by kernel_rfl)
set_option maxRecDepth 100000 in
theorem r33T {B:Nat}:Pure Tryz.prog B 33 [sysT] (· = .tup [I 26,I 0]) :=
  jE (S:=noS) (J:=zbu) (fuel:=1000) (n:=60) zP mixed (λ_=>d9) (by kernel_rfl) (by kernel_rfl)
end Go.Ev
namespace Go.Ev
open Go Go.Proofs
set_option maxRecDepth 100000 in
theorem r31E {B:Nat}:Pure Tryz.prog B 31 [sysE] (· = depE) :=
  jE (S:=noS) (J:=pM) (fuel:=1000) (n:=60) zP mixed (λ_=>kH) (by kernel_rfl) (by kernel_rfl)
end Go.Ev
namespace Go.Ev
open Go Go.Proofs
set_option maxRecDepth 100000 in
theorem r51 {B:Nat}:Pure Tryz.prog B 51 [.agg [I 3,I 3,shuV]] (· = kndM) :=
  jE (S:=noS) (J:=pM) (fuel:=1000) (n:=60) zP mixed (λ_=>kH) (by kernel_rfl) (by kernel_rfl)
end Go.Ev
namespace Go.Ev
open Go Go.Proofs
set_option maxRecDepth 100000 in
theorem r65M {B:Nat}:Pure Tryz.prog B 65 [.str [109,97,103,105,99],I 3] (· = .tup [sysM,I 0]) :=
  jE (S:=noS) (J:=pM) (fuel:=1000) (n:=60) zP mixed (λ_=>kH) (by kernel_rfl) (by kernel_rfl)
set_option maxRecDepth 100000 in
theorem r65E {B:Nat}:Pure Tryz.prog B 65 [.str [115,101,109,105,109,97,103,105,99],I 3] (· = .tup [sysE,I 0]) :=
  jE (S:=noS) (J:=pM) (fuel:=1000) (n:=60) zP mixed (λ_=>kH) (by kernel_rfl) (by kernel_rfl)
set_option maxRecDepth 100000 in
theorem r69 {B:Nat}:Pure Tryz.prog B 69 [I 6] (· = .tup [sysT,I 0]) :=
  jE (S:=noS) (J:=pM) (fuel:=1000) (n:=60) zP mixed (λ_=>kH) (by kernel_rfl) (by kernel_rfl)
set_option maxRecDepth 100000 in
theorem r85 {B:Nat}:Pure Tryz.prog B 85 [] (· = shuV) :=
  jE (S:=noS) (J:=pM) (fuel:=1000) (n:=60) zP mixed (λ_=>kH) (by kernel_rfl) (by kernel_rfl)
end Go.Ev
namespace Go.Ev
open Go Go.Proofs
def zvq:List (List AV×AV):=([sysM],basM)::[]
theorem zqg:gI Tryz.prog 23 zvq:=List.forall_mem_cons.2 ⟨λ_=>r23,λ_ h=>by cases h⟩
def zvr:List (List AV×AV):=([sysM,shuV],corM)::[]
theorem zqh:gI Tryz.prog 24 zvr:=List.forall_mem_cons.2 ⟨λ_=>r24,λ_ h=>by cases h⟩
def zvs:List (List AV×AV):=([sysE],depE)::[]
theorem zqi:gI Tryz.prog 31 zvs:=List.forall_mem_cons.2 ⟨λ_=>r31E,λ_ h=>by cases h⟩
def zvt:List (List AV×AV):=([sysM],.tup [I 15,I 0])::([sysT],.tup [I 26,I 0])::[]
theorem zqj:gI Tryz.prog 33 zvt:=List.forall_mem_cons.2 ⟨λ_=>r33M,List.forall_mem_cons.2 ⟨λ_=>r33T,λ_ h=>by cases h⟩⟩
def zvu:List (List AV×AV):=([.agg [I 3,I 3,shuV]],kndM)::[]
theorem zqk:gI Tryz.prog 51 zvu:=List.forall_mem_cons.2 ⟨λ_=>r51,λ_ h=>by cases h⟩
def zvv:List (List AV×AV):=([.str [109,97,103,105,99],I 3],.tup [sysM,I 0])::([.str [115,101,109,105,109,97,103,105,99],I 3],.tup [sysE,I 0])::[]
theorem zql:gI Tryz.prog 65 zvv:=List.forall_mem_cons.2 ⟨λ_=>r65M,List.forall_mem_cons.2 ⟨λ_=>r65E,λ_ h=>by cases h⟩⟩
def zvw:List (List AV×AV):=([I 6],.tup [sysT,I 0])::[]
theorem zqm:gI Tryz.prog 69 zvw:=List.forall_mem_cons.2 ⟨λ_=>r69,λ_ h=>by cases h⟩
def zvx:List (List AV×AV):=([],shuV)::[]
theorem zqn:gI Tryz.prog 85 zvx:=List.forall_mem_cons.2 ⟨λ_=>r85,λ_ h=>by cases h⟩
def Nr (f:Nat):List (List AV×AV):=bif Nat.beq f 23 then zvq else (bif Nat.beq f 24 then zvr else (bif Nat.beq f 31 then zvs else (bif Nat.beq f 33 then zvt else (bif Nat.beq f 51 then zvu else (bif Nat.beq f 65 then zvv else (bif Nat.beq f 69 then zvw else (bif Nat.beq f 85 then zvx else ([]))))))))
theorem qa6 (f:Nat):gI Tryz.prog f (Nr f):=uD zqg (uD zqh (uD zqi (uD zqj (uD zqk (uD zql (uD zqm (uD zqn (λ_ h=>by cases h))))))))
noncomputable abbrev zqo:Nat->List AV->T Blk->Option (AV×T Blk):=zgs Nr zgz
theorem zmn {B:Nat}:JOk Tryz.prog B zqo:=zei qa6 zbt
set_option maxRecDepth 100000 in
theorem zth {B:Nat}:Pure Tryz.prog B 17 [] (· = .bool true) :=
  jE (S:=noS) (J:=zqo) (fuel:=1000) (n:=60) zP mixed (λ_=>zmn) (by kernel_rfl) (by kernel_rfl)
end Go.Ev
