import Derived.Test.YtfgpjkchdelphaaGreatDoorEvD
import Derived.Test.YtfgpjkchdelphaaGreatDoorWordsa
import Derived.Test.YtfgpjkchdelphaaGreatDoorIrT
import Derived.KernelRfl
set_option linter.unusedSimpArgs false
set_option linter.unusedVariables false
noncomputable section
namespace Go.Ev
open Go Go.Proofs
def noS (_:Nat):Bool:=false
def frV (n d:Int):AV:=.agg [I n,.zb,I d,.zb]
def frB (a b c d e f:Int):List AV×AV:=([frV a b,frV c d],frV e f)
def frU (a b e f:Int):List AV×AV:=([frV a b],frV e f)
def qbu (f:Nat) (l:List (List AV×AV)):Bool:=l.all λe=>nns e.1&&zje zg1 f e.1 e.2
theorem xJ {f:Nat} {l:List (List AV×AV)} (h:qbu f l=true):gH Tryz.prog f l:=λe he B=>by
  have:=List.all_eq_true.1 h e he;rw [Bool.and_eq_true] at this;exact zg2 (λ_=>zbu) this.1 this.2
def zv3:List (List AV×AV):=[frB (-2) 1 1 2 (-1) 1,frB (-2) 1 1 1 (-2) 1,frB (-3) 2 (-2) 3 1 1,frB (-1) 1 (-1) 1 1 1,frB (-1) 1 (-2) 3 2 3,frB (-1) 1 (-1) 2 1 2,frB (-1) 1 1 2 (-1) 2,frB (-1) 1 1 1 (-1) 1,frB (-1) 2 (-4) 3 2 3,frB (-1) 2 (-1) 3 1 6,frB (-1) 2 2 3 (-1) 3,frB (-1) 2 1 1 (-1) 2,frB 0 1 (-2) 1 0 1,frB 0 1 (-1) 1 0 1,frB 0 1 (-1) 2 0 1,frB 0 1 1 2 0 1,frB 0 1 1 1 0 1,frB 0 1 2 1 0 1,frB 1 2 (-4) 3 (-2) 3,frB 1 2 (-2) 3 (-1) 3,frB 1 2 (-1) 3 (-1) 6,frB 1 2 2 3 1 3,frB 1 2 1 1 1 2,frB 1 1 (-2) 1 (-2) 1,frB 1 1 (-4) 3 (-4) 3,frB 1 1 (-1) 1 (-1) 1,frB 1 1 (-1) 2 (-1) 2,frB 1 1 (-1) 3 (-1) 3,frB 1 1 1 2 1 2,frB 1 1 2 3 2 3,frB 1 1 1 1 1 1,frB 1 1 2 1 2 1,frB 2 1 (-2) 3 (-4) 3,frB 2 1 1 2 1 1,frB 2 1 1 1 2 1,frB 3 1 0 1 0 1,frB 3 1 1 1 3 1]
theorem zp2:gH Tryz.prog 119 zv3:=xJ (by kernel_rfl)
def zv4:List (List AV×AV):=[frB (-2) 1 (-1) 1 (-1) 1,frB (-2) 1 0 1 (-2) 1,frB (-1) 1 (-2) 1 1 1,frB (-1) 1 (-4) 3 1 3,frB (-1) 1 (-1) 1 0 1,frB (-1) 1 (-2) 3 (-1) 3,frB (-1) 1 (-1) 2 (-1) 2,frB (-1) 1 (-1) 3 (-2) 3,frB (-1) 1 0 1 (-1) 1,frB (-1) 1 1 3 (-4) 3,frB (-1) 1 1 2 (-3) 2,frB (-1) 1 1 1 (-2) 1,frB (-1) 2 (-1) 2 0 1,frB (-1) 2 (-1) 6 (-1) 3,frB (-1) 2 1 6 (-2) 3,frB 0 1 (-2) 1 2 1,frB 0 1 (-1) 1 1 1,frB 0 1 (-2) 3 2 3,frB 0 1 (-1) 2 1 2,frB 0 1 (-1) 3 1 3,frB 0 1 0 1 0 1,frB 0 1 1 3 (-1) 3,frB 0 1 1 2 (-1) 2,frB 0 1 2 3 (-2) 3,frB 0 1 1 1 (-1) 1,frB 0 1 2 1 (-2) 1,frB 1 2 1 6 1 3,frB 1 2 1 2 0 1,frB 1 1 (-1) 1 2 1,frB 1 1 0 1 1 1,frB 1 1 1 2 1 2,frB 1 1 1 1 0 1,frB 2 1 0 1 2 1,frB 2 1 1 1 1 1]
theorem zp3:gH Tryz.prog 192 zv4:=xJ (by kernel_rfl)
def zv5:List (List AV×AV):=[frU (-3) 2 (-2) 3,frU (-1) 1 (-1) 1,frU 1 1 1 1,frU 2 1 1 2]
theorem zp4:gH Tryz.prog 112 zv5:=xJ (by kernel_rfl)
def zv6:List (List AV×AV):=[frU (-4) 3 4 3,frU (-1) 1 1 1,frU (-2) 3 2 3,frU (-1) 3 1 3,frU 0 1 0 1,frU 1 3 (-1) 3,frU 2 3 (-2) 3,frU 1 1 (-1) 1]
theorem zp5:gH Tryz.prog 107 zv6:=xJ (by kernel_rfl)
def zv7:List (List AV×AV):=[frB (-1) 1 1 1 0 1,frB 0 1 (-1) 1 (-1) 1,frB 0 1 0 1 0 1,frB 0 1 1 1 1 1,frB 1 3 1 3 2 3,frB 2 3 4 3 2 1,frB 1 1 (-1) 1 0 1,frB 1 1 (-2) 3 1 3,frB 1 1 0 1 1 1,frB 1 1 1 3 4 3,frB 1 1 1 1 2 1,frB 1 1 4 3 7 3,frB 4 3 1 3 5 3,frB 5 3 1 3 2 1,frB 5 3 2 3 7 3,frB 2 1 (-1) 1 1 1,frB 2 1 (-1) 3 5 3,frB 2 1 0 1 2 1,frB 2 1 2 3 8 3,frB 2 1 1 1 3 1,frB 7 3 1 3 8 3,frB 7 3 2 3 3 1,frB 8 3 (-2) 3 2 1,frB 8 3 (-1) 3 7 3,frB 8 3 2 3 10 3,frB 3 1 (-1) 1 2 1,frB 3 1 0 1 3 1,frB 10 3 (-1) 3 3 1]
theorem zp6:gH Tryz.prog 114 zv7:=xJ (by kernel_rfl)
def zv8:List (List AV×AV):=[frB 3 1 1 1 3 1,frB 45 1 3 1 15 1,frB 78 1 3 1 26 1]
theorem zp7:gH Tryz.prog 115 zv8:=xJ (by kernel_rfl)
def opT (f:Nat):List (List AV×AV):=bif Nat.beq f 119 then zv3 else (bif Nat.beq f 192 then zv4 else (bif Nat.beq f 112 then zv5 else (bif Nat.beq f 107 then zv6 else (bif Nat.beq f 114 then zv7 else (bif Nat.beq f 115 then zv8 else ([]))))))
theorem uI {P:Program} {k f:Nat} {l m:List (List AV×AV)} (h1:gH P k l) (h2:gH P f m):gH P f (bif Nat.beq f k then l else m):=by
  cases h:Nat.beq f k with
  | true=>have e:=yP h;subst e;exact h1
  | false=>exact h2
theorem zyj (f:Nat):gH Tryz.prog f (opT f):=uI zp2 (uI zp3 (uI zp4 (uI zp5 (uI zp6 (uI zp7 (λ_ h=>by cases h))))))
noncomputable abbrev pN:Nat->List AV->T Blk->Option (AV×T Blk):=zgu opT zg1
theorem kK {B:Nat}:JOk Tryz.prog B pN:=zev zyj zbu
end Go.Ev
namespace Go.Ev
open Go Go.Proofs
abbrev sysM:AV:=.agg [I 9,uf [[0,1,2],[3,4,5],[6,7,8],[0,3,6],[1,4,7],[2,5,8],[0,4,8],[2,4,6]]]
abbrev sysE:AV:=.agg [I 9,uf [[0,1,2],[3,4,5],[6,7,8],[0,3,6],[1,4,7],[2,5,8]]]
abbrev sysT:AV:=.agg [I 12,uf [[0,2,6,7],[1,3,7,8],[2,4,8,9],[3,5,9,10],[0,4,10,11],[1,5,6,11]]]
abbrev shuV:AV:=encI [2,7,6,9,5,1,4,3,8]
abbrev spcM:AV:=.agg [encI [0,1,2],.lst 1 3 [.lst 4 9 [I 1,.zb,I 1,.zb,I 0,.zb,I 1,.zb,I 0,.zb,I 1,.zb,I (-2),.zb,I 3,.zb,I 1,.zb,I 3,.zb,I 4,.zb,I 3,.zb,I 2,.zb,I 3,.zb,I 2,.zb,I 3,.zb,I (-1),.zb,I 3,.zb],.lst 4 9 [I 0,.zb,I 1,.zb,I 1,.zb,I 1,.zb,I 0,.zb,I 1,.zb,I 1,.zb,I 3,.zb,I 1,.zb,I 3,.zb,I 1,.zb,I 3,.zb,I 2,.zb,I 3,.zb,I (-1),.zb,I 3,.zb,I 2,.zb,I 3,.zb],.lst 4 9 [I 0,.zb,I 1,.zb,I 0,.zb,I 1,.zb,I 1,.zb,I 1,.zb,I 4,.zb,I 3,.zb,I 1,.zb,I 3,.zb,I (-2),.zb,I 3,.zb,I (-1),.zb,I 3,.zb,I 2,.zb,I 3,.zb,I 2,.zb,I 3,.zb]]]
abbrev spcT:AV:=.agg [encI [0,1,2,3,4,6,7],.lst 1 7 [.lst 4 12 [I 1,.zb,I 1,.zb,I 0,.zb,I 1,.zb,I 0,.zb,I 1,.zb,I 0,.zb,I 1,.zb,I 0,.zb,I 1,.zb,I 1,.zb,I 1,.zb,I 0,.zb,I 1,.zb,I 0,.zb,I 1,.zb,I 1,.zb,I 1,.zb,I 0,.zb,I 1,.zb,I 0,.zb,I 1,.zb,I 0,.zb,I 1,.zb],.lst 4 12 [I 0,.zb,I 1,.zb,I 1,.zb,I 1,.zb,I 0,.zb,I 1,.zb,I 0,.zb,I 1,.zb,I 0,.zb,I 1,.zb,I (-1),.zb,I 1,.zb,I 0,.zb,I 1,.zb,I 0,.zb,I 1,.zb,I (-1),.zb,I 1,.zb,I 1,.zb,I 1,.zb,I 0,.zb,I 1,.zb,I 0,.zb,I 1,.zb],.lst 4 12 [I 0,.zb,I 1,.zb,I 0,.zb,I 1,.zb,I 1,.zb,I 1,.zb,I 0,.zb,I 1,.zb,I 0,.zb,I 1,.zb,I 1,.zb,I 1,.zb,I 0,.zb,I 1,.zb,I 0,.zb,I 1,.zb,I 1,.zb,I 1,.zb,I (-1),.zb,I 1,.zb,I 1,.zb,I 1,.zb,I 0,.zb,I 1,.zb],.lst 4 12 [I 0,.zb,I 1,.zb,I 0,.zb,I 1,.zb,I 0,.zb,I 1,.zb,I 1,.zb,I 1,.zb,I 0,.zb,I 1,.zb,I (-1),.zb,I 1,.zb,I 0,.zb,I 1,.zb,I 0,.zb,I 1,.zb,I (-1),.zb,I 1,.zb,I 1,.zb,I 1,.zb,I (-1),.zb,I 1,.zb,I 1,.zb,I 1,.zb],.lst 4 12 [I 0,.zb,I 1,.zb,I 0,.zb,I 1,.zb,I 0,.zb,I 1,.zb,I 0,.zb,I 1,.zb,I 1,.zb,I 1,.zb,I 1,.zb,I 1,.zb,I 0,.zb,I 1,.zb,I 0,.zb,I 1,.zb,I 0,.zb,I 1,.zb,I (-1),.zb,I 1,.zb,I 0,.zb,I 1,.zb,I (-1),.zb,I 1,.zb],.lst 4 12 [I 0,.zb,I 1,.zb,I 0,.zb,I 1,.zb,I 0,.zb,I 1,.zb,I 0,.zb,I 1,.zb,I 0,.zb,I 1,.zb,I 0,.zb,I 1,.zb,I 1,.zb,I 1,.zb,I 0,.zb,I 1,.zb,I 1,.zb,I 1,.zb,I 0,.zb,I 1,.zb,I 1,.zb,I 1,.zb,I 0,.zb,I 1,.zb],.lst 4 12 [I 0,.zb,I 1,.zb,I 0,.zb,I 1,.zb,I 0,.zb,I 1,.zb,I 0,.zb,I 1,.zb,I 0,.zb,I 1,.zb,I 0,.zb,I 1,.zb,I 0,.zb,I 1,.zb,I 1,.zb,I 1,.zb,I 0,.zb,I 1,.zb,I 1,.zb,I 1,.zb,I 0,.zb,I 1,.zb,I 1,.zb,I 1,.zb]]]
abbrev depE:AV:=.tup [.lst 2 1 [I 5,.lst 1 5 [.str [49],.str [49],.str [49],.str [45,49],.str [45,49]]],I 0]
abbrev kndM:AV:=.tup [.lst 1 4 [.str [110,111,114,109,97,108],.str [115,101,109,105,109,97,103,105,99],.str [109,97,103,105,99],.str [97,115,115,111,99,105,97,116,105,118,101]],I 0]
abbrev basM:AV:=.tup [.lst 1 3 [.lst 1 9 [.str [49],.str [48],.str [48],.str [45,50,47,51],.str [49,47,51],.str [52,47,51],.str [50,47,51],.str [50,47,51],.str [45,49,47,51]],.lst 1 9 [.str [48],.str [49],.str [48],.str [49,47,51],.str [49,47,51],.str [49,47,51],.str [50,47,51],.str [45,49,47,51],.str [50,47,51]],.lst 1 9 [.str [48],.str [48],.str [49],.str [52,47,51],.str [49,47,51],.str [45,50,47,51],.str [45,49,47,51],.str [50,47,51],.str [50,47,51]]],I 0]
abbrev corM:AV:=.tup [.lst 1 3 [.str [50],.str [55],.str [54]],I 0]
set_option maxRecDepth 100000 in
theorem r93M {B:Nat}:Pure Tryz.prog B 93 [sysM] (· = spcM) :=
  jC (S:=noS) (J:=pN) (fuel:=1000) (n:=60) zN mixed (λ_=>kK) (by kernel_rfl) (by kernel_rfl)
end Go.Ev
namespace Go.Ev
open Go Go.Proofs
set_option maxRecDepth 100000 in
theorem r93T {B:Nat}:Pure Tryz.prog B 93 [sysT] (· = spcT) :=
  jC (S:=noS) (J:=pN) (fuel:=1000) (n:=60) zN mixed (λ_=>kK) (by kernel_rfl) (by kernel_rfl)
end Go.Ev
namespace Go.Ev
open Go Go.Proofs
def zv9:List (List AV×AV):=([sysM],spcM)::([sysT],spcT)::[]
theorem zp8:gH Tryz.prog 93 zv9:=List.forall_mem_cons.2 ⟨λ_=>r93M,List.forall_mem_cons.2 ⟨λ_=>r93T,λ_ h=>by cases h⟩⟩
def Nq (f:Nat):List (List AV×AV):=bif Nat.beq f 93 then zv9 else ([])
theorem qbw (f:Nat):gH Tryz.prog f (Nq f):=uI zp8 (λ_ h=>by cases h)
noncomputable abbrev zbv:Nat->List AV->T Blk->Option (AV×T Blk):=zgu Nq pN
theorem pC {B:Nat}:JOk Tryz.prog B zbv:=zev qbw kK
set_option maxRecDepth 100000 in
theorem r23 {B:Nat}:Pure Tryz.prog B 23 [sysM] (· = basM) :=
  jC (S:=noS) (J:=zbv) (fuel:=1000) (n:=60) zN mixed (λ_=>pC) (by kernel_rfl) (by kernel_rfl)
end Go.Ev
namespace Go.Ev
open Go Go.Proofs
set_option maxRecDepth 100000 in
theorem r24 {B:Nat}:Pure Tryz.prog B 24 [sysM,shuV] (· = corM) :=
  jC (S:=noS) (J:=zbv) (fuel:=1000) (n:=60) zN mixed (λ_=>pC) (by kernel_rfl) (by kernel_rfl)
set_option maxRecDepth 100000 in
theorem r33M {B:Nat}:Pure Tryz.prog B 33 [sysM] (· = .tup [I 15,I 0]) :=
  jC (S:=noS) (J:=zbv) (fuel:=1000) (n:=60) zN mixed (λ_=>pC) (by kernel_rfl) (by kernel_rfl)
set_option maxRecDepth 100000 in
theorem r33T {B:Nat}:Pure Tryz.prog B 33 [sysT] (· = .tup [I 26,I 0]) :=
  jC (S:=noS) (J:=zbv) (fuel:=1000) (n:=60) zN mixed (λ_=>pC) (by kernel_rfl) (by kernel_rfl)
end Go.Ev
namespace Go.Ev
open Go Go.Proofs
set_option maxRecDepth 100000 in
theorem r31E {B:Nat}:Pure Tryz.prog B 31 [sysE] (· = depE) :=
  jC (S:=noS) (J:=pN) (fuel:=1000) (n:=60) zN mixed (λ_=>kK) (by kernel_rfl) (by kernel_rfl)
end Go.Ev
namespace Go.Ev
open Go Go.Proofs
set_option maxRecDepth 100000 in
theorem r51 {B:Nat}:Pure Tryz.prog B 51 [.agg [I 3,I 3,shuV]] (· = kndM) :=
  jC (S:=noS) (J:=pN) (fuel:=1000) (n:=60) zN mixed (λ_=>kK) (by kernel_rfl) (by kernel_rfl)
end Go.Ev
namespace Go.Ev
open Go Go.Proofs
set_option maxRecDepth 100000 in
theorem r65M {B:Nat}:Pure Tryz.prog B 65 [.str [109,97,103,105,99],I 3] (· = .tup [sysM,I 0]) :=
  jC (S:=noS) (J:=pN) (fuel:=1000) (n:=60) zN mixed (λ_=>kK) (by kernel_rfl) (by kernel_rfl)
set_option maxRecDepth 100000 in
theorem r65E {B:Nat}:Pure Tryz.prog B 65 [.str [115,101,109,105,109,97,103,105,99],I 3] (· = .tup [sysE,I 0]) :=
  jC (S:=noS) (J:=pN) (fuel:=1000) (n:=60) zN mixed (λ_=>kK) (by kernel_rfl) (by kernel_rfl)
set_option maxRecDepth 100000 in
theorem r69 {B:Nat}:Pure Tryz.prog B 69 [I 6] (· = .tup [sysT,I 0]) :=
  jC (S:=noS) (J:=pN) (fuel:=1000) (n:=60) zN mixed (λ_=>kK) (by kernel_rfl) (by kernel_rfl)
set_option maxRecDepth 100000 in
theorem r85 {B:Nat}:Pure Tryz.prog B 85 [] (· = shuV) :=
  jC (S:=noS) (J:=pN) (fuel:=1000) (n:=60) zN mixed (λ_=>kK) (by kernel_rfl) (by kernel_rfl)
end Go.Ev
namespace Go.Ev
open Go Go.Proofs
def zwa:List (List AV×AV):=([sysM],basM)::[]
theorem zp9:gH Tryz.prog 23 zwa:=List.forall_mem_cons.2 ⟨λ_=>r23,λ_ h=>by cases h⟩
def zwb:List (List AV×AV):=([sysM,shuV],corM)::[]
theorem zqa:gH Tryz.prog 24 zwb:=List.forall_mem_cons.2 ⟨λ_=>r24,λ_ h=>by cases h⟩
def zwc:List (List AV×AV):=([sysE],depE)::[]
theorem zqb:gH Tryz.prog 31 zwc:=List.forall_mem_cons.2 ⟨λ_=>r31E,λ_ h=>by cases h⟩
def zwd:List (List AV×AV):=([sysM],.tup [I 15,I 0])::([sysT],.tup [I 26,I 0])::[]
theorem zqc:gH Tryz.prog 33 zwd:=List.forall_mem_cons.2 ⟨λ_=>r33M,List.forall_mem_cons.2 ⟨λ_=>r33T,λ_ h=>by cases h⟩⟩
def zwe:List (List AV×AV):=([.agg [I 3,I 3,shuV]],kndM)::[]
theorem zqd:gH Tryz.prog 51 zwe:=List.forall_mem_cons.2 ⟨λ_=>r51,λ_ h=>by cases h⟩
def zwf:List (List AV×AV):=([.str [109,97,103,105,99],I 3],.tup [sysM,I 0])::([.str [115,101,109,105,109,97,103,105,99],I 3],.tup [sysE,I 0])::[]
theorem zqe:gH Tryz.prog 65 zwf:=List.forall_mem_cons.2 ⟨λ_=>r65M,List.forall_mem_cons.2 ⟨λ_=>r65E,λ_ h=>by cases h⟩⟩
def zwg:List (List AV×AV):=([I 6],.tup [sysT,I 0])::[]
theorem zqf:gH Tryz.prog 69 zwg:=List.forall_mem_cons.2 ⟨λ_=>r69,λ_ h=>by cases h⟩
def zwh:List (List AV×AV):=([],shuV)::[]
theorem zqg:gH Tryz.prog 85 zwh:=List.forall_mem_cons.2 ⟨λ_=>r85,λ_ h=>by cases h⟩
def Nr (f:Nat):List (List AV×AV):=bif Nat.beq f 23 then zwa else (bif Nat.beq f 24 then zwb else (bif Nat.beq f 31 then zwc else (bif Nat.beq f 33 then zwd else (bif Nat.beq f 51 then zwe else (bif Nat.beq f 65 then zwf else (bif Nat.beq f 69 then zwg else (bif Nat.beq f 85 then zwh else ([]))))))))
theorem qbx (f:Nat):gH Tryz.prog f (Nr f):=uI zp9 (uI zqa (uI zqb (uI zqc (uI zqd (uI zqe (uI zqf (uI zqg (λ_ h=>by cases h))))))))
noncomputable abbrev zqh:Nat->List AV->T Blk->Option (AV×T Blk):=zgu Nr zg1
theorem zmi {B:Nat}:JOk Tryz.prog B zqh:=zev qbx zbu
set_option maxRecDepth 100000 in
theorem ztm {B:Nat}:Pure Tryz.prog B 17 [] (· = .bool true) :=
  jC (S:=noS) (J:=zqh) (fuel:=1000) (n:=60) zN mixed (λ_=>zmi) (by kernel_rfl) (by kernel_rfl)
end Go.Ev
