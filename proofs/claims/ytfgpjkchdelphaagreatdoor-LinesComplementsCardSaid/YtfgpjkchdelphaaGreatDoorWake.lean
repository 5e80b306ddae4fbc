import Derived.Test.YtfgpjkchdelphaaGreatDoorEvD
import Derived.Test.YtfgpjkchdelphaaGreatDoorWordsa
import Derived.Test.YtfgpjkchdelphaaGreatDoorIrT
import Derived.KernelRfl
set_option linter.unusedSimpArgs false
set_option linter.unusedVariables false
noncomputable section
namespace Go.Ev
open Go Go.Proofs
def noS (_:Nat):Bool:=false
def frV (n d:Int):AV:=.agg [I n,.zf,I d,.zf]
def frB (a b c d e f:Int):List AV×AV:=([frV a b,frV c d],frV e f)
def frU (a b e f:Int):List AV×AV:=([frV a b],frV e f)
def qbs (f:Nat) (l:List (List AV×AV)):Bool:=l.all fun e=>nns e.1&&zi6 zhe f e.1 e.2
theorem wZ {f:Nat} {l:List (List AV×AV)} (h:qbs f l=true):j9 Tryz.prog f l:=fun e he B=>by
  have:=List.all_eq_true.1 h e he;rw [Bool.and_eq_true] at this;exact zhf (fun _=>zcp) this.1 this.2
def zv8:List (List AV×AV):=[frB (-2) 1 1 2 (-1) 1,frB (-2) 1 1 1 (-2) 1,frB (-3) 2 (-2) 3 1 1,frB (-1) 1 (-1) 1 1 1,frB (-1) 1 (-2) 3 2 3,frB (-1) 1 (-1) 2 1 2,frB (-1) 1 1 2 (-1) 2,frB (-1) 1 1 1 (-1) 1,frB (-1) 2 (-4) 3 2 3,frB (-1) 2 (-1) 3 1 6,frB (-1) 2 2 3 (-1) 3,frB (-1) 2 1 1 (-1) 2,frB 0 1 (-2) 1 0 1,frB 0 1 (-1) 1 0 1,frB 0 1 (-1) 2 0 1,frB 0 1 1 2 0 1,frB 0 1 1 1 0 1,frB 0 1 2 1 0 1,frB 1 2 (-4) 3 (-2) 3,frB 1 2 (-2) 3 (-1) 3,frB 1 2 (-1) 3 (-1) 6,frB 1 2 2 3 1 3,frB 1 2 1 1 1 2,frB 1 1 (-2) 1 (-2) 1,frB 1 1 (-4) 3 (-4) 3,frB 1 1 (-1) 1 (-1) 1,frB 1 1 (-1) 2 (-1) 2,frB 1 1 (-1) 3 (-1) 3,frB 1 1 1 2 1 2,frB 1 1 2 3 2 3,frB 1 1 1 1 1 1,frB 1 1 2 1 2 1,frB 2 1 (-2) 3 (-4) 3,frB 2 1 1 2 1 1,frB 2 1 1 1 2 1,frB 3 1 0 1 0 1,frB 3 1 1 1 3 1]
theorem zqh:j9 Tryz.prog 119 zv8:=wZ (by kernel_rfl)
def zv9:List (List AV×AV):=[frB (-2) 1 (-1) 1 (-1) 1,frB (-2) 1 0 1 (-2) 1,frB (-1) 1 (-2) 1 1 1,frB (-1) 1 (-4) 3 1 3,frB (-1) 1 (-1) 1 0 1,frB (-1) 1 (-2) 3 (-1) 3,frB (-1) 1 (-1) 2 (-1) 2,frB (-1) 1 (-1) 3 (-2) 3,frB (-1) 1 0 1 (-1) 1,frB (-1) 1 1 3 (-4) 3,frB (-1) 1 1 2 (-3) 2,frB (-1) 1 1 1 (-2) 1,frB (-1) 2 (-1) 2 0 1,frB (-1) 2 (-1) 6 (-1) 3,frB (-1) 2 1 6 (-2) 3,frB 0 1 (-2) 1 2 1,frB 0 1 (-1) 1 1 1,frB 0 1 (-2) 3 2 3,frB 0 1 (-1) 2 1 2,frB 0 1 (-1) 3 1 3,frB 0 1 0 1 0 1,frB 0 1 1 3 (-1) 3,frB 0 1 1 2 (-1) 2,frB 0 1 2 3 (-2) 3,frB 0 1 1 1 (-1) 1,frB 0 1 2 1 (-2) 1,frB 1 2 1 6 1 3,frB 1 2 1 2 0 1,frB 1 1 (-1) 1 2 1,frB 1 1 0 1 1 1,frB 1 1 1 2 1 2,frB 1 1 1 1 0 1,frB 2 1 0 1 2 1,frB 2 1 1 1 1 1]
theorem zqi:j9 Tryz.prog 192 zv9:=wZ (by kernel_rfl)
def zwa:List (List AV×AV):=[frU (-3) 2 (-2) 3,frU (-1) 1 (-1) 1,frU 1 1 1 1,frU 2 1 1 2]
theorem zqj:j9 Tryz.prog 112 zwa:=wZ (by kernel_rfl)
def zwb:List (List AV×AV):=[frU (-4) 3 4 3,frU (-1) 1 1 1,frU (-2) 3 2 3,frU (-1) 3 1 3,frU 0 1 0 1,frU 1 3 (-1) 3,frU 2 3 (-2) 3,frU 1 1 (-1) 1]
theorem zqk:j9 Tryz.prog 107 zwb:=wZ (by kernel_rfl)
def zwc:List (List AV×AV):=[frB (-1) 1 1 1 0 1,frB 0 1 (-1) 1 (-1) 1,frB 0 1 0 1 0 1,frB 0 1 1 1 1 1,frB 1 3 1 3 2 3,frB 2 3 4 3 2 1,frB 1 1 (-1) 1 0 1,frB 1 1 (-2) 3 1 3,frB 1 1 0 1 1 1,frB 1 1 1 3 4 3,frB 1 1 1 1 2 1,frB 1 1 4 3 7 3,frB 4 3 1 3 5 3,frB 5 3 1 3 2 1,frB 5 3 2 3 7 3,frB 2 1 (-1) 1 1 1,frB 2 1 (-1) 3 5 3,frB 2 1 0 1 2 1,frB 2 1 2 3 8 3,frB 2 1 1 1 3 1,frB 7 3 1 3 8 3,frB 7 3 2 3 3 1,frB 8 3 (-2) 3 2 1,frB 8 3 (-1) 3 7 3,frB 8 3 2 3 10 3,frB 3 1 (-1) 1 2 1,frB 3 1 0 1 3 1,frB 10 3 (-1) 3 3 1]
theorem zql:j9 Tryz.prog 114 zwc:=wZ (by kernel_rfl)
def zwd:List (List AV×AV):=[frB 3 1 1 1 3 1,frB 45 1 3 1 15 1,frB 78 1 3 1 26 1]
theorem zqm:j9 Tryz.prog 115 zwd:=wZ (by kernel_rfl)
def opT (f:Nat):List (List AV×AV):=bif Nat.beq f 119 then zv8 else (bif Nat.beq f 192 then zv9 else (bif Nat.beq f 112 then zwa else (bif Nat.beq f 107 then zwb else (bif Nat.beq f 114 then zwc else (bif Nat.beq f 115 then zwd else ([]))))))
theorem gX {P:Program} {k f:Nat} {l m:List (List AV×AV)} (h1:j9 P k l) (h2:j9 P f m):j9 P f (bif Nat.beq f k then l else m):=by
  cases h:Nat.beq f k with
  | true=>have e:=yG h;subst e;exact h1
  | false=>exact h2
theorem zyp (f:Nat):j9 Tryz.prog f (opT f):=gX zqh (gX zqi (gX zqj (gX zqk (gX zql (gX zqm (fun _ h=>by cases h))))))
noncomputable abbrev dQ:Nat->List AV->T Blk->Option (AV×T Blk):=zg3 opT zhe
theorem kD {B:Nat}:JOk Tryz.prog B dQ:=ze9 zyp zcp
end Go.Ev
namespace Go.Ev
open Go Go.Proofs
abbrev sysM:AV:=.agg [I 9,qp [[0,1,2],[3,4,5],[6,7,8],[0,3,6],[1,4,7],[2,5,8],[0,4,8],[2,4,6]]]
abbrev sysE:AV:=.agg [I 9,qp [[0,1,2],[3,4,5],[6,7,8],[0,3,6],[1,4,7],[2,5,8]]]
abbrev sysT:AV:=.agg [I 12,qp [[0,2,6,7],[1,3,7,8],[2,4,8,9],[3,5,9,10],[0,4,10,11],[1,5,6,11]]]
abbrev shuV:AV:=encI [2,7,6,9,5,1,4,3,8]
abbrev spcM:AV:=.agg [encI [0,1,2],.lst 1 3 [.lst 4 9 [I 1,.zf,I 1,.zf,I 0,.zf,I 1,.zf,I 0,.zf,I 1,.zf,I (-2),.zf,I 3,.zf,I 1,.zf,I 3,.zf,I 4,.zf,I 3,.zf,I 2,.zf,I 3,.zf,I 2,.zf,I 3,.zf,I (-1),.zf,I 3,.zf],.lst 4 9 [I 0,.zf,I 1,.zf,I 1,.zf,I 1,.zf,I 0,.zf,I 1,.zf,I 1,.zf,I 3,.zf,I 1,.zf,I 3,.zf,I 1,.zf,I 3,.zf,I 2,.zf,I 3,.zf,I (-1),.zf,I 3,.zf,I 2,.zf,I 3,.zf],.lst 4 9 [I 0,.zf,I 1,.zf,I 0,.zf,I 1,.zf,I 1,.zf,I 1,.zf,I 4,.zf,I 3,.zf,I 1,.zf,I 3,.zf,I (-2),.zf,I 3,.zf,I (-1),.zf,I 3,.zf,I 2,.zf,I 3,.zf,I 2,.zf,I 3,.zf]]]
abbrev spcT:AV:=.agg [encI [0,1,2,3,4,6,7],.lst 1 7 [.lst 4 12 [I 1,.zf,I 1,.zf,I 0,.zf,I 1,.zf,I 0,.zf,I 1,.zf,I 0,.zf,I 1,.zf,I 0,.zf,I 1,.zf,I 1,.zf,I 1,.zf,I 0,.zf,I 1,.zf,I 0,.zf,I 1,.zf,I 1,.zf,I 1,.zf,I 0,.zf,I 1,.zf,I 0,.zf,I 1,.zf,I 0,.zf,I 1,.zf],.lst 4 12 [I 0,.zf,I 1,.zf,I 1,.zf,I 1,.zf,I 0,.zf,I 1,.zf,I 0,.zf,I 1,.zf,I 0,.zf,I 1,.zf,I (-1),.zf,I 1,.zf,I 0,.zf,I 1,.zf,I 0,.zf,I 1,.zf,I (-1),.zf,I 1,.zf,I 1,.zf,I 1,.zf,I 0,.zf,I 1,.zf,I 0,.zf,I 1,.zf],.lst 4 12 [I 0,.zf,I 1,.zf,I 0,.zf,I 1,.zf,I 1,.zf,I 1,.zf,I 0,.zf,I 1,.zf,I 0,.zf,I 1,.zf,I 1,.zf,I 1,.zf,I 0,.zf,I 1,.zf,I 0,.zf,I 1,.zf,I 1,.zf,I 1,.zf,I (-1),.zf,I 1,.zf,I 1,.zf,I 1,.zf,I 0,.zf,I 1,.zf],.lst 4 12 [I 0,.zf,I 1,.zf,I 0,.zf,I 1,.zf,I 0,.zf,I 1,.zf,I 1,.zf,I 1,.zf,I 0,.zf,I 1,.zf,I (-1),.zf,I 1,.zf,I 0,.zf,I 1,.zf,I 0,.zf,I 1,.zf,I (-1),.zf,I 1,.zf,I 1,.zf,I 1,.zf,I (-1),.zf,I 1,.zf,I 1,.zf,I 1,.zf],.lst 4 12 [I 0,.zf,I 1,.zf,I 0,.zf,I 1,.zf,I 0,.zf,I 1,.zf,I 0,.zf,I 1,.zf,I 1,.zf,I 1,.zf,I 1,.zf,I 1,.zf,I 0,.zf,I 1,.zf,I 0,.zf,I 1,.zf,I 0,.zf,I 1,.zf,I (-1),.zf,I 1,.zf,I 0,.zf,I 1,.zf,I (-1),.zf,I 1,.zf],.lst 4 12 [I 0,.zf,I 1,.zf,I 0,.zf,I 1,.zf,I 0,.zf,I 1,.zf,I 0,.zf,I 1,.zf,I 0,.zf,I 1,.zf,I 0,.zf,I 1,.zf,I 1,.zf,I 1,.zf,I 0,.zf,I 1,.zf,I 1,.zf,I 1,.zf,I 0,.zf,I 1,.zf,I 1,.zf,I 1,.zf,I 0,.zf,I 1,.zf],.lst 4 12 [I 0,.zf,I 1,.zf,I 0,.zf,I 1,.zf,I 0,.zf,I 1,.zf,I 0,.zf,I 1,.zf,I 0,.zf,I 1,.zf,I 0,.zf,I 1,.zf,I 0,.zf,I 1,.zf,I 1,.zf,I 1,.zf,I 0,.zf,I 1,.zf,I 1,.zf,I 1,.zf,I 0,.zf,I 1,.zf,I 1,.zf,I 1,.zf]]]
abbrev depE:AV:=.tup [.lst 2 1 [I 5,.lst 1 5 [.str [49],.str [49],.str [49],.str [45,49],.str [45,49]]],I 0]
abbrev kndM:AV:=.tup [.lst 1 4 [.str [110,111,114,109,97,108],.str [115,101,109,105,109,97,103,105,99],.str [109,97,103,105,99],.str [97,115,115,111,99,105,97,116,105,118,101]],I 0]
abbrev basM:AV:=.tup [.lst 1 3 [.lst 1 9 [.str [49],.str [48],.str [48],.str [45,50,47,51],.str [49,47,51],.str [52,47,51],.str [50,47,51],.str [50,47,51],.str [45,49,47,51]],.lst 1 9 [.str [48],.str [49],.str [48],.str [49,47,51],.str [49,47,51],.str [49,47,51],.str [50,47,51],.str [45,49,47,51],.str [50,47,51]],.lst 1 9 [.str [48],.str [48],.str [49],.str [52,47,51],.str [49,47,51],.str [45,50,47,51],.str [45,49,47,51],.str [50,47,51],.str [50,47,51]]],I 0]
abbrev corM:AV:=.tup [.lst 1 3 [.str [50],.str [55],.str [54]],I 0]
set_option maxRecDepth 100000 in
theorem r93M {B:Nat}:Pure Tryz.prog B 93 [sysM] (· = spcM) :=
  jG (S:=noS) (J:=dQ) (fuel:=1000) (n:=60) zS mixed (fun _=>kD) (by kernel_rfl) (by kernel_rfl)
end Go.Ev
namespace Go.Ev
open Go Go.Proofs
set_option maxRecDepth 100000 in
theorem r93T {B:Nat}:Pure Tryz.prog B 93 [sysT] (· = spcT) :=
  jG (S:=noS) (J:=dQ) (fuel:=1000) (n:=60) zS mixed (fun _=>kD) (by kernel_rfl) (by kernel_rfl)
end Go.Ev
namespace Go.Ev
open Go Go.Proofs
def zwe:List (List AV×AV):=([sysM],spcM)::([sysT],spcT)::[]
theorem zqn:j9 Tryz.prog 93 zwe:=List.forall_mem_cons.2 ⟨fun _=>r93M,List.forall_mem_cons.2 ⟨fun _=>r93T,fun _ h=>by cases h⟩⟩
def Nq (f:Nat):List (List AV×AV):=bif Nat.beq f 93 then zwe else ([])
theorem qbt (f:Nat):j9 Tryz.prog f (Nq f):=gX zqn (fun _ h=>by cases h)
noncomputable abbrev zcq:Nat->List AV->T Blk->Option (AV×T Blk):=zg3 Nq dQ
theorem dH {B:Nat}:JOk Tryz.prog B zcq:=ze9 qbt kD
set_option maxRecDepth 100000 in
theorem r23 {B:Nat}:Pure Tryz.prog B 23 [sysM] (· = basM) :=
  jG (S:=noS) (J:=zcq) (fuel:=1000) (n:=60) zS mixed (fun _=>dH) (by kernel_rfl) (by kernel_rfl)
end Go.Ev
namespace Go.Ev
open Go Go.Proofs
set_option maxRecDepth 100000 in
theorem r24 {B:Nat}:Pure Tryz.prog B 24 [sysM,shuV] (· = corM) :=
  jG (S:=noS) (J:=zcq) (fuel:=1000) (n:=60) zS mixed (fun _=>dH) (by kernel_rfl) (by kernel_rfl)
set_option maxRecDepth 100000 in
theorem r33M {B:Nat}:Pure Tryz.prog B 33 [sysM] (· = .tup [I 15,I 0]) :=
  jG (S:=noS) (J:=zcq) (fuel:=1000) (n:=60) zS mixed (fun _=>dH) (by kernel_rfl) (by kernel_rfl)
set_option maxRecDepth 100000 in
theorem r33T {B:Nat}:Pure Tryz.prog B 33 [sysT] (· = .tup [I 26,I 0]) :=
  jG (S:=noS) (J:=zcq) (fuel:=1000) (n:=60) zS mixed (fun _=>dH) (by kernel_rfl) (by kernel_rfl)
end Go.Ev
namespace Go.Ev
open Go Go.Proofs
set_option maxRecDepth 100000 in
theorem r31E {B:Nat}:Pure Tryz.prog B 31 [sysE] (· = depE) :=
  jG (S:=noS) (J:=dQ) (fuel:=1000) (n:=60) zS mixed (fun _=>kD) (by kernel_rfl) (by kernel_rfl)
end Go.Ev
namespace Go.Ev
open Go Go.Proofs
set_option maxRecDepth 100000 in
theorem r51 {B:Nat}:Pure Tryz.prog B 51 [.agg [I 3,I 3,shuV]] (· = kndM) :=
  jG (S:=noS) (J:=dQ) (fuel:=1000) (n:=60) zS mixed (fun _=>kD) (by kernel_rfl) (by kernel_rfl)
end Go.Ev
namespace Go.Ev
open Go Go.Proofs
set_option maxRecDepth 100000 in
theorem r65M {B:Nat}:Pure Tryz.prog B 65 [.str [109,97,103,105,99],I 3] (· = .tup [sysM,I 0]) :=
  jG (S:=noS) (J:=dQ) (fuel:=1000) (n:=60) zS mixed (fun _=>kD) (by kernel_rfl) (by kernel_rfl)
set_option maxRecDepth 100000 in
theorem r65E {B:Nat}:Pure Tryz.prog B 65 [.str [115,101,109,105,109,97,103,105,99],I 3] (· = .tup [sysE,I 0]) :=
  jG (S:=noS) (J:=dQ) (fuel:=1000) (n:=60) zS mixed (fun _=>kD) (by kernel_rfl) (by kernel_rfl)
set_option maxRecDepth 100000 in
theorem r69 {B:Nat}:Pure Tryz.prog B 69 [I 6] (· = .tup [sysT,I 0]) :=
  jG (S:=noS) (J:=dQ) (fuel:=1000) (n:=60) zS mixed (fun _=>kD) (by kernel_rfl) (by kernel_rfl)
set_option maxRecDepth 100000 in
theorem r85 {B:Nat}:Pure Tryz.prog B 85 [] (· = shuV) :=
  jG (S:=noS) (J:=dQ) (fuel:=1000) (n:=60) zS mixed (fun _=>kD) (by kernel_rfl) (by kernel_rfl)
end Go.Ev
namespace Go.Ev
open Go Go.Proofs
def zwf:List (List AV×AV):=([sysM],basM)::[]
theorem zqo:j9 Tryz.prog 23 zwf:=List.forall_mem_cons.2 ⟨fun _=>r23,fun _ h=>by cases h⟩
def zwg:List (List AV×AV):=([sysM,shuV],corM)::[]
theorem zqp:j9 Tryz.prog 24 zwg:=List.forall_mem_cons.2 ⟨fun _=>r24,fun _ h=>by cases h⟩
def zwh:List (List AV×AV):=([sysE],depE)::[]
theorem zqq:j9 Tryz.prog 31 zwh:=List.forall_mem_cons.2 ⟨fun _=>r31E,fun _ h=>by cases h⟩
def zwi:List (List AV×AV):=([sysM],.tup [I 15,I 0])::([sysT],.tup [I 26,I 0])::[]
theorem zqr:j9 Tryz.prog 33 zwi:=List.forall_mem_cons.2 ⟨fun _=>r33M,List.forall_mem_cons.2 ⟨fun _=>r33T,fun _ h=>by cases h⟩⟩
def zwj:List (List AV×AV):=([.agg [I 3,I 3,shuV]],kndM)::[]
theorem zqs:j9 Tryz.prog 51 zwj:=List.forall_mem_cons.2 ⟨fun _=>r51,fun _ h=>by cases h⟩
def zwk:List (List AV×AV):=([.str [109,97,103,105,99],I 3],.tup [sysM,I 0])::([.str [115,101,109,105,109,97,103,105,99],I 3],.tup [sysE,I 0])::[]
theorem zqu:j9 Tryz.prog 65 zwk:=List.forall_mem_cons.2 ⟨fun _=>r65M,List.forall_mem_cons.2 ⟨fun _=>r65E,fun _ h=>by cases h⟩⟩
def zwl:List (List AV×AV):=([I 6],.tup [sysT,I 0])::[]
theorem zqv:j9 Tryz.prog 69 zwl:=List.forall_mem_cons.2 ⟨fun _=>r69,fun _ h=>by cases h⟩
def zwm:List (List AV×AV):=([],shuV)::[]
theorem zqw:j9 Tryz.prog 85 zwm:=List.forall_mem_cons.2 ⟨fun _=>r85,fun _ h=>by cases h⟩
def Nr (f:Nat):List (List AV×AV):=bif Nat.beq f 23 then zwf else (bif Nat.beq f 24 then zwg else (bif Nat.beq f 31 then zwh else (bif Nat.beq f 33 then zwi else (bif Nat.beq f 51 then zwj else (bif Nat.beq f 65 then zwk else (bif Nat.beq f 69 then zwl else (bif Nat.beq f 85 then zwm else ([]))))))))
theorem qbu (f:Nat):j9 Tryz.prog f (Nr f):=gX zqo (gX zqp (gX zqq (gX zqr (gX zqs (gX zqu (gX zqv (gX zqw (fun _ h=>by cases h))))))))
noncomputable abbrev zqx:Nat->List AV->T Blk->Option (AV×T Blk):=zg3 Nr zhe
theorem zl6 {B:Nat}:JOk Tryz.prog B zqx:=ze9 qbu zcp
set_option maxRecDepth 100000 in
theorem ztv {B:Nat}:Pure Tryz.prog B 17 [] (· = .bool true) :=
  jG (S:=noS) (J:=zqx) (fuel:=1000) (n:=60) zS mixed (fun _=>zl6) (by kernel_rfl) (by kernel_rfl)
end Go.Ev
