import Derived.Test.YtfgpjkchdelphaaGreatDoorEvD
import Derived.Test.YtfgpjkchdelphaaGreatDoorWordsa
import Derived.Test.YtfgpjkchdelphaaGreatDoorIrT
import Derived.KernelRfl
set_option linter.unusedSimpArgs false
set_option linter.unusedVariables false
noncomputable section
namespace Go.Ev
open Go Go.Proofs
def noS (_:Nat):Bool:=false
def frV (n d:Int):AV:=.agg [I n,.zb,I d,.zb]
def frB (a b c d e f:Int):List AV×AV:=([frV a b,frV c d],frV e f)
def frU (a b e f:Int):List AV×AV:=([frV a b],frV e f)
def zzg (f:Nat) (l:List (List AV×AV)):Bool:=l.all λe=>nns e.1&&zhb zfa f e.1 e.2
theorem wS {f:Nat} {l:List (List AV×AV)} (h:zzg f l=true):gE Tryz.prog f l:=λe he B=>by
  have:=List.all_eq_true.1 h e he;rw [Bool.and_eq_true] at this;exact zfb (λ_=>zae) this.1 this.2
def ztl:List (List AV×AV):=[frB (-2) 1 1 2 (-1) 1,frB (-2) 1 1 1 (-2) 1,frB (-3) 2 (-2) 3 1 1,frB (-1) 1 (-1) 1 1 1,frB (-1) 1 (-2) 3 2 3,frB (-1) 1 (-1) 2 1 2,frB (-1) 1 1 2 (-1) 2,frB (-1) 1 1 1 (-1) 1,frB (-1) 2 (-4) 3 2 3,frB (-1) 2 (-1) 3 1 6,frB (-1) 2 2 3 (-1) 3,frB (-1) 2 1 1 (-1) 2,frB 0 1 (-2) 1 0 1,frB 0 1 (-1) 1 0 1,frB 0 1 (-1) 2 0 1,frB 0 1 1 2 0 1,frB 0 1 1 1 0 1,frB 0 1 2 1 0 1,frB 1 2 (-4) 3 (-2) 3,frB 1 2 (-2) 3 (-1) 3,frB 1 2 (-1) 3 (-1) 6,frB 1 2 2 3 1 3,frB 1 2 1 1 1 2,frB 1 1 (-2) 1 (-2) 1,frB 1 1 (-4) 3 (-4) 3,frB 1 1 (-1) 1 (-1) 1,frB 1 1 (-1) 2 (-1) 2,frB 1 1 (-1) 3 (-1) 3,frB 1 1 1 2 1 2,frB 1 1 2 3 2 3,frB 1 1 1 1 1 1,frB 1 1 2 1 2 1,frB 2 1 (-2) 3 (-4) 3,frB 2 1 1 2 1 1,frB 2 1 1 1 2 1,frB 3 1 0 1 0 1,frB 3 1 1 1 3 1]
theorem zof:gE Tryz.prog 119 ztl:=wS (by kernel_rfl)
def ztm:List (List AV×AV):=[frB (-2) 1 (-1) 1 (-1) 1,frB (-2) 1 0 1 (-2) 1,frB (-1) 1 (-2) 1 1 1,frB (-1) 1 (-4) 3 1 3,frB (-1) 1 (-1) 1 0 1,frB (-1) 1 (-2) 3 (-1) 3,frB (-1) 1 (-1) 2 (-1) 2,frB (-1) 1 (-1) 3 (-2) 3,frB (-1) 1 0 1 (-1) 1,frB (-1) 1 1 3 (-4) 3,frB (-1) 1 1 2 (-3) 2,frB (-1) 1 1 1 (-2) 1,frB (-1) 2 (-1) 2 0 1,frB (-1) 2 (-1) 6 (-1) 3,frB (-1) 2 1 6 (-2) 3,frB 0 1 (-2) 1 2 1,frB 0 1 (-1) 1 1 1,frB 0 1 (-2) 3 2 3,frB 0 1 (-1) 2 1 2,frB 0 1 (-1) 3 1 3,frB 0 1 0 1 0 1,frB 0 1 1 3 (-1) 3,frB 0 1 1 2 (-1) 2,frB 0 1 2 3 (-2) 3,frB 0 1 1 1 (-1) 1,frB 0 1 2 1 (-2) 1,frB 1 2 1 6 1 3,frB 1 2 1 2 0 1,frB 1 1 (-1) 1 2 1,frB 1 1 0 1 1 1,frB 1 1 1 2 1 2,frB 1 1 1 1 0 1,frB 2 1 0 1 2 1,frB 2 1 1 1 1 1]
theorem zog:gE Tryz.prog 192 ztm:=wS (by kernel_rfl)
def ztn:List (List AV×AV):=[frU (-3) 2 (-2) 3,frU (-1) 1 (-1) 1,frU 1 1 1 1,frU 2 1 1 2]
theorem zoh:gE Tryz.prog 112 ztn:=wS (by kernel_rfl)
def zto:List (List AV×AV):=[frU (-4) 3 4 3,frU (-1) 1 1 1,frU (-2) 3 2 3,frU (-1) 3 1 3,frU 0 1 0 1,frU 1 3 (-1) 3,frU 2 3 (-2) 3,frU 1 1 (-1) 1]
theorem zoi:gE Tryz.prog 107 zto:=wS (by kernel_rfl)
def ztp:List (List AV×AV):=[frB (-1) 1 1 1 0 1,frB 0 1 (-1) 1 (-1) 1,frB 0 1 0 1 0 1,frB 0 1 1 1 1 1,frB 1 3 1 3 2 3,frB 2 3 4 3 2 1,frB 1 1 (-1) 1 0 1,frB 1 1 (-2) 3 1 3,frB 1 1 0 1 1 1,frB 1 1 1 3 4 3,frB 1 1 1 1 2 1,frB 1 1 4 3 7 3,frB 4 3 1 3 5 3,frB 5 3 1 3 2 1,frB 5 3 2 3 7 3,frB 2 1 (-1) 1 1 1,frB 2 1 (-1) 3 5 3,frB 2 1 0 1 2 1,frB 2 1 2 3 8 3,frB 2 1 1 1 3 1,frB 7 3 1 3 8 3,frB 7 3 2 3 3 1,frB 8 3 (-2) 3 2 1,frB 8 3 (-1) 3 7 3,frB 8 3 2 3 10 3,frB 3 1 (-1) 1 2 1,frB 3 1 0 1 3 1,frB 10 3 (-1) 3 3 1]
theorem zoj:gE Tryz.prog 114 ztp:=wS (by kernel_rfl)
def ztq:List (List AV×AV):=[frB 3 1 1 1 3 1,frB 45 1 3 1 15 1,frB 78 1 3 1 26 1]
theorem zok:gE Tryz.prog 115 ztq:=wS (by kernel_rfl)
def opT (f:Nat):List (List AV×AV):=bif Nat.beq f 119 then ztl else (bif Nat.beq f 192 then ztm else (bif Nat.beq f 112 then ztn else (bif Nat.beq f 107 then zto else (bif Nat.beq f 114 then ztp else (bif Nat.beq f 115 then ztq else ([]))))))
theorem gY {P:Program} {k f:Nat} {l m:List (List AV×AV)} (h1:gE P k l) (h2:gE P f m):gE P f (bif Nat.beq f k then l else m):=by
  cases h:Nat.beq f k with
  | true=>have e:=yM h;subst e;exact h1
  | false=>exact h2
theorem zvz (f:Nat):gE Tryz.prog f (opT f):=gY zof (gY zog (gY zoh (gY zoi (gY zoj (gY zok (λ_ h=>by cases h))))))
noncomputable abbrev dP:Nat->List AV->T Blk->Option (AV×T Blk):=ze3 opT zfa
theorem kD {B:Nat}:JOk Tryz.prog B dP:=zc2 zvz zae
end Go.Ev
namespace Go.Ev
open Go Go.Proofs
abbrev sysM:AV:=.agg [I 9,wu [[0,1,2],[3,4,5],[6,7,8],[0,3,6],[1,4,7],[2,5,8],[0,4,8],[2,4,6]]]
abbrev sysE:AV:=.agg [I 9,wu [[0,1,2],[3,4,5],[6,7,8],[0,3,6],[1,4,7],[2,5,8]]]
abbrev sysT:AV:=.agg [I 12,wu [[0,2,6,7],[1,3,7,8],[2,4,8,9],[3,5,9,10],[0,4,10,11],[1,5,6,11]]]
abbrev shuV:AV:=encI [2,7,6,9,5,1,4,3,8]
abbrev spcM:AV:=.agg [encI [0,1,2],.lst 1 3 [.lst 4 9 [I 1,.zb,I 1,.zb,I 0,.zb,I 1,.zb,I 0,.zb,I 1,.zb,I (-2),.zb,I 3,.zb,I 1,.zb,I 3,.zb,I 4,.zb,I 3,.zb,I 2,.zb,I 3,.zb,I 2,.zb,I 3,.zb,I (-1),.zb,I 3,.zb],.lst 4 9 [I 0,.zb,I 1,.zb,I 1,.zb,I 1,.zb,I 0,.zb,I 1,.zb,I 1,.zb,I 3,.zb,I 1,.zb,I 3,.zb,I 1,.zb,I 3,.zb,I 2,.zb,I 3,.zb,I (-1),.zb,I 3,.zb,I 2,.zb,I 3,.zb],.lst 4 9 [I 0,.zb,I 1,.zb,I 0,.zb,I 1,.zb,I 1,.zb,I 1,.zb,I 4,.zb,I 3,.zb,I 1,.zb,I 3,.zb,I (-2),.zb,I 3,.zb,I (-1),.zb,I 3,.zb,I 2,.zb,I 3,.zb,I 2,.zb,I 3,.zb]]]
abbrev spcT:AV:=.agg [encI [0,1,2,3,4,6,7],.lst 1 7 [.lst 4 12 [I 1,.zb,I 1,.zb,I 0,.zb,I 1,.zb,I 0,.zb,I 1,.zb,I 0,.zb,I 1,.zb,I 0,.zb,I 1,.zb,I 1,.zb,I 1,.zb,I 0,.zb,I 1,.zb,I 0,.zb,I 1,.zb,I 1,.zb,I 1,.zb,I 0,.zb,I 1,.zb,I 0,.zb,I 1,.zb,I 0,.zb,I 1,.zb],.lst 4 12 [I 0,.zb,I 1,.zb,I 1,.zb,I 1,.zb,I 0,.zb,I 1,.zb,I 0,.zb,I 1,.zb,I 0,.zb,I 1,.zb,I (-1),.zb,I 1,.zb,I 0,.zb,I 1,.zb,I 0,.zb,I 1,.zb,I (-1),.zb,I 1,.zb,I 1,.zb,I 1,.zb,I 0,.zb,I 1,.zb,I 0,.zb,I 1,.zb],.lst 4 12 [I 0,.zb,I 1,.zb,I 0,.zb,I 1,.zb,I 1,.zb,I 1,.zb,I 0,.zb,I 1,.zb,I 0,.zb,I 1,.zb,I 1,.zb,I 1,.zb,I 0,.zb,I 1,.zb,I 0,.zb,I 1,.zb,I 1,.zb,I 1,.zb,I (-1),.zb,I 1,.zb,I 1,.zb,I 1,.zb,I 0,.zb,I 1,.zb],.lst 4 12 [I 0,.zb,I 1,.zb,I 0,.zb,I 1,.zb,I 0,.zb,I 1,.zb,I 1,.zb,I 1,.zb,I 0,.zb,I 1,.zb,I (-1),.zb,I 1,.zb,I 0,.zb,I 1,.zb,I 0,.zb,I 1,.zb,I (-1),.zb,I 1,.zb,I 1,.zb,I 1,.zb,I (-1),.zb,I 1,.zb,I 1,.zb,I 1,.zb],.lst 4 12 [I 0,.zb,I 1,.zb,I 0,.zb,I 1,.zb,I 0,.zb,I 1,.zb,I 0,.zb,I 1,.zb,I 1,.zb,I 1,.zb,I 1,.zb,I 1,.zb,I 0,.zb,I 1,.zb,I 0,.zb,I 1,.zb,I 0,.zb,I 1,.zb,I (-1),.zb,I 1,.zb,I 0,.zb,I 1,.zb,I (-1),.zb,I 1,.zb],.lst 4 12 [I 0,.zb,I 1,.zb,I 0,.zb,I 1,.zb,I 0,.zb,I 1,.zb,I 0,.zb,I 1,.zb,I 0,.zb,I 1,.zb,I 0,.zb,I 1,.zb,I 1,.zb,I 1,.zb,I 0,.zb,I 1,.zb,I 1,.zb,I 1,.zb,I 0,.zb,I 1,.zb,I 1,.zb,I 1,.zb,I 0,.zb,I 1,.zb],.lst 4 12 [I 0,.zb,I 1,.zb,I 0,.zb,I 1,.zb,I 0,.zb,I 1,.zb,I 0,.zb,I 1,.zb,I 0,.zb,I 1,.zb,I 0,.zb,I 1,.zb,I 0,.zb,I 1,.zb,I 1,.zb,I 1,.zb,I 0,.zb,I 1,.zb,I 1,.zb,I 1,.zb,I 0,.zb,I 1,.zb,I 1,.zb,I 1,.zb]]]
abbrev depE:AV:=.tup [.lst 2 1 [I 5,.lst 1 5 [.str [49],.str [49],.str [49],.str [45,49],.str [45,49]]],I 0]
abbrev kndM:AV:=.tup [.lst 1 4 [.str [110,111,114,109,97,108],.str [115,101,109,105,109,97,103,105,99],.str [109,97,103,105,99],.str [97,115,115,111,99,105,97,116,105,118,101]],I 0]
abbrev basM:AV:=.tup [.lst 1 3 [.lst 1 9 [.str [49],.str [48],.str [48],.str [45,50,47,51],.str [49,47,51],.str [52,47,51],.str [50,47,51],.str [50,47,51],.str [45,49,47,51]],.lst 1 9 [.str [48],.str [49],.str [48],.str [49,47,51],.str [49,47,51],.str [49,47,51],.str [50,47,51],.str [45,49,47,51],.str [50,47,51]],.lst 1 9 [.str [48],.str [48],.str [49],.str [52,47,51],.str [49,47,51],.str [45,50,47,51],.str [45,49,47,51],.str [50,47,51],.str [50,47,51]]],I 0]
abbrev corM:AV:=.tup [.lst 1 3 [.str [50],.str [55],.str [54]],I 0]
set_option maxRecDepth 100000 in
theorem r93M {B:Nat}:Pure Tryz.prog B 93 [sysM] (· = spcM) :=
  jA (S:=noS) (J:=dP) (fuel:=1000) (n:=60) zO mixed (λ_=>kD) (by kernel_rfl) (by kernel_rfl)
end Go.Ev
namespace Go.Ev
open Go Go.Proofs
set_option maxRecDepth 100000 in
theorem r93T {B:Nat}:Pure Tryz.prog B 93 [sysT] (· = spcT) :=
  jA (S:=noS) (J:=dP) (fuel:=1000) (n:=60) zO mixed (λ_=>kD) (by kernel_rfl) (by kernel_rfl)
end Go.Ev
namespace Go.Ev
open Go Go.Proofs
def ztr:List (List AV×AV):=([sysM],spcM)::([sysT],spcT)::[]
theorem zol:gE Tryz.prog 93 ztr:=List.forall_mem_cons.2 ⟨λ_=>r93M,List.forall_mem_cons.2 ⟨λ_=>r93T,λ_ h=>by cases h⟩⟩
def Nq (f:Nat):List (List AV×AV):=bif Nat.beq f 93 then ztr else ([])
theorem zzh (f:Nat):gE Tryz.prog f (Nq f):=gY zol (λ_ h=>by cases h)
noncomputable abbrev zaf:Nat->List AV->T Blk->Option (AV×T Blk):=ze3 Nq dP
theorem vY {B:Nat}:JOk Tryz.prog B zaf:=zc2 zzh kD
set_option maxRecDepth 100000 in
theorem r23 {B:Nat}:Pure Tryz.prog B 23 [sysM] (· = basM) :=
  jA (S:=noS) (J:=zaf) (fuel:=1000) (n:=60) zO mixed (λ_=>vY) (by kernel_rfl) (by kernel_rfl)
end Go.Ev
namespace Go.Ev
open Go Go.Proofs
set_option maxRecDepth 100000 in
theorem r24 {B:Nat}:Pure Tryz.prog B 24 [sysM,shuV] (· = corM) :=
  jA (S:=noS) (J:=zaf) (fuel:=1000) (n:=60) zO mixed (λ_=>vY) (by kernel_rfl) (by kernel_rfl)
set_option maxRecDepth 100000 in
theorem r33M {B:Nat}:Pure Tryz.prog B 33 [sysM] (· = .tup [I 15,I 0]) :=
  jA (S:=noS) (J:=zaf) (fuel:=1000) (n:=60) zO mixed (λ_=>vY) (by kernel_rfl) (by kernel_rfl)
set_option maxRecDepth 100000 in
theorem r33T {B:Nat}:Pure Tryz.prog B 33 [sysT] (· = .tup [I 26,I 0]) :=
  jA (S:=noS) (J:=zaf) (fuel:=1000) (n:=60) zO mixed (λ_=>vY) (by kernel_rfl) (by kernel_rfl)
end Go.Ev
namespace Go.Ev
open Go Go.Proofs
set_option maxRecDepth 100000 in
theorem r31E {B:Nat}:Pure Tryz.prog B 31 [sysE] (· = depE) :=
  jA (S:=noS) (J:=dP) (fuel:=1000) (n:=60) zO mixed (λ_=>kD) (by kernel_rfl) (by kernel_rfl)
end Go.Ev
namespace Go.Ev
open Go Go.Proofs
set_option maxRecDepth 100000 in
theorem r51 {B:Nat}:Pure Tryz.prog B 51 [.agg [I 3,I 3,shuV]] (· = kndM) :=
  jA (S:=noS) (J:=dP) (fuel:=1000) (n:=60) zO mixed (λ_=>kD) (by kernel_rfl) (by kernel_rfl)
end Go.Ev
namespace Go.Ev
open Go Go.Proofs
set_option maxRecDepth 100000 in
theorem r65M {B:Nat}:Pure Tryz.prog B 65 [.str [109,97,103,105,99],I 3] (· = .tup [sysM,I 0]) :=
  jA (S:=noS) (J:=dP) (fuel:=1000) (n:=60) zO mixed (λ_=>kD) (by kernel_rfl) (by kernel_rfl)
set_option maxRecDepth 100000 in
theorem r65E {B:Nat}:Pure Tryz.prog B 65 [.str [115,101,109,105,109,97,103,105,99],I 3] (· = .tup [sysE,I 0]) :=
  jA (S:=noS) (J:=dP) (fuel:=1000) (n:=60) zO mixed (λ_=>kD) (by kernel_rfl) (by kernel_rfl)
set_option maxRecDepth 100000 in
theorem r69 {B:Nat}:Pure Tryz.prog B 69 [I 6] (· = .tup [sysT,I 0]) :=
  jA (S:=noS) (J:=dP) (fuel:=1000) (n:=60) zO mixed (λ_=>kD) (by kernel_rfl) (by kernel_rfl)
set_option maxRecDepth 100000 in
theorem r85 {B:Nat}:Pure Tryz.prog B 85 [] (· = shuV) :=
  jA (S:=noS) (J:=dP) (fuel:=1000) (n:=60) zO mixed (λ_=>kD) (by kernel_rfl) (by kernel_rfl)
end Go.Ev
namespace Go.Ev
open Go Go.Proofs
def zts:List (List AV×AV):=([sysM],basM)::[]
theorem zom:gE Tryz.prog 23 zts:=List.forall_mem_cons.2 ⟨λ_=>r23,λ_ h=>by cases h⟩
def ztt:List (List AV×AV):=([sysM,shuV],corM)::[]
theorem zon:gE Tryz.prog 24 ztt:=List.forall_mem_cons.2 ⟨λ_=>r24,λ_ h=>by cases h⟩
def ztu:List (List AV×AV):=([sysE],depE)::[]
theorem zoo:gE Tryz.prog 31 ztu:=List.forall_mem_cons.2 ⟨λ_=>r31E,λ_ h=>by cases h⟩
def ztv:List (List AV×AV):=([sysM],.tup [I 15,I 0])::([sysT],.tup [I 26,I 0])::[]
theorem zop:gE Tryz.prog 33 ztv:=List.forall_mem_cons.2 ⟨λ_=>r33M,List.forall_mem_cons.2 ⟨λ_=>r33T,λ_ h=>by cases h⟩⟩
def ztw:List (List AV×AV):=([.agg [I 3,I 3,shuV]],kndM)::[]
theorem zoq:gE Tryz.prog 51 ztw:=List.forall_mem_cons.2 ⟨λ_=>r51,λ_ h=>by cases h⟩
def ztx:List (List AV×AV):=([.str [109,97,103,105,99],I 3],.tup [sysM,I 0])::([.str [115,101,109,105,109,97,103,105,99],I 3],.tup [sysE,I 0])::[]
theorem zor:gE Tryz.prog 65 ztx:=List.forall_mem_cons.2 ⟨λ_=>r65M,List.forall_mem_cons.2 ⟨λ_=>r65E,λ_ h=>by cases h⟩⟩
def zty:List (List AV×AV):=([I 6],.tup [sysT,I 0])::[]
theorem zos:gE Tryz.prog 69 zty:=List.forall_mem_cons.2 ⟨λ_=>r69,λ_ h=>by cases h⟩
def ztz:List (List AV×AV):=([],shuV)::[]
theorem zot:gE Tryz.prog 85 ztz:=List.forall_mem_cons.2 ⟨λ_=>r85,λ_ h=>by cases h⟩
def Nr (f:Nat):List (List AV×AV):=bif Nat.beq f 23 then zts else (bif Nat.beq f 24 then ztt else (bif Nat.beq f 31 then ztu else (bif Nat.beq f 33 then ztv else (bif Nat.beq f 51 then ztw else (bif Nat.beq f 65 then ztx else (bif Nat.beq f 69 then zty else (bif Nat.beq f 85 then ztz else ([]))))))))
theorem zzi (f:Nat):gE Tryz.prog f (Nr f):=gY zom (gY zon (gY zoo (gY zop (gY zoq (gY zor (gY zos (gY zot (λ_ h=>by cases h))))))))
noncomputable abbrev zou:Nat->List AV->T Blk->Option (AV×T Blk):=ze3 Nr zfa
theorem zkf {B:Nat}:JOk Tryz.prog B zou:=zc2 zzi zae
set_option maxRecDepth 100000 in
theorem zrj {B:Nat}:Pure Tryz.prog B 17 [] (· = .bool true) :=
  jA (S:=noS) (J:=zou) (fuel:=1000) (n:=60) zO mixed (λ_=>zkf) (by kernel_rfl) (by kernel_rfl)
end Go.Ev
