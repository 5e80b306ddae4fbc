import Derived.Test.YtfgpjkchdelphaaGreatDoorEvD
import Derived.Test.YtfgpjkchdelphaaGreatDoorWordsa
import Derived.Test.YtfgpjkchdelphaaGreatDoorIrT
import Derived.KernelRfl
set_option linter.unusedSimpArgs false
set_option linter.unusedVariables false
noncomputable section
namespace Go.Ev
open Go Go.Proofs
def noS (_:Nat):Bool:=false
def frV (n d:Int):AV:=.agg [I n,.zf,I d,.zf]
def frB (a b c d e f:Int):List AV×AV:=([frV a b,frV c d],frV e f)
def frU (a b e f:Int):List AV×AV:=([frV a b],frV e f)
def zyq (f:Nat) (l:List (List AV×AV)):Bool:=l.all fun e=>nns e.1&&wZ xZ f e.1 e.2
theorem wF {f:Nat} {l:List (List AV×AV)} (h:zyq f l=true):jX Tryz.prog f l:=fun e he B=>by
  have:=List.all_eq_true.1 h e he;rw [Bool.and_eq_true] at this;exact gR (fun _=>uY) this.1 this.2
def ztf:List (List AV×AV):=[frB (-2) 1 1 2 (-1) 1,frB (-2) 1 1 1 (-2) 1,frB (-3) 2 (-2) 3 1 1,frB (-1) 1 (-1) 1 1 1,frB (-1) 1 (-2) 3 2 3,frB (-1) 1 (-1) 2 1 2,frB (-1) 1 1 2 (-1) 2,frB (-1) 1 1 1 (-1) 1,frB (-1) 2 (-4) 3 2 3,frB (-1) 2 (-1) 3 1 6,frB (-1) 2 2 3 (-1) 3,frB (-1) 2 1 1 (-1) 2,frB 0 1 (-2) 1 0 1,frB 0 1 (-1) 1 0 1,frB 0 1 (-1) 2 0 1,frB 0 1 1 2 0 1,frB 0 1 1 1 0 1,frB 0 1 2 1 0 1,frB 1 2 (-4) 3 (-2) 3,frB 1 2 (-2) 3 (-1) 3,frB 1 2 (-1) 3 (-1) 6,frB 1 2 2 3 1 3,frB 1 2 1 1 1 2,frB 1 1 (-2) 1 (-2) 1,frB 1 1 (-4) 3 (-4) 3,frB 1 1 (-1) 1 (-1) 1,frB 1 1 (-1) 2 (-1) 2,frB 1 1 (-1) 3 (-1) 3,frB 1 1 1 2 1 2,frB 1 1 2 3 2 3,frB 1 1 1 1 1 1,frB 1 1 2 1 2 1,frB 2 1 (-2) 3 (-4) 3,frB 2 1 1 2 1 1,frB 2 1 1 1 2 1,frB 3 1 0 1 0 1,frB 3 1 1 1 3 1]
theorem zn4:jX Tryz.prog 119 ztf:=wF (by kernel_rfl)
def ztg:List (List AV×AV):=[frB (-2) 1 (-1) 1 (-1) 1,frB (-2) 1 0 1 (-2) 1,frB (-1) 1 (-2) 1 1 1,frB (-1) 1 (-4) 3 1 3,frB (-1) 1 (-1) 1 0 1,frB (-1) 1 (-2) 3 (-1) 3,frB (-1) 1 (-1) 2 (-1) 2,frB (-1) 1 (-1) 3 (-2) 3,frB (-1) 1 0 1 (-1) 1,frB (-1) 1 1 3 (-4) 3,frB (-1) 1 1 2 (-3) 2,frB (-1) 1 1 1 (-2) 1,frB (-1) 2 (-1) 2 0 1,frB (-1) 2 (-1) 6 (-1) 3,frB (-1) 2 1 6 (-2) 3,frB 0 1 (-2) 1 2 1,frB 0 1 (-1) 1 1 1,frB 0 1 (-2) 3 2 3,frB 0 1 (-1) 2 1 2,frB 0 1 (-1) 3 1 3,frB 0 1 0 1 0 1,frB 0 1 1 3 (-1) 3,frB 0 1 1 2 (-1) 2,frB 0 1 2 3 (-2) 3,frB 0 1 1 1 (-1) 1,frB 0 1 2 1 (-2) 1,frB 1 2 1 6 1 3,frB 1 2 1 2 0 1,frB 1 1 (-1) 1 2 1,frB 1 1 0 1 1 1,frB 1 1 1 2 1 2,frB 1 1 1 1 0 1,frB 2 1 0 1 2 1,frB 2 1 1 1 1 1]
theorem zn5:jX Tryz.prog 192 ztg:=wF (by kernel_rfl)
def zth:List (List AV×AV):=[frU (-3) 2 (-2) 3,frU (-1) 1 (-1) 1,frU 1 1 1 1,frU 2 1 1 2]
theorem zn6:jX Tryz.prog 112 zth:=wF (by kernel_rfl)
def zti:List (List AV×AV):=[frU (-4) 3 4 3,frU (-1) 1 1 1,frU (-2) 3 2 3,frU (-1) 3 1 3,frU 0 1 0 1,frU 1 3 (-1) 3,frU 2 3 (-2) 3,frU 1 1 (-1) 1]
theorem zn7:jX Tryz.prog 107 zti:=wF (by kernel_rfl)
def ztj:List (List AV×AV):=[frB (-1) 1 1 1 0 1,frB 0 1 (-1) 1 (-1) 1,frB 0 1 0 1 0 1,frB 0 1 1 1 1 1,frB 1 3 1 3 2 3,frB 2 3 4 3 2 1,frB 1 1 (-1) 1 0 1,frB 1 1 (-2) 3 1 3,frB 1 1 0 1 1 1,frB 1 1 1 3 4 3,frB 1 1 1 1 2 1,frB 1 1 4 3 7 3,frB 4 3 1 3 5 3,frB 5 3 1 3 2 1,frB 5 3 2 3 7 3,frB 2 1 (-1) 1 1 1,frB 2 1 (-1) 3 5 3,frB 2 1 0 1 2 1,frB 2 1 2 3 8 3,frB 2 1 1 1 3 1,frB 7 3 1 3 8 3,frB 7 3 2 3 3 1,frB 8 3 (-2) 3 2 1,frB 8 3 (-1) 3 7 3,frB 8 3 2 3 10 3,frB 3 1 (-1) 1 2 1,frB 3 1 0 1 3 1,frB 10 3 (-1) 3 3 1]
theorem zn8:jX Tryz.prog 114 ztj:=wF (by kernel_rfl)
def ztk:List (List AV×AV):=[frB 3 1 1 1 3 1,frB 45 1 3 1 15 1,frB 78 1 3 1 26 1]
theorem zn9:jX Tryz.prog 115 ztk:=wF (by kernel_rfl)
def opT (f:Nat):List (List AV×AV):=bif Nat.beq f 119 then ztf else (bif Nat.beq f 192 then ztg else (bif Nat.beq f 112 then zth else (bif Nat.beq f 107 then zti else (bif Nat.beq f 114 then ztj else (bif Nat.beq f 115 then ztk else ([]))))))
theorem gF {P:Program} {k f:Nat} {l m:List (List AV×AV)} (h1:jX P k l) (h2:jX P f m):jX P f (bif Nat.beq f k then l else m):=by
  cases h:Nat.beq f k with
  | true=>have e:=yD h;subst e;exact h1
  | false=>exact h2
theorem zvr (f:Nat):jX Tryz.prog f (opT f):=gF zn4 (gF zn5 (gF zn6 (gF zn7 (gF zn8 (gF zn9 (fun _ h=>by cases h))))))
noncomputable abbrev dC:Nat->List AV->T Blk->Option (AV×T Blk):=zfx opT xZ
theorem uX {B:Nat}:JOk Tryz.prog B dC:=zea zvr uY
end Go.Ev
namespace Go.Ev
open Go Go.Proofs
abbrev sysM:AV:=.agg [I 9,encT [[0,1,2],[3,4,5],[6,7,8],[0,3,6],[1,4,7],[2,5,8],[0,4,8],[2,4,6]]]
abbrev sysE:AV:=.agg [I 9,encT [[0,1,2],[3,4,5],[6,7,8],[0,3,6],[1,4,7],[2,5,8]]]
abbrev sysT:AV:=.agg [I 12,encT [[0,2,6,7],[1,3,7,8],[2,4,8,9],[3,5,9,10],[0,4,10,11],[1,5,6,11]]]
abbrev shuV:AV:=encI [2,7,6,9,5,1,4,3,8]
abbrev spcM:AV:=.agg [encI [0,1,2],.lst 1 3 [.lst 4 9 [I 1,.zf,I 1,.zf,I 0,.zf,I 1,.zf,I 0,.zf,I 1,.zf,I (-2),.zf,I 3,.zf,I 1,.zf,I 3,.zf,I 4,.zf,I 3,.zf,I 2,.zf,I 3,.zf,I 2,.zf,I 3,.zf,I (-1),.zf,I 3,.zf],.lst 4 9 [I 0,.zf,I 1,.zf,I 1,.zf,I 1,.zf,I 0,.zf,I 1,.zf,I 1,.zf,I 3,.zf,I 1,.zf,I 3,.zf,I 1,.zf,I 3,.zf,I 2,.zf,I 3,.zf,I (-1),.zf,I 3,.zf,I 2,.zf,I 3,.zf],.lst 4 9 [I 0,.zf,I 1,.zf,I 0,.zf,I 1,.zf,I 1,.zf,I 1,.zf,I 4,.zf,I 3,.zf,I 1,.zf,I 3,.zf,I (-2),.zf,I 3,.zf,I (-1),.zf,I 3,.zf,I 2,.zf,I 3,.zf,I 2,.zf,I 3,.zf]]]
abbrev spcT:AV:=.agg [encI [0,1,2,3,4,6,7],.lst 1 7 [.lst 4 12 [I 1,.zf,I 1,.zf,I 0,.zf,I 1,.zf,I 0,.zf,I 1,.zf,I 0,.zf,I 1,.zf,I 0,.zf,I 1,.zf,I 1,.zf,I 1,.zf,I 0,.zf,I 1,.zf,I 0,.zf,I 1,.zf,I 1,.zf,I 1,.zf,I 0,.zf,I 1,.zf,I 0,.zf,I 1,.zf,I 0,.zf,I 1,.zf],.lst 4 12 [I 0,.zf,I 1,.zf,I 1,.zf,I 1,.zf,I 0,.zf,I 1,.zf,I 0,.zf,I 1,.zf,I 0,.zf,I 1,.zf,I (-1),.zf,I 1,.zf,I 0,.zf,I 1,.zf,I 0,.zf,I 1,.zf,I (-1),.zf,I 1,.zf,I 1,.zf,I 1,.zf,I 0,.zf,I 1,.zf,I 0,.zf,I 1,.zf],.lst 4 12 [I 0,.zf,I 1,.zf,I 0,.zf,I 1,.zf,I 1,.zf,I 1,.zf,I 0,.zf,I 1,.zf,I 0,.zf,I 1,.zf,I 1,.zf,I 1,.zf,I 0,.zf,I 1,.zf,I 0,.zf,I 1,.zf,I 1,.zf,I 1,.zf,I (-1),.zf,I 1,.zf,I 1,.zf,I 1,.zf,I 0,.zf,I 1,.zf],.lst 4 12 [I 0,.zf,I 1,.zf,I 0,.zf,I 1,.zf,I 0,.zf,I 1,.zf,I 1,.zf,I 1,.zf,I 0,.zf,I 1,.zf,I (-1),.zf,I 1,.zf,I 0,.zf,I 1,.zf,I 0,.zf,I 1,.zf,I (-1),.zf,I 1,.zf,I 1,.zf,I 1,.zf,I (-1),.zf,I 1,.zf,I 1,.zf,I 1,.zf],.lst 4 12 [I 0,.zf,I 1,.zf,I 0,.zf,I 1,.zf,I 0,.zf,I 1,.zf,I 0,.zf,I 1,.zf,I 1,.zf,I 1,.zf,I 1,.zf,I 1,.zf,I 0,.zf,I 1,.zf,I 0,.zf,I 1,.zf,I 0,.zf,I 1,.zf,I (-1),.zf,I 1,.zf,I 0,.zf,I 1,.zf,I (-1),.zf,I 1,.zf],.lst 4 12 [I 0,.zf,I 1,.zf,I 0,.zf,I 1,.zf,I 0,.zf,I 1,.zf,I 0,.zf,I 1,.zf,I 0,.zf,I 1,.zf,I 0,.zf,I 1,.zf,I 1,.zf,I 1,.zf,I 0,.zf,I 1,.zf,I 1,.zf,I 1,.zf,I 0,.zf,I 1,.zf,I 1,.zf,I 1,.zf,I 0,.zf,I 1,.zf],.lst 4 12 [I 0,.zf,I 1,.zf,I 0,.zf,I 1,.zf,I 0,.zf,I 1,.zf,I 0,.zf,I 1,.zf,I 0,.zf,I 1,.zf,I 0,.zf,I 1,.zf,I 0,.zf,I 1,.zf,I 1,.zf,I 1,.zf,I 0,.zf,I 1,.zf,I 1,.zf,I 1,.zf,I 0,.zf,I 1,.zf,I 1,.zf,I 1,.zf]]]
abbrev depE:AV:=.tup [.lst 2 1 [I 5,.lst 1 5 [.str [49],.str [49],.str [49],.str [45,49],.str [45,49]]],I 0]
abbrev kndM:AV:=.tup [.lst 1 4 [.str [110,111,114,109,97,108],.str [115,101,109,105,109,97,103,105,99],.str [109,97,103,105,99],.str [97,115,115,111,99,105,97,116,105,118,101]],I 0]
abbrev basM:AV:=.tup [.lst 1 3 [.lst 1 9 [.str [49],.str [48],.str [48],.str [45,50,47,51],.str [49,47,51],.str [52,47,51],.str [50,47,51],.str [50,47,51],.str [45,49,47,51]],.lst 1 9 [.str [48],.str [49],.str [48],.str [49,47,51],.str [49,47,51],.str [49,47,51],.str [50,47,51],.str [45,49,47,51],.str [50,47,51]],.lst 1 9 [.str [48],.str [48],.str [49],.str [52,47,51],.str [49,47,51],.str [45,50,47,51],.str [45,49,47,51],.str [50,47,51],.str [50,47,51]]],I 0]
abbrev corM:AV:=.tup [.lst 1 3 [.str [50],.str [55],.str [54]],I 0]
set_option maxRecDepth 100000 in
theorem r93M {B:Nat}:Pure Tryz.prog B 93 [sysM] (· = spcM) :=
  yW (S:=noS) (J:=dC) (fuel:=1000) (n:=60) zP mixed (fun _=>uX) (by kernel_rfl) (by kernel_rfl)
end Go.Ev
namespace Go.Ev
open Go Go.Proofs
set_option maxRecDepth 100000 in
theorem r93T {B:Nat}:Pure Tryz.prog B 93 [sysT] (· = spcT) :=
  yW (S:=noS) (J:=dC) (fuel:=1000) (n:=60) zP mixed (fun _=>uX) (by kernel_rfl) (by kernel_rfl)
end Go.Ev
namespace Go.Ev
open Go Go.Proofs
def ztl:List (List AV×AV):=([sysM],spcM)::([sysT],spcT)::[]
theorem zoa:jX Tryz.prog 93 ztl:=List.forall_mem_cons.2 ⟨fun _=>r93M,List.forall_mem_cons.2 ⟨fun _=>r93T,fun _ h=>by cases h⟩⟩
def Nq (f:Nat):List (List AV×AV):=bif Nat.beq f 93 then ztl else ([])
theorem zyr (f:Nat):jX Tryz.prog f (Nq f):=gF zoa (fun _ h=>by cases h)
noncomputable abbrev zb7:Nat->List AV->T Blk->Option (AV×T Blk):=zfx Nq dC
theorem vS {B:Nat}:JOk Tryz.prog B zb7:=zea zyr uX
set_option maxRecDepth 100000 in
theorem r23 {B:Nat}:Pure Tryz.prog B 23 [sysM] (· = basM) :=
  yW (S:=noS) (J:=zb7) (fuel:=1000) (n:=60) zP mixed (fun _=>vS) (by kernel_rfl) (by kernel_rfl)
end Go.Ev
namespace Go.Ev
open Go Go.Proofs
set_option maxRecDepth 100000 in
theorem r24 {B:Nat}:Pure Tryz.prog B 24 [sysM,shuV] (· = corM) :=
  yW (S:=noS) (J:=zb7) (fuel:=1000) (n:=60) zP mixed (fun _=>vS) (by kernel_rfl) (by kernel_rfl)
set_option maxRecDepth 100000 in
theorem r33M {B:Nat}:Pure Tryz.prog B 33 [sysM] (· = .tup [I 15,I 0]) :=
  yW (S:=noS) (J:=zb7) (fuel:=1000) (n:=60) zP mixed (fun _=>vS) (by kernel_rfl) (by kernel_rfl)
set_option maxRecDepth 100000 in
theorem r33T {B:Nat}:Pure Tryz.prog B 33 [sysT] (· = .tup [I 26,I 0]) :=
  yW (S:=noS) (J:=zb7) (fuel:=1000) (n:=60) zP mixed (fun _=>vS) (by kernel_rfl) (by kernel_rfl)
end Go.Ev
namespace Go.Ev
open Go Go.Proofs
set_option maxRecDepth 100000 in
theorem r31E {B:Nat}:Pure Tryz.prog B 31 [sysE] (· = depE) :=
  yW (S:=noS) (J:=dC) (fuel:=1000) (n:=60) zP mixed (fun _=>uX) (by kernel_rfl) (by kernel_rfl)
end Go.Ev
namespace Go.Ev
open Go Go.Proofs
set_option maxRecDepth 100000 in
theorem r51 {B:Nat}:Pure Tryz.prog B 51 [.agg [I 3,I 3,shuV]] (· = kndM) :=
  yW (S:=noS) (J:=dC) (fuel:=1000) (n:=60) zP mixed (fun _=>uX) (by kernel_rfl) (by kernel_rfl)
end Go.Ev
namespace Go.Ev
open Go Go.Proofs
set_option maxRecDepth 100000 in
theorem r65M {B:Nat}:Pure Tryz.prog B 65 [.str [109,97,103,105,99],I 3] (· = .tup [sysM,I 0]) :=
  yW (S:=noS) (J:=dC) (fuel:=1000) (n:=60) zP mixed (fun _=>uX) (by kernel_rfl) (by kernel_rfl)
set_option maxRecDepth 100000 in
theorem r65E {B:Nat}:Pure Tryz.prog B 65 [.str [115,101,109,105,109,97,103,105,99],I 3] (· = .tup [sysE,I 0]) :=
  yW (S:=noS) (J:=dC) (fuel:=1000) (n:=60) zP mixed (fun _=>uX) (by kernel_rfl) (by kernel_rfl)
set_option maxRecDepth 100000 in
theorem r69 {B:Nat}:Pure Tryz.prog B 69 [I 6] (· = .tup [sysT,I 0]) :=
  yW (S:=noS) (J:=dC) (fuel:=1000) (n:=60) zP mixed (fun _=>uX) (by kernel_rfl) (by kernel_rfl)
set_option maxRecDepth 100000 in
theorem r85 {B:Nat}:Pure Tryz.prog B 85 [] (· = shuV) :=
  yW (S:=noS) (J:=dC) (fuel:=1000) (n:=60) zP mixed (fun _=>uX) (by kernel_rfl) (by kernel_rfl)
end Go.Ev
namespace Go.Ev
open Go Go.Proofs
def ztm:List (List AV×AV):=([sysM],basM)::[]
theorem zob:jX Tryz.prog 23 ztm:=List.forall_mem_cons.2 ⟨fun _=>r23,fun _ h=>by cases h⟩
def ztn:List (List AV×AV):=([sysM,shuV],corM)::[]
theorem zoc:jX Tryz.prog 24 ztn:=List.forall_mem_cons.2 ⟨fun _=>r24,fun _ h=>by cases h⟩
def zto:List (List AV×AV):=([sysE],depE)::[]
theorem zod:jX Tryz.prog 31 zto:=List.forall_mem_cons.2 ⟨fun _=>r31E,fun _ h=>by cases h⟩
def ztp:List (List AV×AV):=([sysM],.tup [I 15,I 0])::([sysT],.tup [I 26,I 0])::[]
theorem zoe:jX Tryz.prog 33 ztp:=List.forall_mem_cons.2 ⟨fun _=>r33M,List.forall_mem_cons.2 ⟨fun _=>r33T,fun _ h=>by cases h⟩⟩
def ztq:List (List AV×AV):=([.agg [I 3,I 3,shuV]],kndM)::[]
theorem zof:jX Tryz.prog 51 ztq:=List.forall_mem_cons.2 ⟨fun _=>r51,fun _ h=>by cases h⟩
def ztr:List (List AV×AV):=([.str [109,97,103,105,99],I 3],.tup [sysM,I 0])::([.str [115,101,109,105,109,97,103,105,99],I 3],.tup [sysE,I 0])::[]
theorem zog:jX Tryz.prog 65 ztr:=List.forall_mem_cons.2 ⟨fun _=>r65M,List.forall_mem_cons.2 ⟨fun _=>r65E,fun _ h=>by cases h⟩⟩
def zts:List (List AV×AV):=([I 6],.tup [sysT,I 0])::[]
theorem zoh:jX Tryz.prog 69 zts:=List.forall_mem_cons.2 ⟨fun _=>r69,fun _ h=>by cases h⟩
def ztt:List (List AV×AV):=([],shuV)::[]
theorem zoi:jX Tryz.prog 85 ztt:=List.forall_mem_cons.2 ⟨fun _=>r85,fun _ h=>by cases h⟩
def Nr (f:Nat):List (List AV×AV):=bif Nat.beq f 23 then ztm else (bif Nat.beq f 24 then ztn else (bif Nat.beq f 31 then zto else (bif Nat.beq f 33 then ztp else (bif Nat.beq f 51 then ztq else (bif Nat.beq f 65 then ztr else (bif Nat.beq f 69 then zts else (bif Nat.beq f 85 then ztt else ([]))))))))
theorem zys (f:Nat):jX Tryz.prog f (Nr f):=gF zob (gF zoc (gF zod (gF zoe (gF zof (gF zog (gF zoh (gF zoi (fun _ h=>by cases h))))))))
noncomputable abbrev zoj:Nat->List AV->T Blk->Option (AV×T Blk):=zfx Nr xZ
theorem zkr {B:Nat}:JOk Tryz.prog B zoj:=zea zys uY
set_option maxRecDepth 100000 in
theorem zq6 {B:Nat}:Pure Tryz.prog B 17 [] (· = .bool true) :=
  yW (S:=noS) (J:=zoj) (fuel:=1000) (n:=60) zP mixed (fun _=>zkr) (by kernel_rfl) (by kernel_rfl)
end Go.Ev
