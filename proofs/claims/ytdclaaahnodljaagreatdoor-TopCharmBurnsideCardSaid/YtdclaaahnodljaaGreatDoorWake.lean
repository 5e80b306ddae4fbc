import Derived.Test.YtdclaaahnodljaaGreatDoorWordsa
import Derived.Test.YtdclaaahnodljaaGreatDoorWordsb
import Derived.Test.YtdclaaahnodljaaGreatDoorEvD
import Derived.KernelRfl
set_option linter.unusedSimpArgs false
set_option linter.unusedVariables false
noncomputable section
namespace Go.Ev
open Go Go.Proofs
set_option maxRecDepth 100000
def gPa:List Sym:=[([0,1,2,3],false),([0,1,3,2],false),([1,0,2,3],false),([1,0,3,2],false),([2,3,0,1],false),([2,3,1,0],false),([3,2,0,1],false),([3,2,1,0],false)]
theorem r84a {B:Nat}:Pure Tryz.prog B 84 [qo gPa,I 4] (· = I 0):=by
  have:=wA (B:=B) (G:=gPa) (n:=4) (by decide) (by decide);rw [show yL gPa 4=0 by decide +kernel] at this;exact this
theorem zpx {P:Program} {k:Nat} {l:List (List AV×AV)} {g:Nat->List (List AV×AV)} (h1:mG P k l) {f:Nat} (h2:mG P f (g f)):mG P f (bif Nat.beq f k then l else g f):=by
  cases q:Nat.beq f k with
  | false=>exact h2
  | true=>obtain rfl:=zW q;exact h1
def zri:List (List AV×AV):=([qo gPa,I 4],I 0)::[]
theorem znk:mG Tryz.prog 84 zri:=List.forall_mem_cons.2 ⟨fun _=>r84a,fun _ h=>by cases h⟩
def Na (f:Nat):List (List AV×AV):=bif Nat.beq f 84 then zri else []
theorem zvx (f:Nat):mG Tryz.prog f (Na f):=zpx (g:=fun _=>[]) znk (fun _ h=>by cases h)
noncomputable abbrev dM:Nat->List AV->T Blk->Option (AV×T Blk):=zmy Na znl
theorem kV {B:Nat}:JOk Tryz.prog B dM:=zpg zvx znm
def noS (_:Nat):Bool:=false
abbrev zcj:AV:=.agg [I 4,cZ [[0,1],[2,3]]]
def l8:List (List Int):=[[1,4,2,3],[1,4,3,2],[2,3,1,4],[2,3,4,1],[3,2,1,4],[3,2,4,1],[4,1,2,3],[4,1,3,2]]
theorem r37 {B:Nat}:Pure Tryz.prog B 37 [zcj] (· = .tup [qo gPa,I 0]) :=
  gX (S:=noS) (J:=dM) (fuel:=1000) (n:=60) zQ mixed (fun _=>kV) (by kernel_rfl) (by kernel_rfl)
theorem r13 {B:Nat}:Pure Tryz.prog B 13 [zcj,I 5] (· = .tup [cZ l8,I 0]) :=
  gX (S:=noS) (J:=dM) (fuel:=1000) (n:=60) zQ mixed (fun _=>kV) (by kernel_rfl) (by kernel_rfl)
theorem r39 {B:Nat}:Pure Tryz.prog B 39 [qo gPa,cZ l8] (· = .tup [.lst 2 1 [encI [1,4,2,3],I 8],I 0]) :=
  gX (S:=noS) (J:=dM) (fuel:=1000) (n:=60) zQ mixed (fun _=>kV) (by kernel_rfl) (by kernel_rfl)
theorem r23 {B:Nat}:Pure Tryz.prog B 23 [qo gPa,encI [3,2,4,1]] (· = .tup [encI [1,4,2,3],I 0]) :=
  gX (S:=noS) (J:=dM) (fuel:=1000) (n:=60) zQ mixed (fun _=>kV) (by kernel_rfl) (by kernel_rfl)
theorem r40 {B:Nat}:Pure Tryz.prog B 40 [zcj,encI [3,2,4,1]] (· = .tup [.bool true,I 0]) :=
  gX (S:=noS) (J:=dM) (fuel:=1000) (n:=60) zQ mixed (fun _=>kV) (by kernel_rfl) (by kernel_rfl)
theorem zff {k:Nat} {l:List (List AV×AV×MK)} {g:Nat->List (List AV×AV×MK)} (h1:∀ e∈l,oN Tryz.prog k e) {f:Nat} (h2:∀ e∈g f,oN Tryz.prog f e):∀ e∈(bif Nat.beq f k then l else g f),oN Tryz.prog f e:=by
  cases q:Nat.beq f k with
  | false=>exact h2
  | true=>obtain rfl:=zW q;exact h1
theorem mk_one {f:Nat} {e:List AV×AV×MK} (h:oN Tryz.prog f e):∀ x∈[e],oN Tryz.prog f x:=fun x hx=>by rw [List.mem_singleton.1 hx];exact h
def zrj:List AV×AV×MK:=([zcj],.tup [qo gPa,I 0],.lett)
theorem znn:oN Tryz.prog 37 zrj:=⟨by kernel_rfl,fun _=>r37⟩
def zno:List AV×AV×MK:=([zcj,I 5],.tup [cZ l8,I 0],.lett)
theorem znp:oN Tryz.prog 13 zno:=⟨by kernel_rfl,fun _=>r13⟩
def zi4:List AV×AV×MK:=([qo gPa,cZ l8],.tup [.lst 2 1 [encI [1,4,2,3],I 8],I 0],.lett)
theorem znq:oN Tryz.prog 39 zi4:=⟨by kernel_rfl,fun _=>r39⟩
def zfg:List AV×AV×MK:=([qo gPa,encI [3,2,4,1]],.tup [encI [1,4,2,3],I 0],.lett)
theorem znr:oN Tryz.prog 23 zfg:=⟨by kernel_rfl,fun _=>r23⟩
def zck:List AV×AV×MK:=([zcj,encI [3,2,4,1]],.tup [.bool true,I 0],.lett)
theorem zns:oN Tryz.prog 40 zck:=⟨by kernel_rfl,fun _=>r40⟩
def Nx (f:Nat):List (List AV×AV×MK):=bif Nat.beq f 37 then [zrj] else (bif Nat.beq f 13 then [zno] else (bif Nat.beq f 39 then [zi4] else (bif Nat.beq f 23 then [zfg] else (bif Nat.beq f 40 then [zck] else ([])))))
theorem zvy (f:Nat):∀ e∈Nx f,oN Tryz.prog f e:=(zff (g:=fun f=>bif Nat.beq f 13 then [zno] else (bif Nat.beq f 39 then [zi4] else (bif Nat.beq f 23 then [zfg] else (bif Nat.beq f 40 then [zck] else ([]))))) (mk_one znn) (zff (g:=fun f=>bif Nat.beq f 39 then [zi4] else (bif Nat.beq f 23 then [zfg] else (bif Nat.beq f 40 then [zck] else ([])))) (mk_one znp) (zff (g:=fun f=>bif Nat.beq f 23 then [zfg] else (bif Nat.beq f 40 then [zck] else ([]))) (mk_one znq) (zff (g:=fun f=>bif Nat.beq f 40 then [zck] else ([])) (mk_one znr) (zff (g:=fun f=>[]) (mk_one zns) (fun e h=>by cases h))))))
noncomputable abbrev znt:Nat->List AV->T Blk->Option (AV×T Blk):=zmz Nx dM
theorem zkh {B:Nat}:JOk Tryz.prog B znt:=zm0 zvy kV
theorem zs8 {B:Nat}:Pure Tryz.prog B 8 [] (· = .bool true) :=
  gX (S:=noS) (J:=znt) (fuel:=1000) (n:=60) zQ mixed (fun _=>zkh) (by kernel_rfl) (by kernel_rfl)
end Go.Ev
