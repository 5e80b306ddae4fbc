import Derived.Test.YtdclaaahnodljaaGreatDoorWordsa
import Derived.Test.YtdclaaahnodljaaGreatDoorWordsb
import Derived.Test.YtdclaaahnodljaaGreatDoorEvD
import Derived.KernelRfl
set_option linter.unusedSimpArgs false
set_option linter.unusedVariables false
noncomputable section
namespace Go.Ev
open Go Go.Proofs
set_option maxRecDepth 100000
def gPa:List Sym:=[([0,1,2,3],false),([0,1,3,2],false),([1,0,2,3],false),([1,0,3,2],false),([2,3,0,1],false),([2,3,1,0],false),([3,2,0,1],false),([3,2,1,0],false)]
theorem r84a {B:Nat}:Pure Tryz.prog B 84 [rH gPa,I 4] (· = I 0):=by
  have:=zce (B:=B) (G:=gPa) (n:=4) (by decide) (by decide);rw [show uZ gPa 4=0 by decide +kernel] at this;exact this
theorem zsi {P:Program} {k:Nat} {l:List (List AV×AV)} {g:Nat->List (List AV×AV)} (h1:cB P k l) {f:Nat} (h2:cB P f (g f)):cB P f (bif Nat.beq f k then l else g f):=by
  cases q:Nat.beq f k with
  | false=>exact h2
  | true=>obtain rfl:=yA q;exact h1
def zt9:List (List AV×AV):=([rH gPa,I 4],I 0)::[]
theorem zpc:cB Tryz.prog 84 zt9:=List.forall_mem_cons.2 ⟨fun _=>r84a,fun _ h=>by cases h⟩
def Na (f:Nat):List (List AV×AV):=bif Nat.beq f 84 then zt9 else []
theorem zy7 (f:Nat):cB Tryz.prog f (Na f):=zsi (g:=fun _=>[]) zpc (fun _ h=>by cases h)
noncomputable abbrev pN:Nat->List AV->T Blk->Option (AV×T Blk):=zom Na zpd
theorem qK {B:Nat}:JOk Tryz.prog B pN:=zr1 zy7 zpe
def noS (_:Nat):Bool:=false
abbrev zc0:AV:=.agg [I 4,ji [[0,1],[2,3]]]
def l8:List (List Int):=[[1,4,2,3],[1,4,3,2],[2,3,1,4],[2,3,4,1],[3,2,1,4],[3,2,4,1],[4,1,2,3],[4,1,3,2]]
theorem r37 {B:Nat}:Pure Tryz.prog B 37 [zc0] (· = .tup [rH gPa,I 0]) :=
  uP (S:=noS) (J:=pN) (fuel:=1000) (n:=60) zP mixed (fun _=>qK) (by kernel_rfl) (by kernel_rfl)
theorem r13 {B:Nat}:Pure Tryz.prog B 13 [zc0,I 5] (· = .tup [ji l8,I 0]) :=
  uP (S:=noS) (J:=pN) (fuel:=1000) (n:=60) zP mixed (fun _=>qK) (by kernel_rfl) (by kernel_rfl)
theorem r39 {B:Nat}:Pure Tryz.prog B 39 [rH gPa,ji l8] (· = .tup [.lst 2 1 [encI [1,4,2,3],I 8],I 0]) :=
  uP (S:=noS) (J:=pN) (fuel:=1000) (n:=60) zP mixed (fun _=>qK) (by kernel_rfl) (by kernel_rfl)
theorem r23 {B:Nat}:Pure Tryz.prog B 23 [rH gPa,encI [3,2,4,1]] (· = .tup [encI [1,4,2,3],I 0]) :=
  uP (S:=noS) (J:=pN) (fuel:=1000) (n:=60) zP mixed (fun _=>qK) (by kernel_rfl) (by kernel_rfl)
theorem r40 {B:Nat}:Pure Tryz.prog B 40 [zc0,encI [3,2,4,1]] (· = .tup [.bool true,I 0]) :=
  uP (S:=noS) (J:=pN) (fuel:=1000) (n:=60) zP mixed (fun _=>qK) (by kernel_rfl) (by kernel_rfl)
theorem zfy {k:Nat} {l:List (List AV×AV×MK)} {g:Nat->List (List AV×AV×MK)} (h1:∀ e∈l,MKok Tryz.prog k e) {f:Nat} (h2:∀ e∈g f,MKok Tryz.prog f e):∀ e∈(bif Nat.beq f k then l else g f),MKok Tryz.prog f e:=by
  cases q:Nat.beq f k with
  | false=>exact h2
  | true=>obtain rfl:=yA q;exact h1
theorem mk_one {f:Nat} {e:List AV×AV×MK} (h:MKok Tryz.prog f e):∀ x∈[e],MKok Tryz.prog f x:=fun x hx=>by rw [List.mem_singleton.1 hx];exact h
def zua:List AV×AV×MK:=([zc0],.tup [rH gPa,I 0],.lett)
theorem zpf:MKok Tryz.prog 37 zua:=⟨by kernel_rfl,fun _=>r37⟩
def zpg:List AV×AV×MK:=([zc0,I 5],.tup [ji l8,I 0],.lett)
theorem zph:MKok Tryz.prog 13 zpg:=⟨by kernel_rfl,fun _=>r13⟩
def zkh:List AV×AV×MK:=([rH gPa,ji l8],.tup [.lst 2 1 [encI [1,4,2,3],I 8],I 0],.lett)
theorem zpi:MKok Tryz.prog 39 zkh:=⟨by kernel_rfl,fun _=>r39⟩
def zfz:List AV×AV×MK:=([rH gPa,encI [3,2,4,1]],.tup [encI [1,4,2,3],I 0],.lett)
theorem zpj:MKok Tryz.prog 23 zfz:=⟨by kernel_rfl,fun _=>r23⟩
def zc1:List AV×AV×MK:=([zc0,encI [3,2,4,1]],.tup [.bool true,I 0],.lett)
theorem zpk:MKok Tryz.prog 40 zc1:=⟨by kernel_rfl,fun _=>r40⟩
def Nx (f:Nat):List (List AV×AV×MK):=bif Nat.beq f 37 then [zua] else (bif Nat.beq f 13 then [zpg] else (bif Nat.beq f 39 then [zkh] else (bif Nat.beq f 23 then [zfz] else (bif Nat.beq f 40 then [zc1] else ([])))))
theorem zy8 (f:Nat):∀ e∈Nx f,MKok Tryz.prog f e:=(zfy (g:=fun f=>bif Nat.beq f 13 then [zpg] else (bif Nat.beq f 39 then [zkh] else (bif Nat.beq f 23 then [zfz] else (bif Nat.beq f 40 then [zc1] else ([]))))) (mk_one zpf) (zfy (g:=fun f=>bif Nat.beq f 39 then [zkh] else (bif Nat.beq f 23 then [zfz] else (bif Nat.beq f 40 then [zc1] else ([])))) (mk_one zph) (zfy (g:=fun f=>bif Nat.beq f 23 then [zfz] else (bif Nat.beq f 40 then [zc1] else ([]))) (mk_one zpi) (zfy (g:=fun f=>bif Nat.beq f 40 then [zc1] else ([])) (mk_one zpj) (zfy (g:=fun f=>[]) (mk_one zpk) (fun e h=>by cases h))))))
noncomputable abbrev zpl:Nat->List AV->T Blk->Option (AV×T Blk):=zon Nx pN
theorem zl4 {B:Nat}:JOk Tryz.prog B zpl:=zoo zy8 qK
theorem zwa {B:Nat}:Pure Tryz.prog B 8 [] (· = .bool true) :=
  uP (S:=noS) (J:=zpl) (fuel:=1000) (n:=60) zP mixed (fun _=>zl4) (by kernel_rfl) (by kernel_rfl)
end Go.Ev
