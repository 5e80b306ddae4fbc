import Derived.Test.YtdclaaahnodljaaGreatDoorWordsa
import Derived.Test.YtdclaaahnodljaaGreatDoorWordsb
import Derived.Test.YtdclaaahnodljaaGreatDoorEvD
import Derived.KernelRfl
set_option linter.unusedSimpArgs false
set_option linter.unusedVariables false
noncomputable section
namespace Go.Ev
open Go Go.Proofs
set_option maxRecDepth 100000
def gD3:List Sym:=[([0,1,2,3,4,5,6,7,8],false),([0,3,6,1,4,7,2,5,8],false),([2,1,0,5,4,3,8,7,6],false),([2,5,8,1,4,7,0,3,6],false),([6,3,0,7,4,1,8,5,2],false),([6,7,8,3,4,5,0,1,2],false),([8,5,2,7,4,1,6,3,0],false),([8,7,6,5,4,3,2,1,0],false)]
theorem r84s {B:Nat}:Pure Tryz.prog B 84 [fB gD3,I 9] (· = I 0):=by
  have:=zco (B:=B) (G:=gD3) (n:=9) (by decide) (by decide);rw [show j5 gD3 9=0 by decide +kernel] at this;exact this
theorem wA {P:Program} {k:Nat} {l:List (List AV×AV)} {g:Nat->List (List AV×AV)} (h1:kU P k l) {f:Nat} (h2:kU P f (g f)):kU P f (bif Nat.beq f k then l else g f):=by
  cases q:Nat.beq f k with
  | false=>exact h2
  | true=>obtain rfl:=yD q;exact h1
def zug:List (List AV×AV):=([fB gD3,I 9],I 0)::[]
theorem zoz:kU Tryz.prog 84 zug:=List.forall_mem_cons.2 ⟨fun _=>r84s,fun _ h=>by cases h⟩
def Sa (f:Nat):List (List AV×AV):=bif Nat.beq f 84 then zug else []
theorem zzh (f:Nat):kU Tryz.prog f (Sa f):=wA (g:=fun _=>[]) zoz (fun _ h=>by cases h)
noncomputable abbrev pG:Nat->List AV->T Blk->Option (AV×T Blk):=zju Sa zo0
theorem qT {B:Nat}:JOk Tryz.prog B pG:=zjv zzh zo1
def noSs (_:Nat):Bool:=false
def sqG:List Int:=[8,1,6,3,5,7,4,9,2]
def sqD:List Int:=[3,4,5,6,7,8,0,1,2]
def sqFz:List Int:=[4,9,2,8,1,6,3,5,7]
theorem r55 {B:Nat}:Pure Tryz.prog B 55 [I 3] (· = .tup [.agg [I 3,I 3,encI sqG],I 0]) :=
  uO (S:=noSs) (J:=pG) (fuel:=1000) (n:=60) zP mixed (fun _=>qT) (by kernel_rfl) (by kernel_rfl)
theorem r19 {B:Nat}:Pure Tryz.prog B 19 [I 3] (· = .tup [fB gD3,I 0]) :=
  uO (S:=noSs) (J:=pG) (fuel:=1000) (n:=60) zP mixed (fun _=>qT) (by kernel_rfl) (by kernel_rfl)
theorem r23 {B:Nat}:Pure Tryz.prog B 23 [fB gD3,encI sqG] (· = .tup [encI [2,7,6,9,5,1,4,3,8],I 0]) :=
  uO (S:=noSs) (J:=pG) (fuel:=1000) (n:=60) zP mixed (fun _=>qT) (by kernel_rfl) (by kernel_rfl)
theorem r40s {B:Nat}:Pure Tryz.prog B 40 [.agg [I ((3*3:Nat):Int),pz (sqL 1 3)],encI sqG] (· = .tup [.bool true,I 0]) :=
  uO (S:=noSs) (J:=pG) (fuel:=1000) (n:=60) zP mixed (fun _=>qT) (by kernel_rfl) (by kernel_rfl)
theorem r22 {B:Nat}:Pure Tryz.prog B 22 [.agg [encI sqD,.bool false],encI sqG] (· = .tup [encI sqFz,I 0]) :=
  uO (S:=noSs) (J:=pG) (fuel:=1000) (n:=60) zP mixed (fun _=>qT) (by kernel_rfl) (by kernel_rfl)
theorem r26 {B:Nat}:Pure Tryz.prog B 26 [.str (jG 1),I 3] (· = .tup [.agg [I ((3*3:Nat):Int),pz (sqL 1 3)],I 0]):=zb1 (n:=3) (k:=1) (by decide) (by decide) (by decide)
theorem kin3:kinR 3 sqFz=[zc6,jG 0]:=by
  have hn:nrm sqFz=true:=decide_eq_true ((zsn _).2 ⟨by decide,by decide⟩);rw [kinR,prs,hn];decide +kernel
theorem r20 {B:Nat} (hj:∀ B,JOk Tryz.prog B qE):Pure Tryz.prog B 20 [.agg [I 3,I 3,encI sqFz]] (· = .tup [zfz [zc6,jG 0],I 0]):=by
  have:=zjz (B:=B) (r:=3) (f:=sqFz) hj (fun m h1 h2=>zuh h1 (by omega)) (by decide) (by decide) (by decide +kernel);rw [show ((3:Int)).toNat=3 from rfl,kin3] at this;exact this
def zui:List (List AV×AV):=([I 3],.tup [.agg [I 3,I 3,encI sqG],I 0])::[]
theorem zo2:kU Tryz.prog 55 zui:=List.forall_mem_cons.2 ⟨fun _=>r55,fun _ h=>by cases h⟩
def zo3:List (List AV×AV):=([I 3],.tup [fB gD3,I 0])::[]
theorem zo4:kU Tryz.prog 19 zo3:=List.forall_mem_cons.2 ⟨fun _=>r19,fun _ h=>by cases h⟩
def zj0:List (List AV×AV):=([fB gD3,encI sqG],.tup [encI [2,7,6,9,5,1,4,3,8],I 0])::[]
theorem zo5:kU Tryz.prog 23 zj0:=List.forall_mem_cons.2 ⟨fun _=>r23,fun _ h=>by cases h⟩
def zf0:List (List AV×AV):=([.agg [I ((3*3:Nat):Int),pz (sqL 1 3)],encI sqG],.tup [.bool true,I 0])::[]
theorem zo6:kU Tryz.prog 40 zf0:=List.forall_mem_cons.2 ⟨fun _=>r40s,fun _ h=>by cases h⟩
def zc7:List (List AV×AV):=([.str (jG 1),I 3],.tup [.agg [I ((3*3:Nat):Int),pz (sqL 1 3)],I 0])::[]
theorem zo7:kU Tryz.prog 26 zc7:=List.forall_mem_cons.2 ⟨fun _=>r26,fun _ h=>by cases h⟩
def zb2:List (List AV×AV):=([.agg [I 3,I 3,encI sqFz]],.tup [zfz [zc6,jG 0],I 0])::[]
theorem zo8 (hj:∀ B,JOk Tryz.prog B qE):kU Tryz.prog 20 zb2:=List.forall_mem_cons.2 ⟨fun _=>r20 hj,fun _ h=>by cases h⟩
def Tbq (f:Nat):List (List AV×AV):=bif Nat.beq f 55 then zui else (bif Nat.beq f 19 then zo3 else (bif Nat.beq f 23 then zj0 else (bif Nat.beq f 40 then zf0 else (bif Nat.beq f 26 then zc7 else (bif Nat.beq f 20 then zb2 else ([]))))))
theorem zzi (hj:∀ B,JOk Tryz.prog B qE) (f:Nat):kU Tryz.prog f (Tbq f):=(wA (g:=fun f=>bif Nat.beq f 19 then zo3 else (bif Nat.beq f 23 then zj0 else (bif Nat.beq f 40 then zf0 else (bif Nat.beq f 26 then zc7 else (bif Nat.beq f 20 then zb2 else ([])))))) zo2 (wA (g:=fun f=>bif Nat.beq f 23 then zj0 else (bif Nat.beq f 40 then zf0 else (bif Nat.beq f 26 then zc7 else (bif Nat.beq f 20 then zb2 else ([]))))) zo4 (wA (g:=fun f=>bif Nat.beq f 40 then zf0 else (bif Nat.beq f 26 then zc7 else (bif Nat.beq f 20 then zb2 else ([])))) zo5 (wA (g:=fun f=>bif Nat.beq f 26 then zc7 else (bif Nat.beq f 20 then zb2 else ([]))) zo6 (wA (g:=fun f=>bif Nat.beq f 20 then zb2 else ([])) zo7 (wA (g:=fun f=>[]) (zo8 hj) (fun _ h=>by cases h)))))))
def zuj:List AV×AV×MK:=([.agg [encI sqD,.bool false],encI sqG],.tup [encI sqFz,I 0],.lett)
theorem zo9:MKok Tryz.prog 22 zuj:=⟨by kernel_rfl,fun _=>r22⟩
def Sx (f:Nat):List (List AV×AV×MK):=bif Nat.beq f 22 then [zuj] else []
theorem zzj (f:Nat):∀ e∈Sx f,MKok Tryz.prog f e:=by
  intro e he;unfold Sx at he;cases q:Nat.beq f 22 with
  | false=>rw [q] at he;cases he
  | true=>obtain rfl:=yD q;rw [q,cond_true,List.mem_singleton] at he;rw [he];exact zo9
noncomputable abbrev zpa:Nat->List AV->T Blk->Option (AV×T Blk):=zju Tbq (zod Sx pG)
theorem zlr {B:Nat} (hj:∀ B,JOk Tryz.prog B qE):JOk Tryz.prog B zpa:=zjv (zzi hj) (zoe zzj qT)
theorem zwf {B:Nat} (hj:∀ B,JOk Tryz.prog B qE):Pure Tryz.prog B 18 [] (· = .bool true) :=
  uO (S:=noSs) (J:=zpa) (fuel:=1000) (n:=60) zP mixed (fun _=>zlr hj) (by kernel_rfl) (by kernel_rfl)
end Go.Ev
