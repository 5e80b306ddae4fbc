import Derived.Test.YtdclaaahnodljaaGreatDoorWordsa
import Derived.Test.YtdclaaahnodljaaGreatDoorWordsb
import Derived.Test.YtdclaaahnodljaaGreatDoorEvD
import Derived.Test.YtdclaaahnodljaaGreatDoorWordsc
import Derived.KernelRfl
set_option linter.unusedSimpArgs false
set_option linter.unusedVariables false
noncomputable section
namespace Go.Ev
open Go Go.Proofs
set_option maxRecDepth 100000
abbrev gD3:List Sym:=dgN 3
theorem xV {P:Program} {k:Nat} {l:List (List AV×AV)} {g:Nat->List (List AV×AV)} (h1:qU P k l) {f:Nat} (h2:qU P f (g f)):qU P f (bif Nat.beq f k then l else g f):=by
  cases q:Nat.beq f k with
  | false=>exact h2
  | true=>obtain rfl:=yI q;exact h1
def noSs (_:Nat):Bool:=false
def sqG:List Int:=[8,1,6,3,5,7,4,9,2]
def sqD:List Int:=[3,4,5,6,7,8,0,1,2]
def sqFz:List Int:=[4,9,2,8,1,6,3,5,7]
theorem r55 {B:Nat}:Pure Tryz.prog B 55 [I 3] (· = .tup [.agg [I 3,I 3,encI sqG],I 0]) :=
  jQ (S:=noSs) (J:=wM) (fuel:=1000) (n:=60) zR mixed (fun _=>uQ) (by kernel_rfl) (by kernel_rfl)
theorem r19 {B:Nat}:Pure Tryz.prog B 19 [I 3] (· = .tup [vw gD3,I 0]):=zwm
theorem r23 {B:Nat}:Pure Tryz.prog B 23 [vw gD3,encI sqG] (· = .tup [encI [2,7,6,9,5,1,4,3,8],I 0]):=by
  have:=cN (B:=B) (G:=gD3) (f:=sqG) (by decide) (by decide) (by decide);rw [canV,if_neg (by decide +kernel),show (qB (j9 gD3 sqG)).headD []=[2,7,6,9,5,1,4,3,8] by decide +kernel] at this;exact this
theorem r40s {B:Nat}:Pure Tryz.prog B 40 [.agg [I ((3*3:Nat):Int),sW (sqL 1 3)],encI sqG] (· = .tup [.bool true,I 0]) :=
  jQ (S:=noSs) (J:=wM) (fuel:=1000) (n:=60) zR mixed (fun _=>uQ) (by kernel_rfl) (by kernel_rfl)
theorem r22 {B:Nat}:Pure Tryz.prog B 22 [.agg [encI sqD,.bool false],encI sqG] (· = .tup [encI sqFz,I 0]) :=
  jQ (S:=noSs) (J:=wM) (fuel:=1000) (n:=60) zR mixed (fun _=>uQ) (by kernel_rfl) (by kernel_rfl)
theorem r26 {B:Nat}:Pure Tryz.prog B 26 [.str (gE 1),I 3] (· = .tup [.agg [I ((3*3:Nat):Int),sW (sqL 1 3)],I 0]):=zf4 (n:=3) (k:=1) (by decide) (by decide) (by decide)
theorem kin3:aW 3 sqFz=[mU,gE 0]:=by
  have hn:nrm sqFz=true:=decide_eq_true ((mO _).2 ⟨by decide,by decide⟩);rw [aW,prs,hn];decide +kernel
theorem r20 {B:Nat} (hj:∀ B,JOk Tryz.prog B qW):Pure Tryz.prog B 20 [.agg [I 3,I 3,encI sqFz]] (· = .tup [cM [mU,gE 0],I 0]):=by
  have:=zj5 (B:=B) (r:=3) (f:=sqFz) hj (fun m h1 h2=>zwn h1 (by omega)) (by decide) (by decide) (by decide +kernel);rw [show ((3:Int)).toNat=3 from rfl,kin3] at this;exact this
def zwo:List (List AV×AV):=([I 3],.tup [.agg [I 3,I 3,encI sqG],I 0])::[]
theorem zpj:qU Tryz.prog 55 zwo:=List.forall_mem_cons.2 ⟨fun _=>r55,fun _ h=>by cases h⟩
def zpk:List (List AV×AV):=([I 3],.tup [vw gD3,I 0])::[]
theorem zpl:qU Tryz.prog 19 zpk:=List.forall_mem_cons.2 ⟨fun _=>r19,fun _ h=>by cases h⟩
def zj6:List (List AV×AV):=([vw gD3,encI sqG],.tup [encI [2,7,6,9,5,1,4,3,8],I 0])::[]
theorem zpm:qU Tryz.prog 23 zj6:=List.forall_mem_cons.2 ⟨fun _=>r23,fun _ h=>by cases h⟩
def zf5:List (List AV×AV):=([.agg [I ((3*3:Nat):Int),sW (sqL 1 3)],encI sqG],.tup [.bool true,I 0])::[]
theorem zpn:qU Tryz.prog 40 zf5:=List.forall_mem_cons.2 ⟨fun _=>r40s,fun _ h=>by cases h⟩
def zda:List (List AV×AV):=([.str (gE 1),I 3],.tup [.agg [I ((3*3:Nat):Int),sW (sqL 1 3)],I 0])::[]
theorem zpo:qU Tryz.prog 26 zda:=List.forall_mem_cons.2 ⟨fun _=>r26,fun _ h=>by cases h⟩
def zb4:List (List AV×AV):=([.agg [I 3,I 3,encI sqFz]],.tup [cM [mU,gE 0],I 0])::[]
theorem zpp (hj:∀ B,JOk Tryz.prog B qW):qU Tryz.prog 20 zb4:=List.forall_mem_cons.2 ⟨fun _=>r20 hj,fun _ h=>by cases h⟩
def Tbq (f:Nat):List (List AV×AV):=bif Nat.beq f 55 then zwo else (bif Nat.beq f 19 then zpk else (bif Nat.beq f 23 then zj6 else (bif Nat.beq f 40 then zf5 else (bif Nat.beq f 26 then zda else (bif Nat.beq f 20 then zb4 else ([]))))))
theorem qca (hj:∀ B,JOk Tryz.prog B qW) (f:Nat):qU Tryz.prog f (Tbq f):=(xV (g:=fun f=>bif Nat.beq f 19 then zpk else (bif Nat.beq f 23 then zj6 else (bif Nat.beq f 40 then zf5 else (bif Nat.beq f 26 then zda else (bif Nat.beq f 20 then zb4 else ([])))))) zpj (xV (g:=fun f=>bif Nat.beq f 23 then zj6 else (bif Nat.beq f 40 then zf5 else (bif Nat.beq f 26 then zda else (bif Nat.beq f 20 then zb4 else ([]))))) zpl (xV (g:=fun f=>bif Nat.beq f 40 then zf5 else (bif Nat.beq f 26 then zda else (bif Nat.beq f 20 then zb4 else ([])))) zpm (xV (g:=fun f=>bif Nat.beq f 26 then zda else (bif Nat.beq f 20 then zb4 else ([]))) zpn (xV (g:=fun f=>bif Nat.beq f 20 then zb4 else ([])) zpo (xV (g:=fun f=>[]) (zpp hj) (fun _ h=>by cases h)))))))
def zwp:List AV×AV×MK:=([.agg [encI sqD,.bool false],encI sqG],.tup [encI sqFz,I 0],.lett)
theorem zpq:MKok Tryz.prog 22 zwp:=⟨by kernel_rfl,fun _=>r22⟩
def Sx (f:Nat):List (List AV×AV×MK):=bif Nat.beq f 22 then [zwp] else []
theorem qcb (f:Nat):∀ e∈Sx f,MKok Tryz.prog f e:=by
  intro e he;unfold Sx at he;cases q:Nat.beq f 22 with
  | false=>rw [q] at he;cases he
  | true=>obtain rfl:=yI q;rw [q,cond_true,List.mem_singleton] at he;rw [he];exact zpq
noncomputable abbrev zpr:Nat->List AV->T Blk->Option (AV×T Blk):=zfy Tbq (zov Sx wM)
theorem zly {B:Nat} (hj:∀ B,JOk Tryz.prog B qW):JOk Tryz.prog B zpr:=zj1 (qca hj) (zow qcb uQ)
theorem zyj {B:Nat} (hj:∀ B,JOk Tryz.prog B qW):Pure Tryz.prog B 18 [] (· = .bool true) :=
  jQ (S:=noSs) (J:=zpr) (fuel:=1000) (n:=60) zR mixed (fun _=>zly hj) (by kernel_rfl) (by kernel_rfl)
end Go.Ev
