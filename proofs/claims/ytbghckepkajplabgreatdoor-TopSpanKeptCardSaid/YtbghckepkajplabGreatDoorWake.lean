import Derived.Test.YtbghckepkajplabGreatDoorWordsa
import Derived.Test.YtbghckepkajplabGreatDoorEvD
import Derived.KernelRfl
set_option linter.unusedSimpArgs false
set_option linter.unusedVariables false
namespace Go.Ev
open Go Go.Proofs
set_option maxRecDepth 100000
noncomputable def orJ (J1 J2:Nat->List AV->T Blk->Option (AV×T Blk)) (f:Nat) (a:List AV) (h:T Blk):Option (AV×T Blk):=match J1 f a h with
  | some r=>some r
  | none=>J2 f a h
theorem zzo {P:Program} {B:Nat} {J1 J2:Nat->List AV->T Blk->Option (AV×T Blk)} (h1:JOk P B J1) (h2:JOk P B J2):JOk P B (orJ J1 J2):=by
  intro E h nx w f args vs v h' H hv hj;unfold orJ at hj;cases q:J1 f args h with
  | some r=>rw [q] at hj;exact h1 H hv (q.trans hj)
  | none=>rw [q] at hj;exact h2 H hv hj
noncomputable abbrev zrk:Nat->List AV->T Blk->Option (AV×T Blk):=orJ zrl zrm
theorem zhp {B:Nat}:JOk Tryz.prog B zrk:=zzo zrn zro
def noSs (_:Nat):Bool:=false
def gD3:List Sym:=[([0,1,2,3,4,5,6,7,8],false),([0,3,6,1,4,7,2,5,8],false),([2,1,0,5,4,3,8,7,6],false),([2,5,8,1,4,7,0,3,6],false),([6,3,0,7,4,1,8,5,2],false),([6,7,8,3,4,5,0,1,2],false),([8,5,2,7,4,1,6,3,0],false),([8,7,6,5,4,3,2,1,0],false)]
theorem w151 {B:Nat}:Pure Tryz.prog B 151 [encG gD3,I 9] (· = I 0) :=
  vZ (S:=noSs) (J:=zrk) (fuel:=1000) (n:=60) zR mixed (λ_=>zhp) (by kernel_rfl) (by kernel_rfl)
noncomputable def zrp:List (List AV×AV):=([encG gD3,I 9],I 0)::[]
theorem znq:zka Tryz.prog 151 zrp:=List.forall_mem_cons.2 ⟨λ_=>w151,λ_ h=>by cases h⟩
noncomputable def Tb1 (f:Nat):List (List AV×AV):=bif Nat.beq f 151 then zrp else []
theorem zzp (f:Nat):zka Tryz.prog f (Tb1 f):=by
  unfold Tb1;cases q:Nat.beq f 151 with
  | false=>exact λ_ h=>by cases h
  | true=>obtain rfl:=yM q;exact znq
noncomputable abbrev zxr:Nat->List AV->T Blk->Option (AV×T Blk):=zqw Tb1 zrk
theorem zrq {B:Nat}:JOk Tryz.prog B zxr:=zuq zzp zhp
theorem zzn {B:Nat}:Pure Tryz.prog B 7 [] (· = .bool true) :=
  vZ (S:=noSs) (J:=zxr) (fuel:=1000) (n:=60) zR mixed (λ_=>zrq) (by kernel_rfl) (by kernel_rfl)
end Go.Ev
