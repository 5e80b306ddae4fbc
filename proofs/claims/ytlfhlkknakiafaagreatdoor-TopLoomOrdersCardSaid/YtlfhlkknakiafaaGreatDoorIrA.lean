import Derived.Test.YtlfhlkknakiafaaGreatDoorEvC
import Derived.Test.YtlfhlkknakiafaaGreatDoorProg
import Derived.KernelRfl
set_option linter.unusedSimpArgs false
set_option linter.unusedVariables false
namespace Go.Ev
open Go
inductive HT (α:Type) where
  | l (x:α) | b (x y:HT α)
abbrev Rd (α:Type):=Nat->α×Nat
noncomputable section
abbrev zU:List AV:=[(.int .u8 0),(.int .u8 0),(.int .u8 0),(.int .u8 0),(.int .u8 0),(.int .u8 0),(.int .u8 0),(.int .u8 0),(.int .u8 0),(.int .u8 0),(.int .u8 0),(.int .u8 0),(.int .u8 0),(.int .u8 0),(.int .u8 0),(.int .u8 0),(.int .u8 0),(.int .u8 0),(.int .u8 0),(.int .u8 0),(.int .u8 0),(.int .u8 0),(.int .u8 0),(.int .u8 0),(.int .u8 0),(.int .u8 0),(.int .u8 0),(.int .u8 0),(.int .u8 0),(.int .u8 0),(.int .u8 0),(.int .u8 0),(.int .u8 0),(.int .u8 0),(.int .u8 0),(.int .u8 0),(.int .u8 0),(.int .u8 0),(.int .u8 0),(.int .u8 0),(.int .u8 0),(.int .u8 0),(.int .u8 0),(.int .u8 0),(.int .u8 0),(.int .u8 0),(.int .u8 0),(.int .u8 0),(.int .u8 0),(.int .u8 0),(.int .u8 0),(.int .u8 0),(.int .u8 0),(.int .u8 0),(.int .u8 0),(.int .u8 0),(.int .u8 0),(.int .u8 0),(.int .u8 0),(.int .u8 0),(.int .u8 0),(.int .u8 0),(.int .u8 0),(.int .u8 0),(.int .u8 0),(.int .u8 0),(.int .u8 0),(.int .u8 0),(.int .u8 0),(.int .u8 0),(.int .u8 0),(.int .u8 0),(.int .u8 0),(.int .u8 0),(.int .u8 0),(.int .u8 0),(.int .u8 0),(.int .u8 0),(.int .u8 0),(.int .u8 0),(.int .u8 0),(.int .u8 0),(.int .u8 0),(.int .u8 0),(.int .u8 0),(.int .u8 0),(.int .u8 0),(.int .u8 0),(.int .u8 0),(.int .u8 0),(.int .u8 0),(.int .u8 0),(.int .u8 0),(.int .u8 0),(.int .u8 0),(.int .u8 0),(.int .u8 0),(.int .u8 0),(.int .u8 0),(.int .u8 0),(.int .u8 0),(.int .u8 0),(.int .u8 0),(.int .u8 0),(.int .u8 0),(.int .u8 0),(.int .u8 0),(.int .u8 0),(.int .u8 0),(.int .u8 0),(.int .u8 0),(.int .u8 0),(.int .u8 0),(.int .u8 0),(.int .u8 0),(.int .u8 0),(.int .u8 0),(.int .u8 0),(.int .u8 0),(.int .u8 0),(.int .u8 0),(.int .u8 0),(.int .u8 0),(.int .u8 0),(.int .u8 0),(.int .u8 0),(.int .u8 0),(.int .u8 0)]
abbrev iSm (n:Nat):RO:=.s (.mv (.t (.of n)))
abbrev iQm (n m:Nat):RO:=.q (.of n) (.mv (.s m))
abbrev iQo (n:Nat) (o:PO):RO:=.q (.of n) o
abbrev iPf (n:Nat) (o:PO):RO:=.p .push (some (.s n,false)) o
abbrev iPt (n:Nat) (o:PO):RO:=.p .push (some (.s n,true)) o
abbrev iCa (n:Nat) (l:List Arg):RO:=.w .push none (.call (.c (.fn n (.of n) [])) l)
abbrev iWl (n:Nat) (o:WO):RO:=.w (.loc (.of n)) none o
abbrev iSr (l:List RO) (c:IR):IR:=.seq (.reg l) c
def fr1 (x0:AV):T AV:=(.n .e x0 .e)
def fr2 (x0 x1:AV):T AV:=(.n (.n .e x1 .e) x0 .e)
def fr3 (x0 x1 x2:AV):T AV:=(.n (.n .e x1 .e) x0 (.n .e x2 .e))
def fr4 (x0 x1 x2 x3:AV):T AV:=(.n (.n (.n .e x3 .e) x1 .e) x0 (.n .e x2 .e))
def fr5 (x0 x1 x2 x3 x4:AV):T AV:=(.n (.n (.n .e x3 .e) x1 .e) x0 (.n (.n .e x4 .e) x2 .e))
def fr6 (x0 x1 x2 x3 x4 x5:AV):T AV:=(.n (.n (.n .e x3 .e) x1 (.n .e x5 .e)) x0 (.n (.n .e x4 .e) x2 .e))
def fr7 (x0 x1 x2 x3 x4 x5 x6:AV):T AV:=(.n (.n (.n .e x3 .e) x1 (.n .e x5 .e)) x0 (.n (.n .e x4 .e) x2 (.n .e x6 .e)))
def fr8 (x0 x1 x2 x3 x4 x5 x6 x7:AV):T AV:=(.n (.n (.n (.n .e x7 .e) x3 .e) x1 (.n .e x5 .e)) x0 (.n (.n .e x4 .e) x2 (.n .e x6 .e)))
def fr9 (x0 x1 x2 x3 x4 x5 x6 x7 x8:AV):T AV:=(.n (.n (.n (.n .e x7 .e) x3 .e) x1 (.n .e x5 .e)) x0 (.n (.n (.n .e x8 .e) x4 .e) x2 (.n .e x6 .e)))
def fr10 (x0 x1 x2 x3 x4 x5 x6 x7 x8 x9:AV):T AV:=(.n (.n (.n (.n .e x7 .e) x3 .e) x1 (.n (.n .e x9 .e) x5 .e)) x0 (.n (.n (.n .e x8 .e) x4 .e) x2 (.n .e x6 .e)))
def fr11 (x0 x1 x2 x3 x4 x5 x6 x7 x8 x9 x10:AV):T AV:=(.n (.n (.n (.n .e x7 .e) x3 .e) x1 (.n (.n .e x9 .e) x5 .e)) x0 (.n (.n (.n .e x8 .e) x4 .e) x2 (.n (.n .e x10 .e) x6 .e)))
def fr12 (x0 x1 x2 x3 x4 x5 x6 x7 x8 x9 x10 x11:AV):T AV:=(.n (.n (.n (.n .e x7 .e) x3 (.n .e x11 .e)) x1 (.n (.n .e x9 .e) x5 .e)) x0 (.n (.n (.n .e x8 .e) x4 .e) x2 (.n (.n .e x10 .e) x6 .e)))
def fr13 (x0 x1 x2 x3 x4 x5 x6 x7 x8 x9 x10 x11 x12:AV):T AV:=(.n (.n (.n (.n .e x7 .e) x3 (.n .e x11 .e)) x1 (.n (.n .e x9 .e) x5 .e)) x0 (.n (.n (.n .e x8 .e) x4 (.n .e x12 .e)) x2 (.n (.n .e x10 .e) x6 .e)))
def fr14 (x0 x1 x2 x3 x4 x5 x6 x7 x8 x9 x10 x11 x12 x13:AV):T AV:=(.n (.n (.n (.n .e x7 .e) x3 (.n .e x11 .e)) x1 (.n (.n .e x9 .e) x5 (.n .e x13 .e))) x0 (.n (.n (.n .e x8 .e) x4 (.n .e x12 .e)) x2 (.n (.n .e x10 .e) x6 .e)))
def fr15 (x0 x1 x2 x3 x4 x5 x6 x7 x8 x9 x10 x11 x12 x13 x14:AV):T AV:=(.n (.n (.n (.n .e x7 .e) x3 (.n .e x11 .e)) x1 (.n (.n .e x9 .e) x5 (.n .e x13 .e))) x0 (.n (.n (.n .e x8 .e) x4 (.n .e x12 .e)) x2 (.n (.n .e x10 .e) x6 (.n .e x14 .e))))
def fr18 (x0 x1 x2 x3 x4 x5 x6 x7 x8 x9 x10 x11 x12 x13 x14 x15 x16 x17:AV):T AV:=(.n (.n (.n (.n (.n .e x15 .e) x7 .e) x3 (.n .e x11 .e)) x1 (.n (.n (.n .e x17 .e) x9 .e) x5 (.n .e x13 .e))) x0 (.n (.n (.n (.n .e x16 .e) x8 .e) x4 (.n .e x12 .e)) x2 (.n (.n .e x10 .e) x6 (.n .e x14 .e))))
def fr19 (x0 x1 x2 x3 x4 x5 x6 x7 x8 x9 x10 x11 x12 x13 x14 x15 x16 x17 x18:AV):T AV:=(.n (.n (.n (.n (.n .e x15 .e) x7 .e) x3 (.n .e x11 .e)) x1 (.n (.n (.n .e x17 .e) x9 .e) x5 (.n .e x13 .e))) x0 (.n (.n (.n (.n .e x16 .e) x8 .e) x4 (.n .e x12 .e)) x2 (.n (.n (.n .e x18 .e) x10 .e) x6 (.n .e x14 .e))))
def fr20 (x0 x1 x2 x3 x4 x5 x6 x7 x8 x9 x10 x11 x12 x13 x14 x15 x16 x17 x18 x19:AV):T AV:=(.n (.n (.n (.n (.n .e x15 .e) x7 .e) x3 (.n (.n .e x19 .e) x11 .e)) x1 (.n (.n (.n .e x17 .e) x9 .e) x5 (.n .e x13 .e))) x0 (.n (.n (.n (.n .e x16 .e) x8 .e) x4 (.n .e x12 .e)) x2 (.n (.n (.n .e x18 .e) x10 .e) x6 (.n .e x14 .e))))
def fr21 (x0 x1 x2 x3 x4 x5 x6 x7 x8 x9 x10 x11 x12 x13 x14 x15 x16 x17 x18 x19 x20:AV):T AV:=(.n (.n (.n (.n (.n .e x15 .e) x7 .e) x3 (.n (.n .e x19 .e) x11 .e)) x1 (.n (.n (.n .e x17 .e) x9 .e) x5 (.n .e x13 .e))) x0 (.n (.n (.n (.n .e x16 .e) x8 .e) x4 (.n (.n .e x20 .e) x12 .e)) x2 (.n (.n (.n .e x18 .e) x10 .e) x6 (.n .e x14 .e))))
def fr22 (x0 x1 x2 x3 x4 x5 x6 x7 x8 x9 x10 x11 x12 x13 x14 x15 x16 x17 x18 x19 x20 x21:AV):T AV:=(.n (.n (.n (.n (.n .e x15 .e) x7 .e) x3 (.n (.n .e x19 .e) x11 .e)) x1 (.n (.n (.n .e x17 .e) x9 .e) x5 (.n (.n .e x21 .e) x13 .e))) x0 (.n (.n (.n (.n .e x16 .e) x8 .e) x4 (.n (.n .e x20 .e) x12 .e)) x2 (.n (.n (.n .e x18 .e) x10 .e) x6 (.n .e x14 .e))))
def fr23 (x0 x1 x2 x3 x4 x5 x6 x7 x8 x9 x10 x11 x12 x13 x14 x15 x16 x17 x18 x19 x20 x21 x22:AV):T AV:=(.n (.n (.n (.n (.n .e x15 .e) x7 .e) x3 (.n (.n .e x19 .e) x11 .e)) x1 (.n (.n (.n .e x17 .e) x9 .e) x5 (.n (.n .e x21 .e) x13 .e))) x0 (.n (.n (.n (.n .e x16 .e) x8 .e) x4 (.n (.n .e x20 .e) x12 .e)) x2 (.n (.n (.n .e x18 .e) x10 .e) x6 (.n (.n .e x22 .e) x14 .e))))
def fr24 (x0 x1 x2 x3 x4 x5 x6 x7 x8 x9 x10 x11 x12 x13 x14 x15 x16 x17 x18 x19 x20 x21 x22 x23:AV):T AV:=(.n (.n (.n (.n (.n .e x15 .e) x7 (.n .e x23 .e)) x3 (.n (.n .e x19 .e) x11 .e)) x1 (.n (.n (.n .e x17 .e) x9 .e) x5 (.n (.n .e x21 .e) x13 .e))) x0 (.n (.n (.n (.n .e x16 .e) x8 .e) x4 (.n (.n .e x20 .e) x12 .e)) x2 (.n (.n (.n .e x18 .e) x10 .e) x6 (.n (.n .e x22 .e) x14 .e))))
def fr27 (x0 x1 x2 x3 x4 x5 x6 x7 x8 x9 x10 x11 x12 x13 x14 x15 x16 x17 x18 x19 x20 x21 x22 x23 x24 x25 x26:AV):T AV:=(.n (.n (.n (.n (.n .e x15 .e) x7 (.n .e x23 .e)) x3 (.n (.n .e x19 .e) x11 .e)) x1 (.n (.n (.n .e x17 .e) x9 (.n .e x25 .e)) x5 (.n (.n .e x21 .e) x13 .e))) x0 (.n (.n (.n (.n .e x16 .e) x8 (.n .e x24 .e)) x4 (.n (.n .e x20 .e) x12 .e)) x2 (.n (.n (.n .e x18 .e) x10 (.n .e x26 .e)) x6 (.n (.n .e x22 .e) x14 .e))))
def fr32 (x0 x1 x2 x3 x4 x5 x6 x7 x8 x9 x10 x11 x12 x13 x14 x15 x16 x17 x18 x19 x20 x21 x22 x23 x24 x25 x26 x27 x28 x29 x30 x31:AV):T AV:=(.n (.n (.n (.n (.n (.n .e x31 .e) x15 .e) x7 (.n .e x23 .e)) x3 (.n (.n .e x19 .e) x11 (.n .e x27 .e))) x1 (.n (.n (.n .e x17 .e) x9 (.n .e x25 .e)) x5 (.n (.n .e x21 .e) x13 (.n .e x29 .e)))) x0 (.n (.n (.n (.n .e x16 .e) x8 (.n .e x24 .e)) x4 (.n (.n .e x20 .e) x12 (.n .e x28 .e))) x2 (.n (.n (.n .e x18 .e) x10 (.n .e x26 .e)) x6 (.n (.n .e x22 .e) x14 (.n .e x30 .e)))))
def fr36 (x0 x1 x2 x3 x4 x5 x6 x7 x8 x9 x10 x11 x12 x13 x14 x15 x16 x17 x18 x19 x20 x21 x22 x23 x24 x25 x26 x27 x28 x29 x30 x31 x32 x33 x34 x35:AV):T AV:=(.n (.n (.n (.n (.n (.n .e x31 .e) x15 .e) x7 (.n .e x23 .e)) x3 (.n (.n (.n .e x35 .e) x19 .e) x11 (.n .e x27 .e))) x1 (.n (.n (.n (.n .e x33 .e) x17 .e) x9 (.n .e x25 .e)) x5 (.n (.n .e x21 .e) x13 (.n .e x29 .e)))) x0 (.n (.n (.n (.n (.n .e x32 .e) x16 .e) x8 (.n .e x24 .e)) x4 (.n (.n .e x20 .e) x12 (.n .e x28 .e))) x2 (.n (.n (.n (.n .e x34 .e) x18 .e) x10 (.n .e x26 .e)) x6 (.n (.n .e x22 .e) x14 (.n .e x30 .e)))))
abbrev in1:T AV:=fr1 .u
abbrev in2:T AV:=fr2 .u .u
abbrev in3:T AV:=fr3 .u .u .u
abbrev in4:T AV:=fr4 .u .u .u .u
abbrev in5:T AV:=fr5 .u .u .u .u .u
abbrev in6:T AV:=fr6 .u .u .u .u .u .u
abbrev in7:T AV:=fr7 .u .u .u .u .u .u .u
abbrev in8:T AV:=fr8 .u .u .u .u .u .u .u .u
abbrev in9:T AV:=fr9 .u .u .u .u .u .u .u .u .u
abbrev in10:T AV:=fr10 .u .u .u .u .u .u .u .u .u .u
abbrev in11:T AV:=fr11 .u .u .u .u .u .u .u .u .u .u .u
abbrev in12:T AV:=fr12 .u .u .u .u .u .u .u .u .u .u .u .u
abbrev in13:T AV:=fr13 .u .u .u .u .u .u .u .u .u .u .u .u .u
abbrev in14:T AV:=fr14 .u .u .u .u .u .u .u .u .u .u .u .u .u .u
abbrev in15:T AV:=fr15 .u .u .u .u .u .u .u .u .u .u .u .u .u .u .u
abbrev in18:T AV:=fr18 .u .u .u .u .u .u .u .u .u .u .u .u .u .u .u .u .u .u
abbrev in19:T AV:=fr19 .u .u .u .u .u .u .u .u .u .u .u .u .u .u .u .u .u .u .u
abbrev in20:T AV:=fr20 .u .u .u .u .u .u .u .u .u .u .u .u .u .u .u .u .u .u .u .u
abbrev in21:T AV:=fr21 .u .u .u .u .u .u .u .u .u .u .u .u .u .u .u .u .u .u .u .u .u
abbrev in22:T AV:=fr22 .u .u .u .u .u .u .u .u .u .u .u .u .u .u .u .u .u .u .u .u .u .u
abbrev in23:T AV:=fr23 .u .u .u .u .u .u .u .u .u .u .u .u .u .u .u .u .u .u .u .u .u .u .u
abbrev in24:T AV:=fr24 .u .u .u .u .u .u .u .u .u .u .u .u .u .u .u .u .u .u .u .u .u .u .u .u
abbrev in27:T AV:=fr27 .u .u .u .u .u .u .u .u .u .u .u .u .u .u .u .u .u .u .u .u .u .u .u .u .u .u .u
abbrev in32:T AV:=fr32 .u .u .u .u .u .u .u .u .u .u .u .u .u .u .u .u .u .u .u .u .u .u .u .u .u .u .u .u .u .u .u .u
abbrev in36:T AV:=fr36 .u .u .u .u .u .u .u .u .u .u .u .u .u .u .u .u .u .u .u .u .u .u .u .u .u .u .u .u .u .u .u .u .u .u .u .u
def xg (n:Nat):HT Pa:=.l (.of n)
def qg (n:Nat):HT Nat:=.l n
def jc {α:Type} (x:α):Rd α:=fun n=>(x,n)
def ou (n:Nat):HT (Rd Arg):=.l (jc (.s n))
def rP (n:Nat):HT (Rd Arg):=.l (jc (.t (.of n)))
def oz (n:Nat):HT (Rd Arg):=.l (jc (.c (I n)))
def dzrk (b:Nat):Rd Nat:=fun n=>(Nat.mod n b,Nat.div n b)
def dzrb {α β:Type} (a:Rd α) (f:α->Rd β):Rd β:=fun n=>Prod.rec (fun x m=>f x m) (a n)
def zy {α β:Type} (f:Rd (α->β)) (a:Rd α):Rd β:=fun n=>Prod.rec (fun g m=>Prod.rec (fun x k=>(g x,k)) (a m)) (f n)
def kz {α β:Type} (g:α->β) (a:Rd α):Rd β:=fun n=>Prod.rec (fun x k=>(g x,k)) (a n)
def vg {α:Type} (t:HT α):Rd α:=HT.rec (fun x n=>(x,n)) (fun _ _ f g n=>bif Nat.beq (Nat.mod n 2) 0 then f (Nat.div n 2) else g (Nat.div n 2)) t
def dzrj {α:Type} (t:HT (Rd α)):Rd α:=dzrb (vg t) (fun f=>f)
def dzlg (l:List IR):Nat->IR:=List.rec (fun _=>.skip) (fun x _ ih k=>Nat.rec x (fun m _=>ih m) k) l
def qde:HT (Rd Arg):=(.b (.b (.b (.b (.b (.b (.b (.b (rP 16) (.b (.l (jc (.c (.int .u32 1)))) (.l (jc (.c (.int .u32 2)))))) (.b (.b (oz 16) (rP 20)) (.l (jc (.c (.str [48,48,48,49,48,50,48,51,48,52,48,53,48,54,48,55,48,56,48,57,49,48,49,49,49,50,49,51,49,52,49,53,49,54,49,55,49,56,49,57,50,48,50,49,50,50,50,51,50,52,50,53,50,54,50,55,50,56,50,57,51,48,51,49,51,50,51,51,51,52,51,53,51,54,51,55,51,56,51,57,52,48,52,49,52,50,52,51,52,52,52,53,52,54,52,55,52,56,52,57,53,48,53,49,53,50,53,51,53,52,53,53,53,54,53,55,53,56,53,57,54,48,54,49,54,50,54,51,54,52,54,53,54,54,54,55,54,56,54,57,55,48,55,49,55,50,55,51,55,52,55,53,55,54,55,55,55,56,55,57,56,48,56,49,56,50,56,51,56,52,56,53,56,54,56,55,56,56,56,57,57,48,57,49,57,50,57,51,57,52,57,53,57,54,57,55,57,56,57,57])))))) (.b (.l (jc (.c (.int .u64 0)))) (ou 8))) (.b (.b (.b (oz 4) (.b (.l (jc (.c (.int .u32 100)))) (.l (jc (.c (.int .u64 32)))))) (.b (.b (.l (jc (.c (.str [112,97,110,100,105,97,103,111,110,97,108])))) (.l (jc (.c (I (-1)))))) (.b (rP 21) (.b (.l (jc (.c (.int .u32 10000)))) (.l (jc (.c (.str [110,111,114,109,97,108])))))))) (.b (.b (.b (.b (oz 5) (oz 64)) (.b (oz 8) (rP 26))) (.b (.b (rP 34) (.b (.l (jc (.c (.int .u8 45)))) (.l (jc (.c (I (-9223372036854775808))))))) (.b (.b (.l (jc (.c .nV))) (.b (.l (jc (.c (.fn 250 (.of 250) [])))) (.l (jc (.c (.fn 251 (.of 251) [])))))) (.b (.b (.l (jc (.c (.fn 252 (.of 252) [])))) (.l (jc (.c (.fn 253 (.of 253) []))))) (.b (.l (jc (.c (.fn 254 (.of 254) [])))) (.l (jc (.c (.fn 255 (.of 255) []))))))))) (.b (.b (.b (.b (.b (.l (jc (.c (.fn 256 (.of 256) [])))) (.l (jc (.c (.fn 257 (.of 257) []))))) (.b (.l (jc (.c (.fn 329 (.of 329) [])))) (.l (jc (.c (.fp (layL 2))))))) (.b (.b (.l (jc (.c (.int .u32 0)))) (.l (jc (.c (.int .u32 48))))) (.b (.l (jc (.c (.int .u64 16)))) (.l (jc (.c (.int .u64 18))))))) (.b (.b (.b (.l (jc (.c (.int .u64 18446744073709551615)))) (.l (jc (.c (.int .u64 256))))) (.b (.l (jc (.c (.int .u64 64)))) (.l (jc (.c (.int .u64 65536)))))) (.b (.b (.l (jc (.c (.int .u64 8)))) (.l (jc (.c (.str [0,1,2,2,3,3,3,3,4,4,4,4,4,4,4,4,5,5,5,5,5,5,5,5,5,5,5,5,5,5,5,5,6,6,6,6,6,6,6,6,6,6,6,6,6,6,6,6,6,6,6,6,6,6,6,6,6,6,6,6,6,6,6,6,7,7,7,7,7,7,7,7,7,7,7,7,7,7,7,7,7,7,7,7,7,7,7,7,7,7,7,7,7,7,7,7,7,7,7,7,7,7,7,7,7,7,7,7,7,7,7,7,7,7,7,7,7,7,7,7,7,7,7,7,7,7,7,7,8,8,8,8,8,8,8,8,8,8,8,8,8,8,8,8,8,8,8,8,8,8,8,8,8,8,8,8,8,8,8,8,8,8,8,8,8,8,8,8,8,8,8,8,8,8,8,8,8,8,8,8,8,8,8,8,8,8,8,8,8,8,8,8,8,8,8,8,8,8,8,8,8,8,8,8,8,8,8,8,8,8,8,8,8,8,8,8,8,8,8,8,8,8,8,8,8,8,8,8,8,8,8,8,8,8,8,8,8,8,8,8,8,8,8,8,8,8,8,8,8,8,8,8,8,8,8,8]))))) (.b (.l (jc (.c (.str [32])))) (.l (jc (.c (.str [98,105,109,97,103,105,99])))))))) (.l (kz (fun k=>.t (.of k)) (dzrk 512))))))) (oz 0)) (.b (.b (ou 3) (.b (rP 9) (.b (.b (oz 3) (.l (kz Arg.s (dzrk 64)))) (rP 11)))) (rP 0))) (.b (.b (.b (.b (.b (rP 13) (.b (.b (rP 17) (.b (.b (.b (.l (jc (.c (.str [98,111,114,100,101,114,101,100])))) (.l (jc (.c (I (-999999999)))))) (.b (oz 1048576) (oz 78913))) (.l (jc (.c (.int .u64 4294967295)))))) (ou 10))) (.b (ou 6) (.b (ou 7) (rP 15)))) (.b (ou 4) (.b (.b (.l (kz (fun k=>.c (I (.ofNat k))) (dzrk 16384))) (.b (.l (jc (.c (.int .u64 4294967296)))) (ou 12))) (rP 12)))) (rP 1)) (.b (.b (rP 4) (.b (rP 8) (.b (.b (.b (rP 19) (.l (jc (.c (.str [109,97,103,105,99]))))) (.b (.b (.l (jc (.c (.str [48,49,50,51,52,53,54,55,56,57,97,98,99,100,101,102,103,104,105,106,107,108,109,110,111,112,113,114,115,116,117,118,119,120,121,122])))) (.l (jc (.c (.int .u64 1))))) (ou 11))) (oz 2)))) (.b (oz 1) (rP 5))))) (.b (.b (.b (.b (.b (.b (.l (jc (.c (.bool true)))) (.l (jc (.c .zn)))) (.l (jc (.c (.bool false))))) (.b (.b (.b (.b (.b (.l (jc (.c (.str [115,101,109,105,109,97,103,105,99])))) (.l (jc (.c (.str []))))) (.b (oz 10) (oz 7))) (.b (.b (ou 13) (rP 25)) (.b (.b (.l (jc (.c (.int .u64 9223372036854775807)))) (.l (jc (.c (.str [109,111,115,116,45,112,101,114,102,101,99,116]))))) (.b (.l (jc (.c (.str [97,115,115,111,99,105,97,116,105,118,101])))) (.b (oz 999999999) (.l (jc (.c (.int .u64 100000000))))))))) (rP 10)) (.b (.b (rP 14) (.b (ou 9) (rP 18))) (ou 5)))) (.b (rP 3) (rP 2))) (.b (.b (.b (rP 6) (rP 7)) (ou 2)) (ou 1))) (ou 0)))
def zre:HT Nat:=(.b (qg 0) (.b (.b (.b (qg 4) (.b (.b (.b (.b (.b (.b (.b (qg 246) (qg 247)) (.b (qg 261) (qg 263))) (.b (.b (qg 312) (qg 324)) (.b (qg 325) (qg 326)))) (.b (.b (.b (qg 327) (qg 6)) (.b (qg 64) (qg 74))) (qg 16))) (.b (.b (qg 7) (.b (.b (qg 76) (qg 79)) (qg 75))) (.b (qg 5) (qg 65)))) (.b (qg 8) (.b (qg 24) (.b (.b (.b (qg 94) (qg 12)) (.b (.b (qg 10) (qg 128)) (.b (qg 14) (qg 160)))) (.b (.b (.b (qg 168) (qg 172)) (.b (qg 173) (qg 176))) (.b (.b (qg 177) (qg 20)) (.b (qg 244) (qg 245)))))))) (qg 3))) (qg 2)) (qg 1)))
def dkpa:HT Pa:=(.b (.b (.b (xg 4) (.b (.b (xg 13) (.b (.b (.b (xg 24) (xg 27)) (.b (xg 29) (xg 75))) (xg 18))) (xg 8))) (.b (.b (.b (.b (xg 16) (xg 17)) (xg 11)) (xg 7)) (.b (.b (.b (xg 14) (.b (.b (.b (xg 94) (xg 28)) (xg 25)) (xg 20))) (.b (.b (xg 21) (.b (xg 26) (.b (xg 30) (xg 34)))) (.b (.b (.b (.b (xg 160) (xg 168)) (.b (xg 172) (xg 173))) (.b (.b (xg 176) (xg 177)) (.b (xg 244) (xg 245)))) (.b (.b (.b (xg 246) (xg 247)) (.b (xg 261) (xg 263))) (.b (.b (xg 31) (xg 312)) (.b (xg 32) (xg 324))))))) (.b (.b (.b (.b (.b (.b (xg 325) (xg 326)) (.b (xg 327) (xg 33))) (.b (.b (xg 35) (xg 74)) (.b (xg 76) (xg 79)))) (xg 0)) (xg 15)) (xg 10))))) (.b (.b (xg 3) (.b (xg 1) (.b (xg 9) (.b (.b (xg 19) (.b (xg 22) (xg 23))) (xg 12))))) (.b (.b (xg 6) (xg 5)) (xg 2))))
def zbv:HT (List AV):=(.b (.b (.b (.l [(I 0),.zn,(I 0),.zn]) (.b (.l [(.str [])]) (.b (.l [(I 0),(I 0),(I 0),(I 0),(I 0),(I 0),(I 0)]) (.b (.l [(I 0),.zn,(I 0),.zn,(I 0),.zn,(I 0),.zn]) (.b (.l [(I 0),(I 0),(I 0),(I 0),(I 0),(I 0),(I 0),(I 0),(I 0),(I 0),(I 0),(I 0),(I 0),(I 0),(I 0),(I 0)]) (.l [(.bool false)])))))) (.l [(I 0),.zn])) (.b (.b (.l [(I 0)]) (.b (.l [.zn]) (.b (.l [(.int .u64 0)]) (.l [(I 0),(I 0),(I 0),(I 0)])))) (.b (.l [(I 0),(I 0),.zn]) (.b (.l [(I 0),(I 0)]) (.b (.b (.b (.l [.nV,.nV,.nV,.nV]) (.l [.nV])) (.b (.l [.zn,.zn]) (.b (.l [(.int .u8 0),(.int .u8 0),(.int .u8 0),(.int .u8 0),(.int .u8 0),(.int .u8 0),(.int .u8 0),(.int .u8 0),(.int .u8 0),(.int .u8 0),(.int .u8 0),(.int .u8 0),(.int .u8 0),(.int .u8 0),(.int .u8 0),(.int .u8 0),(.int .u8 0),(.int .u8 0),(.int .u8 0),(.int .u8 0),(.int .u8 0),(.int .u8 0),(.int .u8 0),(.int .u8 0),(.int .u8 0),(.int .u8 0),(.int .u8 0),(.int .u8 0),(.int .u8 0),(.int .u8 0),(.int .u8 0),(.int .u8 0),(.int .u8 0),(.int .u8 0),(.int .u8 0),(.int .u8 0),(.int .u8 0),(.int .u8 0),(.int .u8 0),(.int .u8 0),(.int .u8 0),(.int .u8 0),(.int .u8 0),(.int .u8 0),(.int .u8 0),(.int .u8 0),(.int .u8 0),(.int .u8 0),(.int .u8 0),(.int .u8 0),(.int .u8 0),(.int .u8 0),(.int .u8 0),(.int .u8 0),(.int .u8 0),(.int .u8 0),(.int .u8 0),(.int .u8 0),(.int .u8 0),(.int .u8 0),(.int .u8 0),(.int .u8 0),(.int .u8 0),(.int .u8 0),(.int .u8 0)]) (.l [(.int .u8 0),(.int .u8 0),(.int .u8 0),(.int .u8 0),(.int .u8 0),(.int .u8 0),(.int .u8 0),(.int .u8 0),(.int .u8 0),(.int .u8 0),(.int .u8 0),(.int .u8 0),(.int .u8 0),(.int .u8 0),(.int .u8 0),(.int .u8 0),(.int .u8 0),(.int .u8 0),(.int .u8 0),(.int .u8 0),(.int .u8 0),(.int .u8 0),(.int .u8 0),(.int .u8 0)])))) (.l [(.str []),.nV]))))))
def dkav:HT AV:=(.l (.bool false))
def dkoa:HT (Option Arg):=(.b (.b (.b (.b (.l (some (.s 8))) (.l (some (.c (I 1))))) (.b (.b (.l (some (.s 16))) (.l (some (.s 2)))) (.b (.l (some (.s 3))) (.l (some (.s 4)))))) (.l (some (.s 0)))) (.l none))
def dkon:HT (Option Nat):=(.l none)
def dkik:HT IntKind:=(.b (.l .u64) (.b (.b (.l .u8) (.l .u32)) (.l .i64)))
def dkkk:HT KK:=(.l .str)
def dkbo:HT Bool:=(.b (.l false) (.l true))
def tK:HT Dst:=(.b (.b (.l .none) (.b (.b (.b (.l (.loc (.of 5))) (.l (.loc (.of 4)))) (.l (.loc (.of 1)))) (.b (.l (.loc (.of 2))) (.b (.b (.b (.l (.loc (.of 6))) (.b (.l (.loc (.of 12))) (.b (.l (.loc (.of 9))) (.l (.loc (.of 10)))))) (.b (.l (.loc (.of 7))) (.b (.b (.l (.loc (.of 13))) (.l (.loc (.of 14)))) (.b (.b (.l (.loc (.of 0))) (.l (.loc (.of 16)))) (.b (.l (.loc (.of 31))) (.l (.loc (.of 8)))))))) (.l (.loc (.of 3))))))) (.l .push))
def zrf:HT (Arg->Arg->PO):=(.b (.b (.b (.l (PO.bin .mul .int)) (.b (.b (.l (PO.bin .shr .int)) (.b (.l (PO.bin .leq .int)) (.b (.l (PO.bin .shl .int)) (.b (.b (.l (PO.bin .neq (.nil .sl))) (.l (PO.bin .neq .str))) (.l (PO.bin .eql .str)))))) (.l (PO.bin .rem .int)))) (.l (PO.bin .add .int))) (.b (.b (.l (PO.bin .sub .int)) (.b (.l (PO.bin .eql .int)) (.l (PO.bin .neq .int)))) (.b (.l (PO.bin .lss .int)) (.b (.b (.l (PO.bin .gtr .int)) (.l (PO.bin .quo .int))) (.b (.b (.l (PO.bin .eql (.nil .sl))) (.b (.b (.l (PO.bin .or .int)) (.b (.l (PO.bin .eql .bool)) (.l (PO.bin .neq .bool)))) (.l (PO.bin .and .int)))) (.l (PO.bin .geq .int)))))))
def qdf:HT Nat:=(.b (qg 0) (.b (.b (.b (.b (qg 7) (.b (.b (.b (.b (.b (qg 33) (qg 40)) (qg 14)) (qg 11)) (qg 10)) (.b (qg 12) (.b (.b (qg 17) (qg 18)) (.b (qg 24) (.b (qg 13) (qg 16))))))) (.b (qg 8) (qg 5))) (qg 1)) (.b (.b (.b (.b (.b (.b (.b (.b (qg 19) (qg 27)) (.b (.b (qg 26) (qg 28)) (.b (qg 29) (qg 30)))) (qg 15)) (qg 9)) (qg 6)) (qg 4)) (qg 3)) (qg 2))))
def qdg:HT Nat:=(.b (.l 0) (.b (.l 2) (.l 1)))
def dka:Rd Arg:=dzrj qde
def tN:Rd (Option (Arg×Bool)):=dzrj ((.b (.b (.l (kz (fun a=>some (a,true)) dka)) (.l (kz (fun a=>some (a,false)) dka))) (.l (jc none))))
def dkck:Rd Arg:=dzrj ((.b (.l dka) (.l (kz (fun k=>.c (.fn k (.of k) [])) (dzrk 512)))))
def dklp:Rd (Nat×Nat×Arg):=zy (kz (fun a b=>(a,b)) (vg zre)) (zy (kz (fun a b=>(a,b)) (vg zre)) dka)
def dkn:Rd Nat:=vg zre
def dkp:Rd Pa:=vg dkpa
def oC {α:Type} (a:Rd α) (r:List α):Rd (List α):=dzrb (vg qdf) fun k=>Nat.rec (jc r) (fun _ ih=>zy (kz List.cons a) ih) k
def dkwo:Rd WO:=dzrj (.b (.l (zy (jc WO.alloc) (vg zbv))) (.l (zy (zy (zy (zy (jc WO.wz) dkn) dkn) (vg zbv)) (oC dklp []))))
def dkro:Rd RO:=dzrj (.b (.b (.b (.l (kz RO.s (zy (zy (vg zrf) dka) dka))) (.b (.b (.l (zy (zy (kz RO.w (vg tK)) tN) (zy (jc WO.alloc) (vg zbv)))) (.b (.l (kz RO.s (zy (jc PO.len) dka))) (.b (.l (kz RO.s (zy (zy (zy (zy (jc PO.zjm) dkn) dkn) dka) dka))) (.b (.l (zy (zy (kz RO.p (vg tK)) tN) (zy (zy (jc PO.zx) dkn) dka))) (.b (.b (.l (zy (zy (kz RO.p (vg tK)) tN) (zy (zy (zy (jc PO.fn) dkn) dkp) (oC dka [])))) (.l (kz RO.s (zy (jc PO.b2s) dka)))) (.l (zy (zy (kz RO.p (vg tK)) tN) (zy (jc PO.len) dka)))))))) (.b (.b (.l (kz RO.s (zy (zy (jc PO.build) (vg zbv)) (oC dklp [])))) (.b (.l (zy (kz RO.q dkp) (zy (zy (zy (jc PO.pick) dka) dka) dka))) (.b (.l (kz RO.s (zy (zy (zy (jc PO.fn) dkn) dkp) (oC dka [])))) (.b (.l (zy (zy (kz RO.p (vg tK)) tN) (zy (jc PO.not) dka))) (.l (kz RO.s (zy (zy (zy (zy (zy (jc PO.slice) dkn) dka) (vg dkoa)) (vg dkoa)) (vg dkoa)))))))) (.b (.b (.l (kz RO.s (zy (zy (zy (jc PO.pick) dka) dka) dka))) (.b (.b (.b (.b (.l (zy (kz RO.q dkp) (zy (zy (jc PO.zx) dkn) dka))) (.l (zy (kz RO.q dkp) (zy (zy (zy (jc PO.part) dkn) (vg dkon)) dka)))) (.b (.l (kz RO.s (zy (jc PO.capz) dka))) (.l (kz RO.s (zy (zy (zy (zy (zy (jc PO.idx) dkn) (vg dkbo)) dkn) dka) dka))))) (.b (.b (.l (kz RO.s (zy (zy (zy (jc PO.zam) (vg dkbo)) dka) (oC dka [])))) (.l (kz RO.s (zy (zy (zy (jc PO.zdo) dka) (vg dkoa)) (vg dkoa))))) (.b (.b (.l (kz RO.s (zy (zy (zy (zy (zy (jc PO.look) (vg dkkk)) (vg dkav)) (vg dkbo)) dka) dka))) (.l (zy (zy (kz RO.w (vg tK)) tN) (zy (zy (zy (zy (zy (jc WO.appm) dkn) dkn) (vg zbv)) dka) dka)))) (.b (.l (zy (zy (kz RO.w (vg tK)) tN) (zy (zy (zy (zy (jc WO.zo7) (vg dkkk)) dka) dka) dka))) (.l (zy (zy (kz RO.w (vg tK)) tN) (jc WO.zan))))))) (.l (kz RO.s (zy (zy (jc PO.sidx) dka) dka))))) (.l (zy (zy (kz RO.p (vg tK)) tN) (zy (jc PO.mv) dka))))))) (.l (kz RO.s (zy (jc PO.mv) dka)))) (.b (.b (.b (.l (kz RO.s (zy (jc PO.load) dka))) (.b (.l (kz RO.s (zy (zy (zy (jc PO.zfe) dkn) dka) dka))) (.l (kz RO.s (zy (zy (jc PO.zx) dkn) dka))))) (.b (.b (.b (.l (zy (zy (kz RO.p (vg tK)) tN) (zy (zy (vg zrf) dka) dka))) (.b (.l (zy (zy (kz RO.p (vg tK)) tN) (zy (jc PO.load) dka))) (.l (zy (zy (kz RO.w (vg tK)) tN) (zy (zy (zy (zy (jc WO.wz) dkn) dkn) (vg zbv)) (oC dklp [])))))) (.l (zy (kz RO.q dkp) (zy (zy (vg zrf) dka) dka)))) (.l (zy (zy (kz RO.w (vg tK)) tN) (zy (zy (jc WO.call) dkck) (oC dka [])))))) (.b (.b (.b (.b (.b (.b (.b (.l (zy (kz RO.q dkp) (zy (jc PO.load) dka))) (.l (zy (zy (kz RO.p (vg tK)) tN) (zy (zy (zy (jc PO.zfe) dkn) dka) dka)))) (.l (kz RO.s (zy (zy (jc PO.conv) (vg dkik)) dka)))) (.l (zy (kz RO.q dkp) (zy (jc PO.len) dka)))) (.l (zy (zy (kz RO.w (vg tK)) tN) (zy (jc WO.box) dka)))) (.l (kz RO.s (zy (zy (jc PO.zfd) dkn) dka)))) (.b (.b (.l (kz RO.s (zy (zy (jc PO.ext) dkn) dka))) (.b (.b (.l (zy (zy (kz RO.w (vg tK)) tN) (zy (zy (zy (zy (jc WO.app) dkn) dkn) dka) dka))) (.b (.l (zy (zy (kz RO.w (vg tK)) tN) (zy (zy (zy (zy (zy (jc WO.tY) dkn) dkn) (vg zbv)) dka) dka))) (.b (.l (kz RO.s (zy (zy (zy (jc PO.bm) dkn) dkp) (oC dka [])))) (.l (zy (zy (kz RO.p (vg tK)) tN) (zy (zy (zy (jc PO.pick) dka) dka) dka)))))) (.b (.b (.b (.l (zy (kz RO.q dkp) (zy (jc PO.not) dka))) (.l (kz RO.s (zy (zy (zy (zy (zy (zy (jc PO.aslice) dkn) dkn) dka) (vg dkoa)) (vg dkoa)) (vg dkoa))))) (.b (.l (kz RO.s (zy (jc PO.neg) dka))) (.l (kz RO.s (zy (jc PO.not) dka))))) (.l (zy (zy (kz RO.p (vg tK)) tN) (zy (zy (jc PO.zfd) dkn) dka)))))) (.l (zy (zy (kz RO.w (vg tK)) tN) (zy (zy (zy (jc WO.store) dkn) dka) dka))))) (.l (zy (kz RO.q dkp) (zy (jc PO.mv) dka))))))
def dkl:Rd (List RO):=oC dkro []
def dI (R:List IR) (n:Nat):IR:=(Nat.rec (motive:=fun _=>Rd IR) (jc .skip) (fun _ q=>dzrj (.b (.b (.b (.l (jc IR.skip)) (.l (zy (zy (zy (jc IR.cond) dka) q) q))) (.b (.b (.b (.l (zy (jc IR.loop) q)) (.b (.b (.l (zy (zy (zy (zy (jc IR.rf) dka) (oC dkp [])) q) q)) (.l (zy (jc IR.bad) dkn))) (.l (kz (fun k=>dzlg R k) (vg qdg))))) (.l (kz IR.reg dkl))) (.l (jc IR.ret)))) (.b (.b (.b (.l (zy (zy (jc IR.block) dkn) q)) (.b (.l (zy (jc IR.exit) dkn)) (.l (zy (kz IR.fP (oC dkwo [])) (oC (zy (kz (fun a b=>(a,b)) dkro) (zy (kz (fun a b=>(a,b)) dkn) (oC dkwo []))) []))))) (.l (zy (kz IR.seq q) q))) (.l (zy (kz (fun l=>IR.seq (.reg l)) dkl) q))))) 200 n).1
def dA (r:List RO) (n:Nat):List RO:=(oC dkro r n).1
end
end Go.Ev
namespace Go.Ev
open Go Go.Proofs
set_option maxRecDepth 100000
noncomputable section
abbrev aT2:Arg:=.t (.of 2)
abbrev aT3:Arg:=.t (.of 3)
abbrev aT4:Arg:=.t (.of 4)
abbrev aT5:Arg:=.t (.of 5)
abbrev aT6:Arg:=.t (.of 6)
abbrev aT7:Arg:=.t (.of 7)
abbrev aT8:Arg:=.t (.of 8)
abbrev aT9:Arg:=.t (.of 9)
abbrev aT10:Arg:=.t (.of 10)
abbrev aT11:Arg:=.t (.of 11)
abbrev aT12:Arg:=.t (.of 12)
abbrev aT13:Arg:=.t (.of 13)
abbrev aT14:Arg:=.t (.of 14)
abbrev aT15:Arg:=.t (.of 15)
abbrev aT16:Arg:=.t (.of 16)
abbrev aT17:Arg:=.t (.of 17)
abbrev aT18:Arg:=.t (.of 18)
abbrev aT19:Arg:=.t (.of 19)
abbrev aT20:Arg:=.t (.of 20)
abbrev aT21:Arg:=.t (.of 21)
abbrev aT22:Arg:=.t (.of 22)
abbrev aT23:Arg:=.t (.of 23)
abbrev aT24:Arg:=.t (.of 24)
abbrev aT26:Arg:=.t (.of 26)
abbrev aT27:Arg:=.t (.of 27)
abbrev aT28:Arg:=.t (.of 28)
abbrev aT29:Arg:=.t (.of 29)
abbrev aT30:Arg:=.t (.of 30)
abbrev aT31:Arg:=.t (.of 31)
abbrev aT35:Arg:=.t (.of 35)
abbrev aS1:Arg:=.s 1
abbrev aC0:Arg:=.c (I 0)
abbrev aC1:Arg:=.c (I 1)
abbrev aC32:Arg:=.c (I 32)
abbrev F4.fr:=fr24
def F4.t0:IR:=.reg (dA [] 34173)
def F4.t1:IR:=.reg (dA [] 2304611835103157849)
def F4.t2:IR:=.reg (dA [] 3958073433687842907897042296009)
def F4.t3:IR:=.reg (dA [] 8237206607350643751721884966089)
def F4.zwu (r:List RO):List RO:=dA r 184086454913538596351767470728159114583443
def F4.r4_4:List RO:=F4.zwu []
def F4.zwt (r:List RO):List RO:=dA r 16610546925
def F4.r4_3:List RO:=F4.zwt F4.r4_4
def F4.zwr (r:List RO):List RO:=dA r 68283834695840298554463278608586302076860934308219084169
def F4.r4_2:List RO:=F4.zwr F4.r4_3
def F4.zwq (r:List RO):List RO:=dA r 16610546925
def F4.r4_1:List RO:=F4.zwq F4.r4_2
def F4.zwp (r:List RO):List RO:=dA r 6417253227986192258861995721433
def F4.r4_0:List RO:=F4.zwp F4.r4_1
def F4.t4:IR:=.reg F4.r4_0
def F4.t7:IR:=.cond aT14 (.seq (.reg (dA [] 34173)) .ret) .skip
def F4.t10:IR:=.reg (dA [] 15950370615)
def F4.t11:IR:=.reg (dA [] 16302764039383890267539107)
def F4.zw0 (r:List RO):List RO:=dA r 232927228303402741977591499
def F4.r8_5:List RO:=F4.zw0 []
def F4.zwz (r:List RO):List RO:=dA r 16610546925
def F4.r8_4:List RO:=F4.zwz F4.r8_5
def F4.zwy (r:List RO):List RO:=dA r 1962441418541
def F4.r8_3:List RO:=F4.zwy F4.r8_4
def F4.zwx (r:List RO):List RO:=dA r 223931956126429483315182955536048165629261864329
def F4.r8_2:List RO:=F4.zwx F4.r8_3
def F4.zww (r:List RO):List RO:=dA r 16610547437
def F4.r8_1:List RO:=F4.zww F4.r8_2
def F4.zwv (r:List RO):List RO:=dA r 3228640793863148327452123968902693721
def F4.r8_0:List RO:=F4.zwv F4.r8_1
def F4.t15:IR:=.reg F4.r8_0
def F4.t18:IR:=.cond aT16 (.seq (.reg (dA [] 34173)) .ret) .skip
def F4.t20:IR:=.reg (dA [] 4947379840116759248476119239220425)
def F4.t21:IR:=.reg (dA [] 511941225085526800889263754247227116353)
def F4.t26:IR:=.reg (dA [] 153509371880730923885180705)
def F4.t27:IR:=.reg (dA [] 20605402674127588182496183416184003)
def F4.zo6 (r:List RO):List RO:=dA r 433777726213528111
def F4.zxk:List RO:=F4.zo6 []
def F4.zo5 (r:List RO):List RO:=dA r 9399641996103115382495539042600853232186632361
def F4.zxl:List RO:=F4.zo5 F4.zxk
def F4.zo4 (r:List RO):List RO:=dA r 255496258444263
def F4.zxm:List RO:=F4.zo4 F4.zxl
def F4.zo3 (r:List RO):List RO:=dA r 6794119501019238060049719684114633
def F4.zo2:List RO:=F4.zo3 F4.zxm
def F4.t28:IR:=.reg F4.zo2
def F4.t33:IR:=.reg (dA [] 147336441070685947)
def F4.t34:IR:=.reg (dA [] 86008618413)
def F4.t36:IR:=.reg (dA [] 27754833753755)
def F4.t37:IR:=.reg (dA [] 17005766394027)
def F4.t44:IR:=.reg (dA [] 13654347911)
def F4.t47:IR:=.seq F4.t34 (.seq (.cond aT22 .skip (.exit 0)) (.seq (.block 1 (.seq F4.t36 (.seq F4.t37 (.cond aT23 (.seq (.reg (dA [] 34173)) .ret) .skip)))) F4.t44))
def F4.t48:IR:=.loop F4.t47
def F4.t51:IR:=.reg (dA [] 451956719)
def F4.t58:IR:=.seq F4.t20 (.seq (.seq F4.t21 (.cond aT17 (.seq (.reg (dA [] 34173)) .ret) .skip)) (.seq F4.t26 (.seq F4.t27 (.seq (.seq F4.t28 (.cond aT18 (.seq (.reg (dA [] 34173)) .ret) .skip)) (.seq (.seq F4.t33 (.block 0 F4.t48)) (.seq F4.t51 .ret))))))
def F4.t60:IR:=.seq (.seq F4.t10 (.cond aT15 (.seq F4.t11 .ret) .skip)) (.seq (.seq F4.t15 F4.t18) F4.t58)
def F4.t64:IR:=.seq F4.t0 (.seq F4.t1 (.seq F4.t2 (.seq (.seq F4.t3 (.seq F4.t4 F4.t7)) F4.t60)))
def F4.b0:IR:=F4.t64
def F4.res:List RV:=[.t (.of 1)]
def F4:Fn:={ params:=[(.of 0)],res:=F4.res,body:=F4.b0,init:=in24 }
theorem F4.ok:fnA Tryz.prog Tryz.f4 [0,2,3,4,5,6,7,8,9,10,11,12,13,15,48,50,74,86,118,119,120,121,122,127]=some F4:=by kernel_rfl
abbrev F12.fr:=fr7
def F12.b0:IR:=dI [] 21839901053246445639476052096343979672588841127182366732305990782357743404374308827843048255205744546447693317464157543089800738222827168353712761900849311
def F12.res:List RV:=[.cell (.of 2) (some 2),.t (.of 3)]
def F12:Fn:={ params:=[(.of 0),(.of 1)],res:=F12.res,body:=F12.b0,init:=in7 }
theorem F12.ok:fnA Tryz.prog Tryz.f12 [0,1,4,5,6,7,20]=some F12:=by kernel_rfl
abbrev F16.fr:=fr19
def F16.b0:IR:=dI [] 10757014089682533783496967698123599367093436646935919258487702639302234878351908285087281701242773742651713260288585730576271175362090092928533101744114409411471646781721147364644436732985034115543144036081197429370818396834113768990938344025537426559
def F16.res:List RV:=[.t (.of 3)]
def F16:Fn:={ params:=[(.of 0),(.of 1)],res:=F16.res,body:=F16.b0,init:=in19 }
theorem F16.ok:fnA Tryz.prog Tryz.f16 [0,1,2,4,5,6,8,9,11,18,19,20,21,22,25,26,27,28,39]=some F16:=by kernel_rfl
abbrev F17.fr:=fr5
def F17.b0:IR:=dI [] 22911876204329152509667949614642280358605612823999693014525026013647855790982335459870991533343368656969651507294659685318269189295083888622299751770271
def F17.res:List RV:=[.cell (.of 1) (some 3),.t (.of 2)]
def F17:Fn:={ params:=[(.of 0)],res:=F17.res,body:=F17.b0,init:=in5 }
theorem F17.ok:fnA Tryz.prog Tryz.f17 [0,2,3,4,5]=some F17:=by kernel_rfl
abbrev F18.fr:=fr5
def F18.b0:IR:=dI [] 40560226533131322845502296538849064242475733472875473012538047061338631477474342123850995801112201611608984792940974156306785711591907764463
def F18.res:List RV:=[.cell (.of 2) (some 3),.t (.of 3)]
def F18:Fn:={ params:=[(.of 0)],res:=F18.res,body:=F18.b0,init:=in5 }
theorem F18.ok:fnA Tryz.prog Tryz.f18 [0,1,2,3,4]=some F18:=by kernel_rfl
abbrev F19.fr:=fr7
def F19.b0:IR:=dI [] 455930206532307622549175283472166681392778300733515424723691162749889346729040028549783348713172568110783284338540018928483954710989909036281054461359017028770410539376423524884653984042478564810316462282912657934819136502745023954530628642286274705850197255606951268087
def F19.res:List RV:=[.t (.of 0)]
def F19:Fn:={ params:=[],res:=F19.res,body:=F19.b0,init:=in7 }
theorem F19.ok:fnA Tryz.prog Tryz.f19 [0,1,2,3,4,5,6]=some F19:=by kernel_rfl
abbrev F20.fr:=fr14
def F20.b16:IR:=dI [] 1803886186428275732132773489384793452179452464857071683245198894341824222911426748929330480605073636661524046541
def F20.b17:IR:=dI [] 64352713402
def F20.b12:IR:=dI [F20.b16,F20.b17] 1251830274991321176311044972140632227712325163022999610700482037700356640973859199582673834334742485638700385392540826069629
def F20.b11:IR:=(.loop F20.b12)
def F20.g10 (X11:IR):IR:=(.block 2 X11)
def F20.b10:IR:=F20.g10 F20.b11
def F20.b18:IR:=dI [] 130680656733976420779428839256719170040719
def F20.b19:IR:=dI [] 27845469882
def F20.b5:IR:=dI [F20.b10,F20.b18,F20.b19] 1744559996817336504097563234115380548957809307584950220619273866933640775715535625021
def F20.b4:IR:=(.loop F20.b5)
def F20.g3 (X4:IR):IR:=(.block 0 X4)
def F20.b3:IR:=F20.g3 F20.b4
def F20.b20:IR:=dI [] 215031
def F20.b0:IR:=dI [F20.b3,F20.b20] 4343217166722130999245209015796484407334913960059483933275925293283724717346356051776193994688231445943423
def F20.res:List RV:=[.t (.of 2)]
def F20:Fn:={ params:=[(.of 0)],res:=F20.res,body:=F20.b0,init:=in14 }
theorem F20.ok:fnA Tryz.prog Tryz.f20 [0,1,2,3,4,5,13,17,22,32,36,52,66,72]=some F20:=by kernel_rfl
abbrev F21.fr:=fr32
def F21.t0:IR:=.reg (dA [] 283232856635)
def F21.t1:IR:=.reg (dA [] 27475643837339)
def F21.t2:IR:=.reg (dA [] 1203197143)
def F21.t8:IR:=.reg (dA [] 1242540299890291)
def F21.t9:IR:=.reg (dA [] 411693567)
def F21.t13:IR:=.reg (dA [] 8741)
def F21.t14:IR:=.reg (dA [] 34045)
def F21.t15:IR:=.reg [iQo 7 (.mv (.c .zn))]
def F21.t16:IR:=.reg (dA [] 20385222722635263544441657145)
def F21.t17:IR:=.reg (dA [] 58130556589)
def F21.t19:IR:=.reg (dA [] 16759556019867)
def F21.t20:IR:=.reg (dA [] 564456818374800490353288574761016074169)
def F21.t21:IR:=.reg (dA [] 319463665758997371)
def F21.t22:IR:=.reg (dA [] 403523980432557)
def F21.t24:IR:=.reg (dA [] 1124543694014517926127994163)
def F21.t25:IR:=.reg (dA [] 1091376243348898438061612156131)
def F21.t28:IR:=.reg (dA [] 8503432835207)
def F21.t31:IR:=.seq F21.t22 (.seq (.cond aT24 .skip (.exit 2)) (.seq (.block 3 (.seq F21.t24 F21.t25)) F21.t28))
def F21.t32:IR:=.loop F21.t31
def F21.t35:IR:=.reg (dA [] 21247647327473708517871017187)
def F21.t36:IR:=.reg (dA [] 112157685917357)
def F21.t38:IR:=.reg (dA [] 16180702992436891)
def F21.t39:IR:=dI [] 314567452222470948052252494221548573463329272025
def F21.t42:IR:=.reg (dA [] 7876367872135)
def F21.t45:IR:=.seq F21.t36 (.seq (.cond aT28 .skip (.exit 4)) (.seq (.block 5 (.seq F21.t38 F21.t39)) F21.t42))
def F21.t46:IR:=.loop F21.t45
def F21.t49:IR:=.reg (dA [] 2885308353134793300946000769563776845417)
def F21.t50:IR:=.reg (dA [] 101402642479968232398246934389345)
def F21.t53:IR:=.reg (dA [] 9571662374933428296118214760805081)
def F21.t60:IR:=.reg (dA [] 13889189511)
def F21.t63:IR:=.seq F21.t17 (.seq (.cond aT20 .skip (.exit 0)) (.seq (.block 1 (.seq F21.t19 (.seq F21.t20 (.seq (.seq F21.t21 (.block 2 F21.t32)) (.seq (.seq F21.t35 (.block 4 F21.t46)) (.seq (.seq F21.t49 (.cond aT29 F21.t50 .skip)) F21.t53)))))) F21.t60))
def F21.t64:IR:=.loop F21.t63
def F21.zoy (r:List RO):List RO:=dA r 6461544805
def F21.zka:List RO:=F21.zoy []
def F21.zox (r:List RO):List RO:=dA r 345092380126943449201045321863259040528388451
def F21.zrg:List RO:=F21.zox F21.zka
def F21.zow (r:List RO):List RO:=dA r 137796525076373448778457
def F21.zov:List RO:=F21.zow F21.zrg
def F21.t67:IR:=.reg F21.zov
def F21.t68:IR:=.reg (dA [] 411693567)
def F21.t72:IR:=dI [] 220016783916491397614902544096769416476794346268094087314815693105340813497
def F21.t73:IR:=.reg (dA [] 2017874407844427515716336961226537)
def F21.t74:IR:=.reg (dA [] 64079384680568227904414439258346784545)
def F21.t75:IR:=.reg (dA [] 2844914175)
def F21.t79:IR:=.reg (dA [] 1107288235)
def F21.t91:IR:=.seq F21.t0 (.seq (.seq F21.t1 (.seq F21.t2 (.cond aT15 (.seq (.reg (dA [] 435288491)) .ret) .skip))) (.seq (.seq F21.t8 (.cond aT16 (.seq F21.t9 .ret) .skip)) (.seq F21.t13 (.seq F21.t14 (.seq F21.t15 (.seq (.seq F21.t16 (.block 0 F21.t64)) (.seq (.seq F21.t67 (.cond aT30 (.seq F21.t68 .ret) .skip)) (.seq F21.t72 (.seq F21.t73 (.seq (.seq F21.t74 (.cond aT31 (.seq F21.t75 .ret) .skip)) (.seq F21.t79 .ret)))))))))))
def F21.b0:IR:=F21.t91
def F21.res:List RV:=[.t (.of 2),.t (.of 3)]
def F21:Fn:={ params:=[(.of 0)],res:=F21.res,body:=F21.b0,init:=in32 }
theorem F21.ok:fnA Tryz.prog Tryz.f21 [0,1,2,3,4,5,6,7,9,10,12,14,15,16,17,21,26,29,30,31,32,38,39,40,41,53,54,55,56,75,97,120]=some F21:=by kernel_rfl
abbrev F22.fr:=fr7
def F22.b0:IR:=dI [] 753531989078887450973078553995801288987920524348928413364851090053864833509615
def F22.res:List RV:=[.t (.of 3),.t (.of 4)]
def F22:Fn:={ params:=[(.of 0),(.of 1)],res:=F22.res,body:=F22.b0,init:=in7 }
theorem F22.ok:fnA Tryz.prog Tryz.f22 [0,1,2,4,5,6,11]=some F22:=by kernel_rfl
abbrev F23.fr:=fr2
def F23.b0:IR:=dI [] 277609867694341587585316482942455
def F23.res:List RV:=[.t (.of 1)]
def F23:Fn:={ params:=[(.of 0)],res:=F23.res,body:=F23.b0,init:=in2 }
theorem F23.ok:fnA Tryz.prog Tryz.f23 [0,2]=some F23:=by kernel_rfl
abbrev F32.fr:=fr7
def F32.b4:IR:=dI [] 6005699063545765393054977068645432889097114082994424088306420714400568068840061
def F32.b3:IR:=(.loop F32.b4)
def F32.g2 (X3:IR):IR:=(.block 0 X3)
def F32.b2:IR:=F32.g2 F32.b3
def F32.b9:IR:=dI [] 1576951
def F32.b0:IR:=dI [F32.b2,F32.b9] 329930502729561753840039910987497381498871
def F32.res:List RV:=[.t (.of 2)]
def F32:Fn:={ params:=[(.of 0),(.of 1)],res:=F32.res,body:=F32.b0,init:=in7 }
theorem F32.ok:fnA Tryz.prog Tryz.f32 [0,1,4,5,10,14,25]=some F32:=by kernel_rfl
abbrev F52.fr:=fr8
def F52.b0:IR:=dI [] 6336320037958098402380362699971343087443514536237203765908305435688068588841142683127
def F52.res:List RV:=[.t (.of 1)]
def F52:Fn:={ params:=[(.of 0)],res:=F52.res,body:=F52.b0,init:=in8 }
theorem F52.ok:fnA Tryz.prog Tryz.f52 [0,2,4,5,6,7,8,12]=some F52:=by kernel_rfl
abbrev F54.fr:=fr4
def F54.b0:IR:=dI [] 15866495368626603380623351
def F54.res:List RV:=[.t (.of 2)]
def F54:Fn:={ params:=[(.of 0),(.of 1)],res:=F54.res,body:=F54.b0,init:=in4 }
theorem F54.ok:fnA Tryz.prog Tryz.f54 [0,1,4,5]=some F54:=by kernel_rfl
abbrev F55.fr:=fr12
def F55.b0:IR:=dI [] 247782019772471139389350474801647013979235761424868766474806754255135792584503312357543823585131739031595248903550871906095678751692191439266870037793018492363194339539660328866018800651065495
def F55.res:List RV:=[.cell (.of 2) (some 3)]
def F55:Fn:={ params:=[(.of 0),(.of 1)],res:=F55.res,body:=F55.b0,init:=in12 }
theorem F55.ok:fnA Tryz.prog Tryz.f55 [0,1,4,5,6,7,10,11,12,14,15,16]=some F55:=by kernel_rfl
abbrev F57.fr:=fr12
def F57.b0:IR:=dI [] 11201840142530602426667648415050475820480508649036726629152574808775240532151366929991589861391194922352006128079542761213693189572010492707027029344193792423340872471598476215190853752529259325892646523677766887203817789365286801231181078385791
def F57.res:List RV:=[.t (.of 2)]
def F57:Fn:={ params:=[(.of 0)],res:=F57.res,body:=F57.b0,init:=in12 }
theorem F57.ok:fnA Tryz.prog Tryz.f57 [0,1,2,3,4,6,10,18,19,20,21,38]=some F57:=by kernel_rfl
abbrev F58.fr:=fr3
def F58.b0:IR:=dI [] 44990616700953089057378935795787789456319520874001283906660511
def F58.res:List RV:=[.cell (.of 1) (some 3),.t (.of 2)]
def F58:Fn:={ params:=[(.of 0)],res:=F58.res,body:=F58.b0,init:=in3 }
theorem F58.ok:fnA Tryz.prog Tryz.f58 [0,2,3]=some F58:=by kernel_rfl
abbrev F62.fr:=fr3
def F62.b0:IR:=dI [] 67683301399674146538852343
def F62.res:List RV:=[.t (.of 2)]
def F62:Fn:={ params:=[(.of 0),(.of 1)],res:=F62.res,body:=F62.b0,init:=in3 }
theorem F62.ok:fnA Tryz.prog Tryz.f62 [0,1,4]=some F62:=by kernel_rfl
abbrev F63.fr:=fr8
def F63.b3:IR:=dI [] 5878252168863162988305048121999451190465783438201222647479
def F63.b2:IR:=(.loop F63.b3)
def F63.g1 (X2:IR):IR:=(.block 0 X2)
def F63.b1:IR:=F63.g1 F63.b2
def F63.b8:IR:=dI [] 427511
def F63.b0:IR:=dI [F63.b1,F63.b8] 71542345404847574844919
def F63.res:List RV:=[.t (.of 1)]
def F63:Fn:={ params:=[(.of 0)],res:=F63.res,body:=F63.b0,init:=in8 }
theorem F63.ok:fnA Tryz.prog Tryz.f63 [0,2,4,5,6,7,8,12]=some F63:=by kernel_rfl
abbrev F64.fr:=fr4
def F64.b0:IR:=dI [] 15866495368626603380623351
def F64.res:List RV:=[.t (.of 2)]
def F64:Fn:={ params:=[(.of 0),(.of 1)],res:=F64.res,body:=F64.b0,init:=in4 }
theorem F64.ok:fnA Tryz.prog Tryz.f64 [0,1,4,5]=some F64:=by kernel_rfl
abbrev F65.fr:=fr6
def F65.b0:IR:=dI [] 5190094734910589103674901389991954542933824802908399
def F65.res:List RV:=[.t (.of 5)]
def F65:Fn:={ params:=[(.of 0),(.of 1),(.of 2)],res:=F65.res,body:=F65.b0,init:=in6 }
theorem F65.ok:fnA Tryz.prog Tryz.f65 [0,1,2,3,4,6]=some F65:=by kernel_rfl
abbrev F66.fr:=fr19
def F66.b0:IR:=dI [] 565182452689694327861069531132840495438386258284604799753970463265056574526727864583007621517385017236341166627151576983100169455602426718545585413231438321990295177384737050772992837048455873191300688138009804227742504820635370607016424211200721915276408579331655565949868352483869855822246102906326917622501260117594985310572681681830034508448258104647109784216228481095238972037271
def F66.res:List RV:=[.cell (.of 2) (some 2)]
def F66:Fn:={ params:=[(.of 0),(.of 1)],res:=F66.res,body:=F66.b0,init:=in19 }
theorem F66.ok:fnA Tryz.prog Tryz.f66 [0,1,4,5,6,7,9,10,11,21,26,27,28,29,35,36,37,41,55]=some F66:=by kernel_rfl
abbrev F67.fr:=fr4
def F67.b0:IR:=dI [] 50537808555811930393115271057071608158657059711392882137979289810779435553331100705045132415
def F67.res:List RV:=[.t (.of 3)]
def F67:Fn:={ params:=[(.of 0),(.of 1)],res:=F67.res,body:=F67.b0,init:=in4 }
theorem F67.ok:fnA Tryz.prog Tryz.f67 [0,1,2,4]=some F67:=by kernel_rfl
abbrev F68.fr:=fr5
def F68.b0:IR:=dI [] 10947061029399525425223817599291264289940990728718495470367871
def F68.res:List RV:=[.t (.of 3)]
def F68:Fn:={ params:=[(.of 0),(.of 1)],res:=F68.res,body:=F68.b0,init:=in5 }
theorem F68.ok:fnA Tryz.prog Tryz.f68 [0,1,2,4,5]=some F68:=by kernel_rfl
abbrev F73.fr:=fr13
def F73.b0:IR:=dI [] 1205876523522185192259472954682927706735270653891270547881728051733592407326128234682758805311301375643205517212766205359383268534216027189541407808352254434467816957068568059912789378376579220352434520995185153345079117195503
def F73.res:List RV:=[.t (.of 2),.t (.of 3)]
def F73:Fn:={ params:=[(.of 0)],res:=F73.res,body:=F73.b0,init:=in13 }
theorem F73.ok:fnA Tryz.prog Tryz.f73 [0,1,2,3,4,5,7,11,13,14,15,16,27]=some F73:=by kernel_rfl
abbrev F74.fr:=fr3
def F74.b0:IR:=dI [] 2527942762886312964654650678772132449663162640535
def F74.res:List RV:=[.cell (.of 1) (some 3)]
def F74:Fn:={ params:=[(.of 0)],res:=F74.res,body:=F74.b0,init:=in3 }
theorem F74.ok:fnA Tryz.prog Tryz.f74 [0,2,3]=some F74:=by kernel_rfl
abbrev F75.fr:=fr4
def F75.b0:IR:=dI [] 157150555920048815703551718460961280010897761308616929338267000219859115347036175410630655985333769274942690354983446974344577234626711
def F75.res:List RV:=[.cell (.of 1) (some 3)]
def F75:Fn:={ params:=[(.of 0)],res:=F75.res,body:=F75.b0,init:=in4 }
theorem F75.ok:fnA Tryz.prog Tryz.f75 [0,2,3,4]=some F75:=by kernel_rfl
abbrev F76.fr:=fr18
def F76.b0:IR:=dI [] 4535013095143446698219880500362665196614928734811948312751765759166878170236000515906697893119800805579252481596721958099767011846653715299769402554824638614205499917601396911380532670539366805228545633387844032777311443034307456656079831055635325013043166410678491200308381909511354129586521544879352559665871974006617272159796306643055965429791170679673996613786887246206990252363473293655774940456994123268424774861018233223232417813607487177110646895570618887865291655663164355406000645364705227079743915876442095214453514380343426589265127400996746310808613486273746905904344554821973065209102982608610050241593597491449640252126980815649106071
def F76.res:List RV:=[.cell (.of 1) (some 3)]
def F76:Fn:={ params:=[(.of 0)],res:=F76.res,body:=F76.b0,init:=in18 }
theorem F76.ok:fnA Tryz.prog Tryz.f76 [0,2,3,4,5,6,7,8,9,10,11,37,38,39,41,42,43,74]=some F76:=by kernel_rfl
abbrev F77.fr:=fr7
def F77.b0:IR:=dI [] 113870777206912662452185105549039284466312294501381962531973606591324269880137819523535759939588585631
def F77.res:List RV:=[.cell (.of 3) (some 3),.t (.of 4)]
def F77:Fn:={ params:=[(.of 0),(.of 1),(.of 2)],res:=F77.res,body:=F77.b0,init:=in7 }
theorem F77.ok:fnA Tryz.prog Tryz.f77 [0,1,2,6,7,8,17]=some F77:=by kernel_rfl
abbrev F78.fr:=fr3
def F78.b0:IR:=dI [] 17330821332104023238946047991
def F78.res:List RV:=[.t (.of 2)]
def F78:Fn:={ params:=[(.of 0),(.of 1)],res:=F78.res,body:=F78.b0,init:=in3 }
theorem F78.ok:fnA Tryz.prog Tryz.f78 [0,1,4]=some F78:=by kernel_rfl
abbrev F79.fr:=fr6
def F79.b0:IR:=dI [] 95442170962500568178543730680521478437225742704561265993852562468969009109200563729209004589559630129024557767770844920137147999679167508288184321686260537495
def F79.res:List RV:=[.cell (.of 2) (some 3)]
def F79:Fn:={ params:=[(.of 0),(.of 1)],res:=F79.res,body:=F79.b0,init:=in6 }
theorem F79.ok:fnA Tryz.prog Tryz.f79 [0,1,2,3,6,8]=some F79:=by kernel_rfl
abbrev F80.fr:=fr7
def F80.b0:IR:=dI [] 4230949790215360735518036251346607619673806062735177249113818345614775747140204280533319040049196373119536814880699876797057400449396858483724810347700748116871332619653042298106763359722745200176567915974440075526215018471179575904814601653612237506928602311986041563613265897261978408063
def F80.res:List RV:=[.cell (.of 2) (some 7)]
def F80:Fn:={ params:=[(.of 0)],res:=F80.res,body:=F80.b0,init:=in7 }
theorem F80.ok:fnA Tryz.prog Tryz.f80 [0,1,2,3,4,8,9]=some F80:=by kernel_rfl
abbrev F81.fr:=fr10
def F81.b0:IR:=dI [] 1376676188765808061080959794118943619640568981017801715283762738408854415125177940639721474324535607385926448428329590325626256022652113706964808657258029799195236687846338941407285132032633771104059429894209834346367064548140662457352767894749990572495
def F81.res:List RV:=[.cell (.of 2) (some 3),.cell (.of 3) (some 2),.t (.of 4)]
def F81:Fn:={ params:=[(.of 0)],res:=F81.res,body:=F81.b0,init:=in10 }
theorem F81.ok:fnA Tryz.prog Tryz.f81 [0,1,2,3,4,5,6,7,17,28]=some F81:=by kernel_rfl
abbrev F82.fr:=fr11
def F82.b0:IR:=dI [] 593029005854336412026661137212250863916179236483320604146790739232189345552088227027612560487299210287541342419977279967819216500076258655644349762073009075096056467672027722560665156216083059728216530603847144912153482751
def F82.res:List RV:=[.t (.of 1),.t (.of 2)]
def F82:Fn:={ params:=[(.of 0)],res:=F82.res,body:=F82.b0,init:=in11 }
theorem F82.ok:fnA Tryz.prog Tryz.f82 [0,2,3,4,5,6,16,18,19,20,25]=some F82:=by kernel_rfl
abbrev F83.fr:=fr7
def F83.b0:IR:=dI [] 443462879194177827797343480689069714217894396816478393462445741390654825015837868253291047151
def F83.res:List RV:=[.cell (.of 4) (some 3)]
def F83:Fn:={ params:=[(.of 0),(.of 1)],res:=F83.res,body:=F83.b0,init:=in7 }
theorem F83.ok:fnA Tryz.prog Tryz.f83 [0,1,2,3,4,5,6]=some F83:=by kernel_rfl
abbrev F84.fr:=fr10
def F84.b0:IR:=dI [] 124684646655305880068191782678586609860699934976748574732894134899920713290350389980539106653190384014122929670604416799633987123854225145477183565734393207446009673460385669728988241761181461550573807
def F84.res:List RV:=[.t (.of 2),.t (.of 3)]
def F84:Fn:={ params:=[(.of 0)],res:=F84.res,body:=F84.b0,init:=in10 }
theorem F84.ok:fnA Tryz.prog Tryz.f84 [0,1,2,3,4,5,6,10,19,27]=some F84:=by kernel_rfl
abbrev F85.fr:=fr2
def F85.b0:IR:=dI [] 323298048708766040072327252166527510051905983782281469647174226944079143265843734261389598333581784498962868943536028787214323198027085975
def F85.res:List RV:=[.cell (.of 0) (some 3)]
def F85:Fn:={ params:=[],res:=F85.res,body:=F85.b0,init:=in2 }
theorem F85.ok:fnA Tryz.prog Tryz.f85 [0,1]=some F85:=by kernel_rfl
abbrev F86.fr:=fr6
def F86.b3:IR:=dI [] 170692233710497813093057989661994858384621274321255196595954424445
def F86.b2:IR:=(.loop F86.b3)
def F86.g1 (X2:IR):IR:=(.block 0 X2)
def F86.b1:IR:=F86.g1 F86.b2
def F86.b8:IR:=dI [] 856055
def F86.b0:IR:=dI [F86.b1,F86.b8] 1066062950633463
def F86.res:List RV:=[.t (.of 2)]
def F86:Fn:={ params:=[(.of 0),(.of 1)],res:=F86.res,body:=F86.b0,init:=in6 }
theorem F86.ok:fnA Tryz.prog Tryz.f86 [0,1,4,5,9,17]=some F86:=by kernel_rfl
abbrev F87.fr:=fr11
def F87.b4:IR:=dI [] 3364245910229491358342826600020041108031679162650680280135224019996227255
def F87.b3:IR:=(.loop F87.b4)
def F87.g2 (X3:IR):IR:=(.block 0 X3)
def F87.b2:IR:=F87.g2 F87.b3
def F87.b9:IR:=dI [] 215031
def F87.b0:IR:=dI [F87.b2,F87.b9] 1409456159925053001185883957752680667235956778518371504124624027271900681660385028787591426838045284995099986707439723384174176180669043839
def F87.res:List RV:=[.t (.of 2)]
def F87:Fn:={ params:=[(.of 0)],res:=F87.res,body:=F87.b0,init:=in11 }
theorem F87.ok:fnA Tryz.prog Tryz.f87 [0,1,2,3,4,5,18,22,23,24,30]=some F87:=by kernel_rfl
abbrev F88.fr:=fr36
def F88.t0:IR:=.reg (dA [] 12802274591)
def F88.t1:IR:=.reg (dA [] 217868603)
def F88.t2:IR:=.reg [iQo 4 (.mv (.c .zn))]
def F88.t3:IR:=.reg [iQo 5 (.mv (.c .zn))]
def F88.t4:IR:=.reg [iQo 6 (.mv aC1)]
def F88.t5:IR:=.reg (dA [] 452353880662893273)
def F88.t8:IR:=.reg (dA [] 9129275850034281881884112073)
def F88.t9:IR:=dI [] 45934148668423026643785404881349145007090370583122137
def F88.t10:IR:=.reg (dA [] 19826055360535163)
def F88.t11:IR:=.reg (dA [] 7331747501)
def F88.t13:IR:=.reg (dA [] 507101908734877212761)
def F88.t14:IR:=dI [] 1175001435691050910725910138232940912335574105
def F88.t17:IR:=.reg (dA [] 16338731143)
def F88.t20:IR:=.seq F88.t11 (.seq (.cond aT21 .skip (.exit 2)) (.seq (.block 3 (.seq F88.t13 F88.t14)) F88.t17))
def F88.t21:IR:=.loop F88.t20
def F88.t24:IR:=.reg (dA [] 17036624491)
def F88.zor (r:List RO):List RO:=dA r 304597524003361327
def F88.zrh:List RO:=F88.zor []
def F88.zoq (r:List RO):List RO:=dA r 81339150257175436045682972615078547388508361
def F88.zop:List RO:=F88.zoq F88.zrh
def F88.t25:IR:=.reg F88.zop
def F88.t28:IR:=.reg (dA [] 68146500715)
def F88.t30:IR:=.seq (.seq F88.t25 (.cond aT22 .skip (.exit 4))) (.block 5 F88.t28)
def F88.t31:IR:=.loop F88.t30
def F88.t33:IR:=.reg (dA [] 9524959799)
def F88.t36:IR:=.reg (dA [] 39449299517532249137834020229825)
def F88.t37:IR:=.reg (dA [] 76917197410781039227)
def F88.t38:IR:=.reg (dA [] 353152242861)
def F88.t40:IR:=.reg (dA [] 16180907048666779)
def F88.t41:IR:=.reg (dA [] 612912621087745268731820161601)
def F88.t44:IR:=.reg (dA [] 57373569159)
def F88.t47:IR:=.seq F88.t38 (.seq (.cond aT27 .skip (.exit 6)) (.seq (.block 7 (.seq F88.t40 F88.t41)) F88.t44))
def F88.t48:IR:=.loop F88.t47
def F88.t51:IR:=.reg (dA [] 2736223267040680358872667653862503720684699880785)
def F88.t61:IR:=.reg (dA [] 6970343787)
def F88.t63:IR:=.seq (.seq F88.t5 (.cond aT17 .skip (.exit 0))) (.seq (.block 1 (.seq F88.t8 (.seq F88.t9 (.seq (.seq F88.t10 (.block 2 F88.t21)) (.seq F88.t24 (.seq (.block 4 F88.t31) (.seq (.seq F88.t33 (.cond aT23 (.exit 1) .skip)) (.seq F88.t36 (.seq (.seq F88.t37 (.block 6 F88.t48)) F88.t51))))))))) F88.t61)
def F88.t64:IR:=.loop F88.t63
def F88.t67:IR:=.reg (dA [] 6245925)
def F88.t68:IR:=.reg (dA [] 17892166079)
def F88.t69:IR:=.reg (dA [] 1018155804055213)
def F88.t71:IR:=.reg (dA [] 3385048599)
def F88.t72:IR:=.reg (dA [] 17429105847850923)
def F88.t75:IR:=.reg (dA [] 6837234559595)
def F88.t76:IR:=.reg (dA [] 16653119456964828933200089)
def F88.t77:IR:=.reg (dA [] 2632628834136837913467)
def F88.t78:IR:=.reg (dA [] 18657707855533)
def F88.t80:IR:=.reg (dA [] 3682688353819968935188569)
def F88.t81:IR:=.reg (dA [] 5033094270418311856805727516027131858363665900337)
def F88.t84:IR:=.reg (dA [] 134682816647)
def F88.t87:IR:=.seq F88.t78 (.seq (.cond aT35 .skip (.exit 10)) (.seq (.block 11 (.seq F88.t80 F88.t81)) F88.t84))
def F88.t88:IR:=.loop F88.t87
def F88.t91:IR:=dI [] 61135392618711555941802124629759795666513165590044689506010193586143629210730296731132722205636019289
def F88.t98:IR:=.reg (dA [] 7326612189319)
def F88.t101:IR:=.seq F88.t69 (.seq (.cond aT30 .skip (.exit 8)) (.seq (.block 9 (.seq F88.t71 (.seq (.seq F88.t72 (.cond aT31 (.exit 9) .skip)) (.seq F88.t75 (.seq F88.t76 (.seq (.seq F88.t77 (.block 10 F88.t88)) F88.t91)))))) F88.t98))
def F88.t102:IR:=.loop F88.t101
def F88.t105:IR:=.reg (dA [] 65337791951)
def F88.t113:IR:=.seq F88.t0 (.seq F88.t1 (.seq F88.t2 (.seq F88.t3 (.seq (.seq F88.t4 (.block 0 F88.t64)) (.seq F88.t67 (.seq (.seq F88.t68 (.block 8 F88.t102)) (.seq F88.t105 .ret)))))))
def F88.b0:IR:=F88.t113
def F88.res:List RV:=[.cell (.of 2) (some 2)]
def F88:Fn:={ params:=[(.of 0)],res:=F88.res,body:=F88.b0,init:=in36 }
theorem F88.ok:fnA Tryz.prog Tryz.f88 [0,1,2,3,4,5,6,7,8,9,10,12,13,14,15,16,17,24,43,44,45,46,72,76,84,85,86,87,106,107,108,112,119,120,121,122]=some F88:=by kernel_rfl
abbrev F89.fr:=fr2
def F89.t0:IR:=.reg (dA [] 6693)
def F89.t1:IR:=.reg (dA [] 2143532538662993260115)
def F89.t3:IR:=.seq F89.t0 (.seq F89.t1 .ret)
def F89.b0:IR:=F89.t3
def F89.res:List RV:=[.cell (.of 1) (some 4)]
def F89:Fn:={ params:=[(.of 0)],res:=F89.res,body:=F89.b0,init:=in2 }
theorem F89.ok:fnA Tryz.prog Tryz.f89 [0,2]=some F89:=by kernel_rfl
abbrev F90.fr:=fr6
def F90.t0:IR:=.reg (dA [] 55136594319931)
def F90.t1:IR:=.reg (dA [] 88060329036407469356896065825836643)
def F90.t2:IR:=.reg (dA [] 8283381991795064457858601249786465)
def F90.t6:IR:=dI [] 3836594225847233377537914494249321435673327652930189307762827275004902688513521413968345434889583330541297065049
def F90.t7:IR:=.seq F90.t6 .ret
def F90.t9:IR:=.seq F90.t0 (.seq (.seq F90.t1 (.cond aT5 (.seq F90.t2 .ret) .skip)) F90.t7)
def F90.b0:IR:=F90.t9
def F90.res:List RV:=[.cell (.of 4) (some 4)]
def F90:Fn:={ params:=[(.of 0),(.of 1)],res:=F90.res,body:=F90.b0,init:=in6 }
theorem F90.ok:fnA Tryz.prog Tryz.f90 [0,1,2,3,4,10]=some F90:=by kernel_rfl
abbrev F91.fr:=fr3
def F91.t0:IR:=.reg (dA [] 150943007)
def F91.t1:IR:=.reg (dA [] 18008638888923763)
def F91.t3:IR:=.seq F91.t0 (.seq F91.t1 .ret)
def F91.b0:IR:=F91.t3
def F91.res:List RV:=[.t (.of 2)]
def F91:Fn:={ params:=[(.of 0)],res:=F91.res,body:=F91.b0,init:=in3 }
theorem F91.ok:fnA Tryz.prog Tryz.f91 [0,1,2]=some F91:=by kernel_rfl
abbrev F92.fr:=fr5
def F92.t0:IR:=.reg (dA [] 55136594319931)
def F92.t1:IR:=dI [] 16566736745944696887081452392533593
def F92.t3:IR:=.seq F92.t0 (.seq F92.t1 .ret)
def F92.b0:IR:=F92.t3
def F92.res:List RV:=[.cell (.of 4) (some 4)]
def F92:Fn:={ params:=[(.of 0),(.of 1)],res:=F92.res,body:=F92.b0,init:=in5 }
theorem F92.ok:fnA Tryz.prog Tryz.f92 [0,1,2,3,4]=some F92:=by kernel_rfl
abbrev F93.fr:=fr3
def F93.t0:IR:=.reg (dA [] 17405)
def F93.t1:IR:=.reg (dA [] 18415187947251521113)
def F93.t3:IR:=.seq F93.t0 (.seq F93.t1 .ret)
def F93.b0:IR:=F93.t3
def F93.res:List RV:=[.t (.of 2)]
def F93:Fn:={ params:=[(.of 0),(.of 1)],res:=F93.res,body:=F93.b0,init:=in3 }
theorem F93.ok:fnA Tryz.prog Tryz.f93 [0,1,4]=some F93:=by kernel_rfl
abbrev F94.fr:=fr4
def F94.t0:IR:=.reg (dA [] 557788447)
def F94.t1:IR:=dI [] 18930183841533489712974903565991893609860007882969
def F94.t3:IR:=.seq F94.t0 (.seq F94.t1 .ret)
def F94.b0:IR:=F94.t3
def F94.res:List RV:=[.t (.of 3)]
def F94:Fn:={ params:=[(.of 0),(.of 1)],res:=F94.res,body:=F94.b0,init:=in4 }
theorem F94.ok:fnA Tryz.prog Tryz.f94 [0,1,2,3]=some F94:=by kernel_rfl
abbrev F95.fr:=fr5
def F95.t0:IR:=.reg (dA [] 72831859579451)
def F95.t1:IR:=.reg (dA [] 471178545222542846478137)
def F95.t3:IR:=.seq F95.t0 (.seq F95.t1 .ret)
def F95.b0:IR:=F95.t3
def F95.res:List RV:=[.t (.of 4)]
def F95:Fn:={ params:=[(.of 0),(.of 1)],res:=F95.res,body:=F95.b0,init:=in5 }
theorem F95.ok:fnA Tryz.prog Tryz.f95 [0,1,2,3,4]=some F95:=by kernel_rfl
abbrev F96.fr:=fr5
def F96.t0:IR:=.reg (dA [] 55136594319931)
def F96.t1:IR:=dI [] 2752621361621608732635483276788213340922307253815210817433410030169177
def F96.t3:IR:=.seq F96.t0 (.seq F96.t1 .ret)
def F96.b0:IR:=F96.t3
def F96.res:List RV:=[.cell (.of 4) (some 4)]
def F96:Fn:={ params:=[(.of 0),(.of 1)],res:=F96.res,body:=F96.b0,init:=in5 }
theorem F96.ok:fnA Tryz.prog Tryz.f96 [0,1,2,3,4]=some F96:=by kernel_rfl
abbrev F97.fr:=fr4
def F97.t0:IR:=.reg (dA [] 722679071)
def F97.t1:IR:=.reg (dA [] 1271986177328003683174315917361085988228478224817)
def F97.t2:IR:=.reg (dA [] 16334409167)
def F97.t5:IR:=.seq F97.t0 (.seq F97.t1 (.seq F97.t2 .ret))
def F97.b0:IR:=F97.t5
def F97.res:List RV:=[.cell (.of 2) (some 2)]
def F97:Fn:={ params:=[(.of 0)],res:=F97.res,body:=F97.b0,init:=in4 }
theorem F97.ok:fnA Tryz.prog Tryz.f97 [0,1,2,3]=some F97:=by kernel_rfl
end
end Go.Ev
