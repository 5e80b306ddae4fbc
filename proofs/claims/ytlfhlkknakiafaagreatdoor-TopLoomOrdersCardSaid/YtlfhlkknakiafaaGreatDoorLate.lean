import Derived.Test.YtlfhlkknakiafaaGreatDoorRunKB
import Derived.Test.YtlfhlkknakiafaaGreatDoorRunKC
import Derived.Test.YtlfhlkknakiafaaGreatDoorRunKD
import Derived.Test.YtlfhlkknakiafaaGreatDoorRunKE
import Derived.Test.YtlfhlkknakiafaaGreatDoorRunKF
import Derived.Test.YtlfhlkknakiafaaGreatDoorRunKG
import Derived.Test.YtlfhlkknakiafaaGreatDoorRunKH
import Derived.Test.YtlfhlkknakiafaaGreatDoorRunKI
import Derived.Test.YtlfhlkknakiafaaGreatDoorRunKJ
import Derived.Test.YtlfhlkknakiafaaGreatDoorRunKPC
set_option linter.unusedSimpArgs false
set_option linter.unusedVariables false
namespace Go.Ev
open Go Go.Proofs
set_option maxRecDepth 100000
noncomputable def gNo:AV:=.tup [.agg [I 0,I 0,.zn],I 7]
theorem zvb:rk vH 17 [I 2] gNo=true:=by kernel_rfl
theorem zvc:rk vH 18 [I 2] gNo=true:=by kernel_rfl
theorem qdh:rk zc3 19 [] (.bool true)=true:=by kernel_rfl
theorem zvd (n:Nat) (h1:1<=n) (h2:n<=16) (h3:n≠2):∃ g p pe,zrn n g p pe:=by
  match n,h1,h2,h3 with
  | 1,_,_,_=>exact u3 pl_1 ch_1 (uN kg_1) (fun _=>uN kp_1)
  | 2,_,_,h=>exact absurd rfl h
  | 3,_,_,_=>exact u3 pl_3 ch_3 (uN kg_3) (fun h=>absurd h (by decide))
  | 4,_,_,_=>exact u3 pl_4 ch_4 (uN kg_4) (fun _=>uN kp_4)
  | 5,_,_,_=>exact u3 pl_5 ch_5 (uN kg_5) (fun _=>uN kp_5)
  | 6,_,_,_=>exact u3 pl_6 ch_6 (uN kg_6) (fun h=>absurd h (by decide))
  | 7,_,_,_=>exact u3 pl_7 ch_7 (uN kg_7) (fun _=>uN kp_7)
  | 8,_,_,_=>exact u3 pl_8 ch_8 (uN kg_8) (fun _=>uN kp_8)
  | 9,_,_,_=>exact u3 pl_9 ch_9 (uN kg_9) (fun h=>absurd h (by decide))
  | 10,_,_,_=>exact u3 qdi qdj (uN qdk) (fun h=>absurd h (by decide))
  | 11,_,_,_=>exact u3 qdl qdm (uN qdn) (fun _=>uN qdo)
  | 12,_,_,_=>exact u3 qdp qdq (uN qdr) (fun _=>uN qds)
  | 13,_,_,_=>exact u3 qdt qdu (uN qdv) (fun _=>uN qdw)
  | 14,_,_,_=>exact u3 qdx qdy (uN qdz) (fun h=>absurd h (by decide))
  | 15,_,_,_=>exact u3 qd0 qd1 (uN qd2) (fun h=>absurd h (by decide))
  | 16,_,_,_=>exact u3 qd3 qd4 (uN qd5) (fun _=>qd6)
  | 0,h,_,_=>exact absurd h (by omega)
  | n+17,_,h,_=>exact absurd h (by omega)
theorem zro {B a:Nat} (ha:a<256):Pure Tryz.prog B 4 [.int .u8 (a:Int)] (· = .bool true) :=
  zve ha zvd (fun {B}=>gF uS zvb) (fun {B}=>gF uS zvc) (fun {B}=>gF qS qdh)
end Go.Ev
