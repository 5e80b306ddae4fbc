import Derived.Test.YtlfhlkknakiafaaGreatDoorRunCA
import Derived.Test.YtlfhlkknakiafaaGreatDoorRunCB
import Derived.Test.YtlfhlkknakiafaaGreatDoorRunCC
import Derived.Test.YtlfhlkknakiafaaGreatDoorRunCD
import Derived.Test.YtlfhlkknakiafaaGreatDoorRunCE
import Derived.Test.YtlfhlkknakiafaaGreatDoorRunCF
import Derived.Test.YtlfhlkknakiafaaGreatDoorRunCG
import Derived.Test.YtlfhlkknakiafaaGreatDoorWordsb
import Derived.Test.YtlfhlkknakiafaaGreatDoorEvD
set_option linter.unusedSimpArgs false
set_option linter.unusedVariables false
noncomputable section
namespace Go.Ev
open Go Go.Proofs Classical
set_option maxRecDepth 100000
theorem mQ {n k:Nat} (h1:1<=n) (h2:n<=16) (hk:k<=2):jB n k=true:=by
  match n,h1,h2 with
  | 1,_,_=>match k,hk with
    | 0,_=>exact zl8
    | 1,_=>exact zmg
    | 2,_=>exact zmn
    | k+3,h=>exact absurd h (by omega)
  | 2,_,_=>match k,hk with
    | 0,_=>exact zmj
    | 1,_=>exact zl5
    | 2,_=>exact zmd
    | k+3,h=>exact absurd h (by omega)
  | 3,_,_=>match k,hk with
    | 0,_=>exact zl0
    | 1,_=>exact zl9
    | 2,_=>exact zmo
    | k+3,h=>exact absurd h (by omega)
  | 4,_,_=>match k,hk with
    | 0,_=>exact zmk
    | 1,_=>exact zma
    | 2,_=>exact zl6
    | k+3,h=>exact absurd h (by omega)
  | 5,_,_=>match k,hk with
    | 0,_=>exact zme
    | 1,_=>exact zl1
    | 2,_=>exact zmh
    | k+3,h=>exact absurd h (by omega)
  | 6,_,_=>match k,hk with
    | 0,_=>exact zmi
    | 1,_=>exact zl2
    | 2,_=>exact zmb
    | k+3,h=>exact absurd h (by omega)
  | 7,_,_=>match k,hk with
    | 0,_=>exact zmf
    | 1,_=>exact zl7
    | 2,_=>exact zmc
    | k+3,h=>exact absurd h (by omega)
  | 8,_,_=>match k,hk with
    | 0,_=>exact zml
    | 1,_=>exact zmp
    | 2,_=>exact zl3
    | k+3,h=>exact absurd h (by omega)
  | 9,_,_=>match k,hk with
    | 0,_=>exact zmm
    | 1,_=>exact zmq
    | 2,_=>exact zl4
    | k+3,h=>exact absurd h (by omega)
  | 10,_,_=>match k,hk with
    | 0,_=>exact zic
    | 1,_=>exact zih
    | 2,_=>exact zid
    | k+3,h=>exact absurd h (by omega)
  | 11,_,_=>match k,hk with
    | 0,_=>exact zh6
    | 1,_=>exact zh9
    | 2,_=>exact zia
    | k+3,h=>exact absurd h (by omega)
  | 12,_,_=>match k,hk with
    | 0,_=>exact zil
    | 1,_=>exact zii
    | 2,_=>exact zim
    | k+3,h=>exact absurd h (by omega)
  | 13,_,_=>match k,hk with
    | 0,_=>exact zio
    | 1,_=>exact zh7
    | 2,_=>exact zij
    | k+3,h=>exact absurd h (by omega)
  | 14,_,_=>match k,hk with
    | 0,_=>exact zie
    | 1,_=>exact zik
    | 2,_=>exact zib
    | k+3,h=>exact absurd h (by omega)
  | 15,_,_=>match k,hk with
    | 0,_=>exact ziq
    | 1,_=>exact zir
    | 2,_=>exact zh8
    | k+3,h=>exact absurd h (by omega)
  | 16,_,_=>match k,hk with
    | 0,_=>exact zin
    | 1,_=>exact zif
    | 2,_=>exact zh5
    | k+3,h=>exact absurd h (by omega)
  | 0,h,_=>exact absurd h (by omega)
  | n+17,_,h=>exact absurd h (by omega)
def rkG (J:JT) (f:Nat) (args:List AV) (res:AV):Bool:=nns args&&match (qZ noSl J tbl 100000 60).fn f (.of f) args .e .z endG with
  | .ok v=>aJ v res
  | .no _=>false
theorem zrp {J:JT} {f:Nat} {args:List AV} {res:AV} {B:Nat} (hJ:∀ B,JOk Tryz.prog B J) (h:rkG J f args res=true):Pure Tryz.prog B f args (· = res):=by
  unfold rkG at h
  rw [Bool.and_eq_true] at h
  obtain ⟨ha,h⟩:=h
  cases hq:(qZ noSl J tbl 100000 60).fn f (.of f) args .e .z endG with
  | no n=>rw [hq] at h;cases h
  | ok v =>
    rw [hq] at h
    have e:=wI h
    subst e
    exact zec zW mixed hJ ha hq
def kiG (f:Nat) (args:List AV):Option AV:=bif Nat.beq f 66 then (match args with
  | [.str s,v]=>match natA v with
    | some n=>bif Nat.ble 1 n&&Nat.ble n 16 then (bif j3 s (rQ 0) then some (sqV 0 n) else bif j3 s (rQ 1) then some (sqV 1 n) else bif j3 s (rQ 2) then some (sqV 2 n) else none) else none
    | none=>none
  | _=>none) else none
theorem zzw:FnOk Tryz.prog kiG:=by
  intro f args v h B
  unfold kiG at h
  cases hf:Nat.beq f 66 with
  | false=>rw [hf] at h;cases h
  | true =>
    obtain rfl:=Nat.eq_of_beq_eq_true hf
    rw [hf,cond_true] at h
    split at h
    case h_2=>cases h
    rename_i s v'
    split at h
    case h_2=>cases h
    rename_i n hn
    cases hb:(Nat.ble 1 n&&Nat.ble n 16) with
    | false=>rw [hb] at h;cases h
    | true =>
      rw [hb,cond_true] at h
      rw [Bool.and_eq_true] at hb
      have h1:=Nat.le_of_ble_eq_true hb.1
      have h2:=Nat.le_of_ble_eq_true hb.2
      rw [zkb hn]
      cases e0:j3 s (rQ 0) with
      | true=>rw [e0] at h;cases h;rw [pz.1 e0];exact gF uS (mQ h1 h2 (by decide))
      | false =>
        rw [e0,cond_false] at h
        cases e1:j3 s (rQ 1) with
        | true=>rw [e1] at h;cases h;rw [pz.1 e1];exact gF uS (mQ h1 h2 (by decide))
        | false =>
          rw [e1,cond_false] at h
          cases e2:j3 s (rQ 2) with
          | true=>rw [e2] at h;cases h;rw [pz.1 e2];exact gF uS (mQ h1 h2 (by decide))
          | false=>rw [e2] at h;cases h
def zc3:JT:=fnJ kiG vH
theorem qS (B:Nat):JOk Tryz.prog B zc3:=zrq zzw (uS B)
def kn (i:Nat):List UInt8:=match i with
  | 0=>norT | 1=>rQ 0 | 2=>rQ 1 | 3=>rQ 2 | 4=>assS | 5=>mpS | 6=>[98,111,114,100,101,114,101,100] | _=>[98,105,109,97,103,105,99]
def kL (l:List Nat):AV:=.lst 1 l.length (l.map fun i=>.str (kn i))
def kv (l:List Nat):AV:=.tup [kL l,I 0]
def r73 (n:Nat) (g:List Int) (l:List Nat):Bool:=rk zc3 73 [gV n g] (kv l)
def tabK (n:Nat) (g:List Int) (l:List Nat) (f:Nat):List (List AV×AV):=bif Nat.beq f 73 then [([gV n g],kv l)] else []
abbrev P73 (n:Nat) (g:List Int) (l:List Nat):Prop:=∀ B,Pure Tryz.prog B 73 [gV n g] (· = kv l)
theorem uN {n:Nat} {g:List Int} {l:List Nat} (h:r73 n g l=true):P73 n g l:=fun _=>gF qS h
theorem zvf {n:Nat} {g:List Int} {l:List Nat} (h:P73 n g l) (f:Nat):zqu Tryz.prog f (tabK n g l f):=by
  unfold tabK
  cases hf:Nat.beq f 73 with
  | false=>intro e he;cases he
  | true =>
    obtain rfl:=Nat.eq_of_beq_eq_true hf
    intro e he B
    rw [cond_true,List.mem_singleton] at he
    subst he
    exact h B
def r16 (n:Nat) (g:List Int) (l m:List Nat):Bool:=rk (zqs (tabK n g l) zkc) 16 [gV n g,kL m] (.bool true)
theorem pQ {B n:Nat} {g:List Int} {l m:List Nat} (h:P73 n g l) (h2:r16 n g l m=true):Pure Tryz.prog B 16 [gV n g,kL m] (· = .bool true):=gF (fun B=>zus (zvf h) (zbw B)) h2
def plB (n:Nat) (g:List Int):Bool:=decide (g.length=n*n)&&(decide (jI ((n*n:Nat):Int) (sqI 1 n)=0)&&(decide (sqI 1 n≠[])&&(((List.range n).all fun i=>decide ((sqI 1 n)[i]? = some (rwSq n i)))&&(((sqI 1 n).all fun l=>decide (l.length=n))&&(decide ((sqI 1 n).length<=34)&&(decide (g.any farL=false)&&decide (wS (sqI 1 n) g=List.replicate (sqI 1 n).length (conN n:Int))))))))
def chB (n:Nat) (g p:List Int) (pe:Int) (kg kp:List Nat):Bool :=
  rk vH 17 [I (n:Int)] (.tup [gV n g,I 0])&&(rk vH 18 [I (n:Int)] (.tup [if pe=0 then gV n p else .agg [I 0,I 0,.zn],I pe])&&(rkG zc3 12 [.str (rQ 1),I (n:Int)] (.tup [sqV 1 n,I 0])&&(rk vH 23 [I (n:Int)] (I (conN n:Int)) &&
  ((if pe=0 then r16 n p kp [0,3] else true)&&((if pe=0/\n%4=0 then r16 n p kp [5] else true)&&(r16 n g kg [0,1,2]&&(if n%4≠2 then r16 n g kg [4] else true)))))))
theorem u3 {n:Nat} {g p:List Int} {pe:Int} {kg kp:List Nat} (h1:plB n g=true) (h2:chB n g p pe kg kp=true) (h3:P73 n g kg) (h4:pe=0->P73 n p kp):∃ g p pe,zrn n g p pe:=by
  simp only [plB,Bool.and_eq_true,decide_eq_true_eq,List.all_eq_true,List.mem_range] at h1
  obtain ⟨a1,a2,a3,a4,a5,a6,a7,a8⟩:=h1
  simp only [chB,Bool.and_eq_true] at h2
  obtain ⟨b1,b2,b3,b4,b5,b6,b7,b8⟩:=h2
  exact ⟨g,p,pe,{
    gl:=a1
    m17:=fun {B}=>gF uS b1
    m18:=fun {B}=>gF uS b2
    k1:=fun e {B}=>pQ (h4 e) (by rw [if_pos e] at b5;exact b5)
    k2:=fun e c {B}=>pQ (h4 e) (by rw [if_pos ⟨e,c⟩] at b6;exact b6)
    k3:=fun {B}=>pQ h3 b7
    k4:=fun c {B}=>pQ h3 (by rw [if_pos c] at b8;exact b8)
    s12:=fun {B}=>zrp qS b3
    c23:=fun {B}=>gF uS b4
    sys:=a2
    ne:=a3
    rows:=a4
    len:=a5
    num:=a6
    far:=a7
    sums:=a8 }⟩
end Go.Ev
namespace Go.Ev
open Go Go.Proofs
set_option maxRecDepth 100000
def gN1:List Int:=[1]
def pN1:List Int:=[1]
def gN3:List Int:=[8,1,6,3,5,7,4,9,2]
def gN4:List Int:=[16,2,3,13,5,11,10,8,9,7,6,12,4,14,15,1]
def pN4:List Int:=[1,8,13,12,14,11,2,7,4,5,16,9,15,10,3,6]
def gN5:List Int:=[17,24,1,8,15,23,5,7,14,16,4,6,13,20,22,10,12,19,21,3,11,18,25,2,9]
def pN5:List Int:=[1,20,9,23,12,24,13,2,16,10,17,6,25,14,3,15,4,18,7,21,8,22,11,5,19]
def gN6:List Int:=[35,1,6,26,19,24,3,32,7,21,23,25,31,9,2,22,27,20,8,28,33,17,10,15,30,5,34,12,14,16,4,36,29,13,18,11]
def gN7:List Int:=[30,39,48,1,10,19,28,38,47,7,9,18,27,29,46,6,8,17,26,35,37,5,14,16,25,34,36,45,13,15,24,33,42,44,4,21,23,32,41,43,3,12,22,31,40,49,2,11,20]
def pN7:List Int:=[1,18,35,45,13,23,40,24,41,2,19,29,46,14,47,8,25,42,3,20,30,21,31,48,9,26,36,4,37,5,15,32,49,10,27,11,28,38,6,16,33,43,34,44,12,22,39,7,17]
def gN8:List Int:=[64,2,3,61,60,6,7,57,9,55,54,12,13,51,50,16,17,47,46,20,21,43,42,24,40,26,27,37,36,30,31,33,32,34,35,29,28,38,39,25,41,23,22,44,45,19,18,48,49,15,14,52,53,11,10,56,8,58,59,5,4,62,63,1]
def pN8:List Int:=[1,16,17,32,57,56,41,40,58,55,42,39,2,15,18,31,3,14,19,30,59,54,43,38,60,53,44,37,4,13,20,29,8,9,24,25,64,49,48,33,63,50,47,34,7,10,23,26,6,11,22,27,62,51,46,35,61,52,45,36,5,12,21,28]
def gN9:List Int:=[47,58,69,80,1,12,23,34,45,57,68,79,9,11,22,33,44,46,67,78,8,10,21,32,43,54,56,77,7,18,20,31,42,53,55,66,6,17,19,30,41,52,63,65,76,16,27,29,40,51,62,64,75,5,26,28,39,50,61,72,74,4,15,36,38,49,60,71,73,3,14,25,37,48,59,70,81,2,13,24,35]
def gN10:List Int:=[92,99,1,8,15,67,74,51,58,40,98,80,7,14,16,73,55,57,64,41,4,81,88,20,22,54,56,63,70,47,85,87,19,21,3,60,62,69,71,28,86,93,25,2,9,61,68,75,52,34,17,24,76,83,90,42,49,26,33,65,23,5,82,89,91,48,30,32,39,66,79,6,13,95,97,29,31,38,45,72,10,12,94,96,78,35,37,44,46,53,11,18,100,77,84,36,43,50,27,59]
def gN11:List Int:=[68,81,94,107,120,1,14,27,40,53,66,80,93,106,119,11,13,26,39,52,65,67,92,105,118,10,12,25,38,51,64,77,79,104,117,9,22,24,37,50,63,76,78,91,116,8,21,23,36,49,62,75,88,90,103,7,20,33,35,48,61,74,87,89,102,115,19,32,34,47,60,73,86,99,101,114,6,31,44,46,59,72,85,98,100,113,5,18,43,45,58,71,84,97,110,112,4,17,30,55,57,70,83,96,109,111,3,16,29,42,56,69,82,95,108,121,2,15,28,41,54]
def pN11:List Int:=[1,86,39,113,77,30,104,57,21,95,48,96,49,2,87,40,114,67,31,105,58,22,59,12,97,50,3,88,41,115,68,32,106,33,107,60,13,98,51,4,78,42,116,69,117,70,23,108,61,14,99,52,5,79,43,80,44,118,71,24,109,62,15,89,53,6,54,7,81,34,119,72,25,110,63,16,90,17,91,55,8,82,35,120,73,26,100,64,101,65,18,92,45,9,83,36,121,74,27,75,28,102,66,19,93,46,10,84,37,111,38,112,76,29,103,56,20,94,47,11,85]
def gN12:List Int:=[144,2,3,141,140,6,7,137,136,10,11,133,13,131,130,16,17,127,126,20,21,123,122,24,25,119,118,28,29,115,114,32,33,111,110,36,108,38,39,105,104,42,43,101,100,46,47,97,96,50,51,93,92,54,55,89,88,58,59,85,61,83,82,64,65,79,78,68,69,75,74,72,73,71,70,76,77,67,66,80,81,63,62,84,60,86,87,57,56,90,91,53,52,94,95,49,48,98,99,45,44,102,103,41,40,106,107,37,109,35,34,112,113,31,30,116,117,27,26,120,121,23,22,124,125,19,18,128,129,15,14,132,12,134,135,9,8,138,139,5,4,142,143,1]
def pN12:List Int:=[1,24,25,48,49,72,133,132,109,108,85,84,134,131,110,107,86,83,2,23,26,47,50,71,3,22,27,46,51,70,135,130,111,106,87,82,136,129,112,105,88,81,4,21,28,45,52,69,5,20,29,44,53,68,137,128,113,104,89,80,138,127,114,103,90,79,6,19,30,43,54,67,12,13,36,37,60,61,144,121,120,97,96,73,143,122,119,98,95,74,11,14,35,38,59,62,10,15,34,39,58,63,142,123,118,99,94,75,141,124,117,100,93,76,9,16,33,40,57,64,8,17,32,41,56,65,140,125,116,101,92,77,139,126,115,102,91,78,7,18,31,42,55,66]
def gN13:List Int:=[93,108,123,138,153,168,1,16,31,46,61,76,91,107,122,137,152,167,13,15,30,45,60,75,90,92,121,136,151,166,12,14,29,44,59,74,89,104,106,135,150,165,11,26,28,43,58,73,88,103,105,120,149,164,10,25,27,42,57,72,87,102,117,119,134,163,9,24,39,41,56,71,86,101,116,118,133,148,8,23,38,40,55,70,85,100,115,130,132,147,162,22,37,52,54,69,84,99,114,129,131,146,161,7,36,51,53,68,83,98,113,128,143,145,160,6,21,50,65,67,82,97,112,127,142,144,159,5,20,35,64,66,81,96,111,126,141,156,158,4,19,34,49,78,80,95,110,125,140,155,157,3,18,33,48,63,79,94,109,124,139,154,169,2,17,32,47,62,77]
def pN13:List Int:=[1,58,115,159,47,104,148,36,80,137,25,69,126,70,127,2,59,116,160,48,92,149,37,81,138,26,139,14,71,128,3,60,117,161,49,93,150,38,82,39,83,140,15,72,129,4,61,105,162,50,94,151,95,152,27,84,141,16,73,130,5,62,106,163,51,164,52,96,153,28,85,142,17,74,118,6,63,107,64,108,165,40,97,154,29,86,143,18,75,119,7,120,8,65,109,166,41,98,155,30,87,131,19,76,20,77,121,9,53,110,167,42,99,156,31,88,132,89,133,21,78,122,10,54,111,168,43,100,144,32,145,33,90,134,22,66,123,11,55,112,169,44,101,45,102,146,34,91,135,23,67,124,12,56,113,157,114,158,46,103,147,35,79,136,24,68,125,13,57]
def gN14:List Int:=[177,186,195,1,10,19,28,128,137,146,99,108,68,77,185,194,154,9,18,27,29,136,145,105,107,116,76,78,193,153,155,17,26,35,37,144,104,106,115,124,84,86,5,161,163,172,34,36,45,103,112,114,123,132,85,94,160,162,171,33,42,44,4,111,113,122,131,140,93,53,168,170,179,41,43,3,12,119,121,130,139,141,52,61,169,178,187,49,2,11,20,120,129,138,147,100,60,69,30,39,48,148,157,166,175,79,88,97,50,59,117,126,38,47,7,156,165,174,176,87,96,56,58,67,125,127,46,6,8,164,173,182,184,95,55,57,66,75,133,135,152,14,16,25,181,183,192,54,63,65,74,83,134,143,13,15,24,180,189,191,151,62,64,73,82,91,142,102,21,23,32,188,190,150,159,70,72,81,90,92,101,110,22,31,40,196,149,158,167,71,80,89,98,51,109,118]
def gN15:List Int:=[122,139,156,173,190,207,224,1,18,35,52,69,86,103,120,138,155,172,189,206,223,15,17,34,51,68,85,102,119,121,154,171,188,205,222,14,16,33,50,67,84,101,118,135,137,170,187,204,221,13,30,32,49,66,83,100,117,134,136,153,186,203,220,12,29,31,48,65,82,99,116,133,150,152,169,202,219,11,28,45,47,64,81,98,115,132,149,151,168,185,218,10,27,44,46,63,80,97,114,131,148,165,167,184,201,9,26,43,60,62,79,96,113,130,147,164,166,183,200,217,25,42,59,61,78,95,112,129,146,163,180,182,199,216,8,41,58,75,77,94,111,128,145,162,179,181,198,215,7,24,57,74,76,93,110,127,144,161,178,195,197,214,6,23,40,73,90,92,109,126,143,160,177,194,196,213,5,22,39,56,89,91,108,125,142,159,176,193,210,212,4,21,38,55,72,105,107,124,141,158,175,192,209,211,3,20,37,54,71,88,106,123,140,157,174,191,208,225,2,19,36,53,70,87,104]
def gN16:List Int:=[256,2,3,253,252,6,7,249,248,10,11,245,244,14,15,241,17,239,238,20,21,235,234,24,25,231,230,28,29,227,226,32,33,223,222,36,37,219,218,40,41,215,214,44,45,211,210,48,208,50,51,205,204,54,55,201,200,58,59,197,196,62,63,193,192,66,67,189,188,70,71,185,184,74,75,181,180,78,79,177,81,175,174,84,85,171,170,88,89,167,166,92,93,163,162,96,97,159,158,100,101,155,154,104,105,151,150,108,109,147,146,112,144,114,115,141,140,118,119,137,136,122,123,133,132,126,127,129,128,130,131,125,124,134,135,121,120,138,139,117,116,142,143,113,145,111,110,148,149,107,106,152,153,103,102,156,157,99,98,160,161,95,94,164,165,91,90,168,169,87,86,172,173,83,82,176,80,178,179,77,76,182,183,73,72,186,187,69,68,190,191,65,64,194,195,61,60,198,199,57,56,202,203,53,52,206,207,49,209,47,46,212,213,43,42,216,217,39,38,220,221,35,34,224,225,31,30,228,229,27,26,232,233,23,22,236,237,19,18,240,16,242,243,13,12,246,247,9,8,250,251,5,4,254,255,1]
def aK:List Int:=[1,32,33,64,65,96,97,128,241,240,209,208,177,176,145,144,242,239,210,207,178,175,146,143,2,31,34,63,66,95,98,127,3,30,35,62,67,94,99,126,243,238,211,206,179,174,147,142,244,237,212,205,180,173,148,141,4,29,36,61,68,93,100,125,5,28,37,60,69,92,101,124,245,236,213,204,181,172,149,140,246,235,214,203,182,171,150,139,6,27,38,59,70,91,102,123,7,26,39,58,71,90,103,122,247,234,215,202,183,170,151,138,248,233,216,201,184,169,152,137,8,25,40,57,72,89,104,121,16,17,48,49,80,81,112,113,256,225,224,193,192,161,160,129,255,226,223,194,191,162,159,130,15,18,47,50,79,82,111,114,14,19,46,51,78,83,110,115,254,227,222,195,190,163,158,131,253,228,221,196,189,164,157,132,13,20,45,52,77,84,109,116,12,21,44,53,76,85,108,117,252,229,220,197,188,165,156,133,251,230,219,198,187,166,155,134,11,22,43,54,75,86,107,118,10,23,42,55,74,87,106,119,250,231,218,199,186,167,154,135,249,232,217,200,185,168,153,136,9,24,41,56,73,88,105,120]
end Go.Ev
