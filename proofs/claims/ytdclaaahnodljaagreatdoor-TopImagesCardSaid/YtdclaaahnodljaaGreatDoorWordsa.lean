import Derived.Test.YtdclaaahnodljaaGreatDoorCodea
import Derived.Test.YtdclaaahnodljaaGreatDoorEvD
import GoSem.Core.Next
import Derived.Lib.Small
import Derived.Lib.Walk
import Derived.Deep.Draws
import Derived.Lib.Agree
import Derived.Shelf.SlLaysF
import Derived.Shelf.RegionOpenPlain
import Derived.WalkKit
import Derived.Deep.LoopGhost
import Derived.Test.YtdclaaahnodljaaGreatDoorProg
import Derived.Test.YtdclaaahnodljaaGreatDoorEvC
import Derived.Test.YtdclaaahnodljaaGreatDoorLaws
import Derived.Sort.Grow
import Derived.Sort.Row
import Derived.KernelRfl
import Derived.Shelf.SlSortCmp.Whole1
import Derived.Deep.Slices
import Derived.Shelf.SlSortCmp.InsertionK
import Derived.Shelf.SlSortCmp.WholeK
set_option linter.unusedSimpArgs false
set_option linter.unusedVariables false
noncomputable section
namespace Go.Ev
open Go Go.Proofs
theorem yh {B:Nat}:bF Tryz.prog B Prop:=zbq mixed
variable {B:Nat}
theorem pO {a b:List Int} (ha:a.length<=1000000000):Pure Tryz.prog B 24 [encI a,encI b] (· = .bool (decide (a=b))):=by
 intro p h nx K hK;refine zP zR yh (a.length+2) fun hf => ?_;rw [F24.go];simp (disch:=omega) only [jk,sD,sV,rG,qm,jl,sO,xk,sH,zZ,zW,zH,zJ,jN,yQ,yY,jU,yV,jK,jL,gZ,gJ,gB,gI,zO,jJ,yU,zI,decide_true,decide_false,Zaf,Zag,jX];by_cases hl:a.length=b.length
 ·simp only [hl,decide_true,Zaf,zJ];refine F24.L2 (fun m z3 h' nx'=>∃ i:Nat,z3=I i/\m=a.length-i/\i<=a.length/\h'=h/\nx'=nx/\a.take i=b.take i) (m:=a.length) (by omega) ⟨0,rfl,by simp,by omega,rfl,rfl,by simp⟩ ?_;rintro m z2 z3 z5 z6 _ _ R ⟨i,rfl,rfl,hi,rfl,rfl,htk⟩ hR;simp (disch:=omega) only [jk,sD,sV,rG,qm,jl,sO,xk,sH,zZ,zW,zH,zJ,jN,yQ,yY,jU,yV,jK,jL,gZ,gJ,gB,gI,zO,jJ,yU,zI,decide_true,decide_false,Zaf,Zag,jX];by_cases hlt:i<a.length
  ·have h1:(i:Int)<a.length:=by omega
   have hb:i<b.length:=by omega
   simp only [h1,decide_true,zH];rw [xu rfl hlt,ldL (fD (List.getElem?_eq_getElem hlt)),xu rfl hb,ldL (fD (List.getElem?_eq_getElem hb))];simp (disch:=omega) only [jk,sD,sV,rG,qm,jl,sO,xk,sH,zZ,zW,zH,zJ,jN,yQ,yY,jU,yV,jK,jL,gZ,gJ,gB,gI,zO,jJ,yU,zI,decide_true,decide_false,Zaf,Zag,jX];by_cases he:a[i]=b[i]
   ·simp only [he,decide_true,Zaf,zJ];refine hR (a.length-(i+1)) _ _ _ _ _ _ (by omega) ⟨i+1,rfl,rfl,by omega,rfl,rfl,?_⟩;rw [Zan,Zan,htk,List.getElem?_eq_getElem hlt,List.getElem?_eq_getElem hb,he]
   ·simp only [he,decide_false,Zag,zH];refine hK _ ?_ hf;rw [decide_eq_false];rintro rfl;exact he rfl
  ·have h1:¬ (i:Int)<a.length:=by omega
   simp only [h1,decide_false,zJ];rw [F24.k9];refine hK _ ?_ hf;rw [Zal (by omega),Zal (by omega)] at htk;rw [decide_eq_true htk]
 ·have h1:¬ (a.length:Int)=b.length:=by omega
  simp only [h1,decide_false,Zag,zH];refine hK _ ?_ hf;rw [decide_eq_false];rintro rfl;exact hl rfl
end Go.Ev
namespace Go.Ev
open Go Go.Proofs
variable {B:Nat}
theorem zuf (b:Bool) (e:Int):Pure Tryz.prog B 44 [.bool b,I e] (· = I (if b then e else 0)):=by
 intro p h nx K hK;refine zP zR yh 9 fun hf => ?_;rw [F44.go];cases b <;> simp (disch:=omega) only [jk,sD,sV,rG,qm,jl,sO,xk,sH,zZ,zW,zH,zJ,jN,yQ,yY,jU,yV,jK,jL,gZ,gJ,gB,gI,zO,jJ,yU,zI,decide_true,decide_false,Zaf,Zag,jX] <;> exact hK _ rfl hf
def wT:List Int->Int
 | []=>0
 | e::l=>if e≠0 then e else wT l
theorem qO:∀ (l:List Int) (i:Nat),(∀ e∈l.take i,e=0)->wT l=wT (l.drop i)
 | l,0,_=>rfl
 | [],_+1,_=>rfl
 | e::l,i+1,h=>by
  have h0:e=0:=h e (by simp);rw [wT,if_neg (by simp [h0]),List.drop_succ_cons];exact qO l i fun x hx=>h x (by simp [hx])
theorem zps {l:List Int} (hl:l.length<=1000000):Pure Tryz.prog B 42 [encI l] (· = I (wT l)):=by
 intro p h nx K hK;refine zP zR yh 10000000 fun hf => ?_;rw [F42.go];simp (disch:=omega) only [jk,sD,sV,rG,qm,jl,sO,xk,sH,zZ,zW,zH,zJ,jN,yQ,yY,jU,yV,jK,jL,gZ,gJ,gB,gI,zO,jJ,yU,zI,decide_true,decide_false,Zaf,Zag,jX];refine F42.L1 (fun m z5 h' nx'=>∃ i:Nat,z5=I i/\l.length-i=m/\i<=l.length/\h'=h/\nx'=nx/\∀ e∈l.take i,e=0) (m:=l.length) (by omega) ⟨0,rfl,rfl,by omega,rfl,rfl,by simp⟩ ?_;rintro m z1 z2 z5 z6 z7 _ _ R ⟨i,rfl,rfl,hi,rfl,rfl,htk⟩ hR;simp (disch:=omega) only [jk,sD,sV,rG,qm,jl,sO,xk,sH,zZ,zW,zH,zJ,jN,yQ,yY,jU,yV,jK,jL,gZ,gJ,gB,gI,zO,jJ,yU,zI,decide_true,decide_false,Zaf,Zag,jX];by_cases hlt:i<l.length
 ·simp only [show (i:Int)<(l.length:Int) by omega,decide_true,zH];have hx:l[i]? = some l[i]:=List.getElem?_eq_getElem hlt;rw [xu rfl hlt,ldL (fD hx)];simp (disch:=omega) only [jk,sD,sV,rG,qm,jl,sO,xk,sH,zZ,zW,zH,zJ,jN,yQ,yY,jU,yV,jK,jL,gZ,gJ,gB,gI,zO,jJ,yU,zI,decide_true,decide_false,Zaf,Zag,jX];have hd:l.drop i=l[i]::l.drop (i+1):=Zar hlt;by_cases h0:l[i]=0
  ·simp only [h0,decide_true,Zaf,zJ];refine hR _ _ _ _ _ _ _ _ (by omega) ⟨i+1,rfl,rfl,by omega,rfl,rfl,fun e he => ?_⟩;rw [Zan,hx] at he;rcases List.mem_append.1 he with q | q
   ·exact htk e q
   ·simp at q;rw [q];exact h0
  ·simp only [h0,decide_false,Zag,zH];refine hK _ ?_ hf;rw [qO l i htk,hd,wT,if_pos h0]
 ·simp only [show ¬ (i:Int)<(l.length:Int) by omega,decide_false,zJ];rw [F42.k8];refine hK _ ?_ hf;rw [qO l i htk,Zbk (by omega)];rfl
theorem zf6 {a b:List Int} (ha:a.length<=1000000000):Pure Tryz.prog B 190 [encI a,encI b] (· = .bool (decide (a=b))):=by
 intro p h nx K hK;refine zP zR yh (a.length+2) fun hf => ?_;rw [gu.go];simp (disch:=omega) only [jk,sD,sV,rG,qm,jl,sO,xk,sH,zZ,zW,zH,zJ,jN,yQ,yY,jU,yV,jK,jL,gZ,gJ,gB,gI,zO,jJ,yU,zI,decide_true,decide_false,Zaf,Zag,jX];by_cases hl:a.length=b.length
 ·simp only [hl,decide_true,Zaf,zJ];refine gu.L2 (fun m z6 h' nx'=>∃ i:Nat,z6=I i/\a.length-i=m/\i<=a.length/\h'=h/\nx'=nx/\a.take i=b.take i) (m:=a.length) (by omega) ⟨0,rfl,by simp,by omega,rfl,rfl,by simp⟩ ?_;rintro m z2 z3 z6 z7 z8 _ _ R ⟨i,rfl,rfl,hi,rfl,rfl,htk⟩ hR;simp (disch:=omega) only [jk,sD,sV,rG,qm,jl,sO,xk,sH,zZ,zW,zH,zJ,jN,yQ,yY,jU,yV,jK,jL,gZ,gJ,gB,gI,zO,jJ,yU,zI,decide_true,decide_false,Zaf,Zag,jX];by_cases hlt:i<a.length
  ·have hb:i<b.length:=by omega
   simp only [show (i:Int)<(b.length:Int) by omega,decide_true,zH];rw [xu rfl hlt,ldL (fD (List.getElem?_eq_getElem hlt)),xu rfl hb,ldL (fD (List.getElem?_eq_getElem hb))];simp (disch:=omega) only [jk,sD,sV,rG,qm,jl,sO,xk,sH,zZ,zW,zH,zJ,jN,yQ,yY,jU,yV,jK,jL,gZ,gJ,gB,gI,zO,jJ,yU,zI,decide_true,decide_false,Zaf,Zag,jX];by_cases he:a[i]=b[i]
   ·simp only [he,decide_true,Zaf,zJ];refine hR (a.length-(i+1)) _ _ _ _ _ _ _ (by omega) ⟨i+1,rfl,rfl,by omega,rfl,rfl,?_⟩;rw [Zan,Zan,htk,List.getElem?_eq_getElem hlt,List.getElem?_eq_getElem hb,he]
   ·simp only [he,decide_false,Zag,zH];refine hK _ ?_ hf;rw [decide_eq_false];rintro rfl;exact he rfl
  ·simp only [show ¬ (i:Int)<(b.length:Int) by omega,decide_false,zJ];rw [gu.k9];refine hK _ ?_ hf;rw [Zal (by omega),Zal (by omega)] at htk;rw [decide_eq_true htk]
 ·have h1:¬ (a.length:Int)=b.length:=by omega
  simp only [h1,decide_false,Zag,zH];refine hK _ ?_ hf;rw [decide_eq_false];rintro rfl;exact hl rfl
def zb5 (cells:Int):Option Int->List Int->Int
 | _,[]=>0
 | p,c::l=>if c<0\/cells<=c then 10 else if p.any (fun q=>decide (c<=q)) then 11 else zb5 cells (some c) l
def zj7 (cells:Int) (prev:List (List Int)) (l:List Int):Int:=if l=[] then 12 else if zb5 cells none l≠0 then zb5 cells none l else if l∈prev then 9 else 0
def zf7 (cells:Int):List (List Int)->List (List Int)->Int
 | _,[]=>0
 | prev,l::r=>if zj7 cells prev l≠0 then zj7 cells prev l else zf7 cells (prev++[l]) r
def zer (cells:Int) (lines:List (List Int)):Int:=if cells<1\/256<cells then 3 else if 128<lines.length then 5 else zf7 cells [] lines
theorem d4 {P:Program} {f:Nat} {p id:Pa} {h0 h:T Blk} {nx:Pa} {L:List Ob} {k:Nat} {l:List Int} {K:Kw Prop} {Q:AV->Prop} (H:Hp h0 h nx L) (hk:L[k]? = some (.arr id (l.map I))) (hq:∀ B,Pure P B f [encI l] Q) (hpl:∀ v,Q v->Plain v)
  (hK:∀ v,Q v->K v h nx=.ok True):(CS P B).fn f p [.sl id 0 l.length (some l.length) 1] h nx K=.ok True :=
 zbs (.cons (yx.frz (H.own _ (Zab hk)) (T.cu _ id) (Zai _) (by simp) fun v hv=>by obtain ⟨x,_,rfl⟩:=List.mem_map.1 hv;rfl) .nil) (by
  have:=uH l;simp only [nns,rD.nn this,Bool.and_self]) hq hpl fun v hv _=>hK v hv
theorem m6 {h:T Blk} {nx:Pa} {l:List Int} {g:Nat} {p q:Pa} {cap:List AV} {pr:Int->Bool} {K:Kw Prop} (hl:l.length<=1000000) (hcl:∀ x∈l,∀ K:Kw Prop,K (.bool (pr x)) h nx=.ok True->(CS Tryz.prog B).fn g q (I x::cap) h nx K=.ok True)
  (hK:K (.bool (l.any pr)) h nx=.ok True):(CS Tryz.prog B).fn 66 p [encI l,.fn g q cap] h nx K=.ok True:=by
 refine jB (p:=.of 66) (K:=K) (zP zR yh 9 fun hf => ?_) fun _ _ _ _ q=>q;rw [F66.go];refine jB (p:=.of 127) (K:=fun v1 h2 n3=>zh .geq .int v1 (I 0) fun v4=>K v4 h2 n3) (zP zR yh 10000000 fun hf => ?_) fun _ _ _ _ q=>q;rw [ug.go];simp (disch:=omega) only [jk,sD,sV,rG,qm,jl,sO,xk,sH,zZ,zW,zH,zJ,jN,yQ,yY,jU,yV,jK,jL,gZ,gJ,gB,gI,zO,jJ,yU,zI,decide_true,decide_false,Zaf,Zag,jX];refine ug.L1 (fun m z5 h' nx'=>∃ i:Nat,z5=I i/\l.length-i=m/\i<=l.length/\h'=h/\nx'=nx/\(l.take i).any pr=false) (m:=l.length) (by omega) ⟨0,rfl,rfl,by omega,rfl,rfl,by simp⟩ ?_;rintro m z2 z3 z5 z6 z7 _ _ R ⟨i,rfl,rfl,hi,rfl,rfl,htk⟩ hR;simp (disch:=omega) only [jk,sD,sV,rG,qm,jl,sO,xk,sH,zZ,zW,zH,zJ,jN,yQ,yY,jU,yV,jK,jL,gZ,gJ,gB,gI,zO,jJ,yU,zI,decide_true,decide_false,Zaf,Zag,jX];by_cases hlt:i<l.length
 ·simp only [show (i:Int)<(l.length:Int) by omega,decide_true,zH];have hx:l[i]? = some l[i]:=List.getElem?_eq_getElem hlt;rw [xu rfl hlt,ldL (fD hx),uN];refine hcl _ (Zak hlt) _ ?_;cases he:pr l[i] with
  | true =>
   simp only [zH,sH,show (0:Int)<=(i:Int) by omega,decide_true];rw [List.any_eq_true.2 ⟨_,Zak hlt,he⟩] at hK;exact hK
  | false =>
   simp only [zJ];refine hR _ _ _ _ _ _ _ _ (by omega) ⟨i+1,rfl,rfl,by omega,rfl,rfl,?_⟩;rw [Zan,hx,List.any_append,htk];simp [he]
 ·simp only [show ¬ (i:Int)<(l.length:Int) by omega,decide_false,zJ];rw [ug.k8];rw [Zal (by omega)] at htk;rw [htk] at hK;simp only [sH,show ¬ (0:Int) <= -1 by omega,decide_false];exact hK
theorem zj8 {a b:Int} {l:List Int} (hl:l.length<=1000000):Pure Tryz.prog B 70 [I a,I b,encI l] (· = I (if l.any (fun x=>decide (x<a)||decide (b<x)) then 3 else 0)):=by
 refine yE fun h nx K H0 hK=>zP zR yh 1000 fun hf => ?_;rw [F70.go];refine H0.box (l:=[I a]) rfl fun x1 h1 nx1 H1 => ?_;refine H1.box (l:=[I b]) rfl fun x2 h2 nx2 H2 => ?_;refine m6 (pr:=fun x=>decide (x<a)||decide (b<x)) hl (fun x _ K hK => ?_) ?_
 ·refine jB (p:=.of 131) (K:=K) (zP zR yh 9 fun hf => ?_) fun _ _ _ _ q=>q;show zQ tbl 9 _ (Pa.of 131) [I x,.ptr x1 0,.ptr x2 0] _ _ _=_;rw [oQ.go,H2.load (k:=1) (i:=0) rfl rfl];by_cases c:x<a
  ·simp only [jl,c,decide_true,yY,zZ];simpa [c] using hK
  ·simp only [jl,c,decide_false,yQ];rw [H2.load (k:=0) (i:=0) rfl rfl];simp only [xk,zW];simpa [c] using hK
 ·refine zuf _ _ _ _ _ _ ?_;rintro _ rfl _;exact hK _ _ _ _ _ H2 (zL rfl) rfl
end Go.Ev
namespace Go.Ev
def AscL (cells:Nat) (l:List Int):Prop:=l≠[]/\l.Pairwise (· < ·)/\∀ c∈l,0<=c/\c<(cells:Int)
abbrev srt (l:List Int):List Int:=l.mergeSort fun x y=>decide (x<=y)
theorem pM {l l':List Int} (hp:l'.Perm l) (hs:l'.Pairwise (· <= ·)):l'=srt l:=by
 refine (hp.trans (List.mergeSort_perm l _).symm).eq_of_pairwise (le:=(· <= ·)) ?_ hs ?_
 ·intro a b _ _ h1 h2;omega
 ·have:=List.pairwise_mergeSort (le:=fun x y:Int=>decide (x<=y)) (by intro a b c;simp;omega) (by intro a b;simp;omega) l;exact this.imp (by intro a b h;simpa using h)
theorem wH (l:List Int):(srt l).Perm l:=List.mergeSort_perm l _
structure Ins (l out:List Int) (i k:Nat):Prop where
 perm:out.Perm l
 ex:∃ (A:List Int) (x:Int) (B R:List Int),out=A++x::(B++R)/\A.length=k/\A.length+B.length=i/\(A++B).Pairwise (· <= ·)/\∀ b∈B,x<b
theorem Ins.start {l out:List Int} {i:Nat} (hp:out.Perm l) (hi:i<out.length) (hs:(out.take i).Pairwise (· <= ·)):Ins l out i i :=
 ⟨hp,out.take i,out[i],[],out.drop (i+1),by simp,by simp;omega,by simp;omega,by simpa using hs,by simp⟩
theorem Ins.swap {l out:List Int} {i k:Nat} (H:Ins l out i (k+1)) {a x:Int} (ha:out[k]? = some a) (hx:out[k+1]? = some x) (hlt:x<a):Ins l ((out.set (k+1) a).set k x) i k:=by
 obtain ⟨hp,A,x',B,R,rfl,hA,hi,hs,hb⟩:=H;obtain ⟨A,a',rfl⟩:∃ A' a',A=A'++[a']:=⟨A.dropLast,A.getLast (by intro q;rw [q] at hA;simp at hA),(List.dropLast_concat_getLast _).symm⟩;have hA':A.length=k:=by simpa using hA
 have e1:a'=a:=by
  rw [Zcg,List.getElem?_append_right (by omega),hA',Nat.sub_self] at ha;simpa using ha
 have e2:x'=x:=by
  rw [List.getElem?_append_right (by simp;omega)] at hx;simp [hA'] at hx;exact hx
 subst e1 e2;have e3:((A++[a']++x'::(B++R)).set (k+1) a').set k x'=A++x'::((a'::B)++R):=by
  have h1:(A++[a']++x'::(B++R)).set (k+1) a'=A++a'::a'::(B++R):=by
   rw [Zcg,List.set_append_right _ _ (by omega),hA',show k+1-k=1 by omega];rfl
  rw [h1,List.set_append_right _ _ (by omega),hA',Nat.sub_self];rfl
 rw [e3];refine ⟨List.Perm.trans ?_ hp,A,x',a'::B,R,rfl,hA',by simp at hi ⊢;omega,by simpa [Zcg] using hs,?_⟩
 ·rw [Zcg];refine List.Perm.append_left A ?_;exact List.Perm.swap _ _ _
 ·intro b hb';rcases List.mem_cons.1 hb' with rfl | q
  ·exact hlt
  ·exact hb b q
theorem Ins.done {l out:List Int} {i k:Nat} (H:Ins l out i k) (h:k=0\/∃ j a x,k=j+1/\out[j]? = some a/\out[k]? = some x/\¬ x<a):out.Perm l/\(out.take (i+1)).Pairwise (· <= ·):=by
 obtain ⟨hp,A,x,B,R,rfl,hA,hi,hs,hb⟩:=H;refine ⟨hp,?_⟩;have e:(A++x::(B++R)).take (i+1)=A++x::B:=by
  rw [show A++x::(B++R)=(A++x::B)++R by simp];exact List.take_left' (by simp;omega)
 rw [e];have hs':=List.pairwise_append.1 hs;refine List.pairwise_append.2 ⟨hs'.1,List.pairwise_cons.2 ⟨fun b hb'=>by have:=hb b hb';omega,hs'.2.1⟩,?_⟩;have key:∀ a∈A,a<=x:=by
  rcases h with rfl | ⟨j,a0,x0,rfl,h1,h2,h3⟩
  ·obtain rfl:A=[]:=Zbe hA;simp
  ·obtain ⟨A,a',rfl⟩:∃ A' a',A=A'++[a']:=⟨A.dropLast,A.getLast (by intro q;rw [q] at hA;simp at hA),(List.dropLast_concat_getLast _).symm⟩;have hA':A.length=j:=by simpa using hA
   have e1:a'=a0:=by
    rw [Zcg,List.getElem?_append_right (by omega),hA',Nat.sub_self] at h1;simpa using h1
   have e2:x=x0:=by
    rw [List.getElem?_append_right (by simp;omega)] at h2;simp [hA'] at h2;exact h2
   subst e1 e2;intro a ha;rcases List.mem_append.1 ha with q | q
   ·have:=(List.pairwise_append.1 hs'.1).2.2 a q a' (by simp);omega
   ·simp at q;omega
 intro a ha b hb';rcases List.mem_cons.1 hb' with rfl | q
 ·exact key a ha
 ·exact hs'.2.2 a ha b q
def incr (d:List Int) (c:Int):List Int:=d.set c.toNat (d.getD c.toNat 0+1)
@[simp] theorem zwq (d:List Int) (c:Int):(incr d c).length=d.length:=by simp [incr]
def Bd (d:List Int) (M:Nat):Prop:=∀ v∈d,0<=v/\v<=(M:Int)
theorem Bd.incr {d:List Int} {M:Nat} (h:Bd d M) {c:Int} (hc:c.toNat<d.length):Bd (incr d c) (M+1):=by
 intro v hv;rcases List.mem_or_eq_of_mem_set hv with q | rfl
 ·have:=h v q;omega
 ·rw [Zaa,List.getElem?_eq_getElem hc];have:=h _ (Zak hc);simp only [Option.getD_some];omega
theorem Bd.mono {d:List Int} {M N:Nat} (h:Bd d M) (hm:M<=N):Bd d N:=fun v hv=>by have:=h v hv;omega
theorem Bd.line {W:Nat}:∀ {l d:List Int} {M:Nat},Bd d M->(∀ c∈l,c.toNat<d.length)->l.length<=W->Bd (l.foldl Ev.incr d) (M+W)
 | [],d,M,h,_,_=>h.mono (by omega)
 | c::l,d,M,h,hc,hl=>by
  rw [Zci];simp only [Zbr] at hl;have:=Bd.line (W:=W-1) (l:=l) (h.incr (hc c (by simp))) (fun x hx=>by simpa using hc x (by simp [hx])) (by omega);exact this.mono (by omega)
theorem Bd.srt {d:List Int} {M:Nat} (h:Bd d M):Bd (Ev.srt d) M:=fun v hv=>h v ((wH d).mem_iff.1 hv)
@[simp] theorem ziq (d:List Int):(Ev.srt d).length=d.length:=(wH d).length_eq
def jC:List Int->List Int->Bool
 | _,[]=>false
 | [],_::_=>true
 | a::xs,b::ys=>if a=b then jC xs ys else decide (a<b)
theorem pU:∀ (i:Nat) (a b:List Int),a.take i=b.take i->i<=a.length->i<=b.length->jC a b=jC (a.drop i) (b.drop i)
 | 0,a,b,_,_,_=>rfl
 | i+1,a::xs,b::ys,h,h1,h2=>by
  simp only [List.take_succ_cons,List.cons.injEq] at h;rw [jC,if_pos h.1,List.drop_succ_cons,List.drop_succ_cons];exact pU i xs ys h.2 (by simpa using h1) (by simpa using h2)
 | i+1,[],_,_,h1,_=>by simp at h1
 | i+1,_::_,[],_,_,h2=>by simp at h2
def cmpL (a b:List Int):Int:=if jC a b then -1 else if a=b then 0 else 1
def Nrm (f:List Int):Prop:=f.Nodup/\∀ x∈f,1<=x/\x<=(f.length:Int)
theorem mG:∀ (l r:List Int),l.Nodup->(∀ x∈l,x∈r)->∃ s,r.Perm (l++s)
 | [],r,_,_=>⟨r,.refl _⟩
 | a::l,r,hn,hs=>by
  obtain ⟨h1,h2⟩:=List.nodup_cons.1 hn;have ha:=hs a (by simp);obtain ⟨s,hp⟩:=mG l (r.erase a) h2 fun x hx=>(List.mem_erase_of_ne (by rintro rfl;exact h1 hx)).2 (hs x (by simp [hx]));exact ⟨s,(List.perm_cons_erase ha).trans (.cons a hp)⟩
abbrev upTo (n:Nat):List Int:=(List.range n).map fun (i:Nat)=>(i:Int)+1
theorem zf8 (n:Nat):(upTo n).Pairwise (· <= ·):=by
 rw [Zbp];exact List.pairwise_lt_range.imp (by intro a b h;omega)
theorem zir (n:Nat):(upTo n).Nodup:=by
 rw [List.Nodup,Zbp];exact List.pairwise_lt_range.imp (by intro a b h;omega)
theorem mO (f:List Int):srt f=upTo f.length↔Nrm f:=by
 constructor
 ·intro h;have hp:(upTo f.length).Perm f:=h ▸ wH f;refine ⟨hp.nodup_iff.1 (zir _),fun x hx => ?_⟩;have:=hp.mem_iff.2 hx;obtain ⟨i,hi,rfl⟩:=List.mem_map.1 this;have:=List.mem_range.1 hi;omega
 ·rintro ⟨h1,h2⟩;obtain ⟨s,hs⟩:=mG f (upTo f.length) h1 fun x hx=>by
   obtain ⟨q1,q2⟩:=h2 x hx;exact List.mem_map.2 ⟨(x-1).toNat,List.mem_range.2 (by omega),by omega⟩
  have hl:=hs.length_eq;obtain rfl:s=[]:=Zbe (by rw [Zat,Zas,List.length_range] at hl;omega);rw [Zch] at hs;exact (pM hs (zf8 _)).symm
def Rv (l cur:List Int) (i:Nat):Prop:=cur.length=l.length/\∀ t,t<l.length->cur[t]? = if t<i\/l.length<=t+i then l[l.length-1-t]? else l[t]?
theorem Rv.start (l:List Int):Rv l l 0:=⟨rfl,fun t ht=>by rw [if_neg (by omega)]⟩
theorem Rv.done {l cur:List Int} {i:Nat} (h:Rv l cur i) (hi:l.length<=2*i+1):cur=l.reverse:=by
 refine Zau fun t => ?_;by_cases ht:t<l.length
 ·rw [h.2 t ht,List.getElem?_reverse ht];by_cases c:t<i\/l.length<=t+i
  ·rw [if_pos c]
  ·rw [if_neg c,show l.length-1-t=t by omega]
 ·rw [List.getElem?_eq_none (by rw [h.1];omega),List.getElem?_eq_none (by simp;omega)]
theorem Rv.step {l cur:List Int} {i j:Nat} {a b:Int} (h:Rv l cur i) (hij:i<j) (hs:i+j+1=l.length) (ha:cur[i]? = some a) (hb:cur[j]? = some b):Rv l ((cur.set i b).set j a) (i+1):=by
 obtain ⟨hl,hg⟩:=h;refine ⟨by simp [hl],fun t ht => ?_⟩;have e1:=hg i (by omega);have e2:=hg j (by omega);rw [if_neg (by omega),ha] at e1;rw [if_neg (by omega),hb] at e2;rw [List.getElem?_set,List.getElem?_set,List.length_set];by_cases c1:j=t
 ·subst c1;rw [if_pos rfl,if_pos (by omega),if_pos (by omega),show l.length-1-j=i by omega];exact e1
 ·rw [if_neg c1];by_cases c2:i=t
  ·subst c2;rw [if_pos rfl,if_pos (by omega),if_pos (by omega),show l.length-1-i=j by omega];exact e2
  ·rw [if_neg c2,hg t ht];by_cases c3:t<i\/l.length<=t+i
   ·rw [if_pos c3,if_pos (by omega)]
   ·rw [if_neg c3,if_neg (by omega)]
end Go.Ev
namespace Go.Ev
open Go Go.Proofs
variable {B:Nat}
theorem mV (x:Int):Pure Tryz.prog B 261 [I x] (· = .bool false):=by
 intro p h nx K hK;refine zP zR yh 9 fun hf => ?_;rw [oZ.go];simp only [qm,decide_true,Zaf];exact hK _ rfl hf
theorem zyk (x y:Int):Pure Tryz.prog B 217 [I x,I y] (· = I (if x<y then -1 else if x=y then 0 else 1)):=by
 intro p h nx K hK;refine zP zR yh 9 fun hf => ?_;rw [rJ.go];refine mV x _ _ _ _ ?_;rintro _ rfl _;refine mV y _ _ _ _ ?_;rintro _ rfl _;simp only [zJ,jl];by_cases c1:x<y
 ·simp only [c1,decide_true,zH];exact hK _ (by rw [if_pos c1]) hf
 ·simp only [c1,decide_false,zJ,xk];by_cases c2:y<x
  ·simp only [c2,decide_true,zH];exact hK _ (by rw [if_neg c1,if_neg (by omega)]) hf
  ·simp only [c2,decide_false,zJ];exact hK _ (by rw [if_neg c1,if_pos (by omega)]) hf
theorem zlz {a b:List Int} (ha:a.length<=1000000) (hb:b.length<=1000000):Pure Tryz.prog B 161 [encI a,encI b] (· = I (cmpL a b)):=by
 intro p h nx K hK;refine zP zR yh 10000000 fun hf => ?_;rw [jy.go];simp (disch:=omega) only [jk,sD,sV,rG,qm,jl,sO,xk,sH,zZ,zW,zH,zJ,jN,yQ,yY,jU,yV,jK,jL,gZ,gJ,gB,gI,zO,jJ,yU,zI,decide_true,decide_false,Zaf,Zag,jX];refine jy.L1 (fun m z9 h' nx'=>∃ i:Nat,z9=I i/\a.length-i=m/\i<=a.length/\i<=b.length/\h'=h/\nx'=nx/\a.take i=b.take i) (m:=a.length) (by omega) ⟨0,rfl,rfl,by omega,by omega,rfl,rfl,rfl⟩ ?_;rintro m z2 z3 z4 z5 z6 z9 z10 z11 z12 _ _ R ⟨i,rfl,rfl,hi,hib,rfl,rfl,htk⟩ hR;have hsk:=pU i a b htk hi hib;simp (disch:=omega) only [jk,sD,sV,rG,qm,jl,sO,xk,sH,zZ,zW,zH,zJ,jN,yQ,yY,jU,yV,jK,jL,gZ,gJ,gB,gI,zO,jJ,yU,zI,decide_true,decide_false,Zaf,Zag,jX];by_cases hlt:i<a.length
 ·simp only [show (i:Int)<(a.length:Int) by omega,decide_true,zH];have hx:a[i]? = some a[i]:=List.getElem?_eq_getElem hlt;have hda:a.drop i=a[i]::a.drop (i+1):=Zar hlt;rw [xu rfl hlt,ldL (fD hx)];by_cases hb2:b.length<=i
  ·simp only [zO,sH,show (b.length:Int)<=(i:Int) by omega,decide_true,zH];refine hK _ ?_ hf;rw [hda,Zbk hb2,jC] at hsk;rw [cmpL,hsk,if_neg (by simp),if_neg (by rintro rfl;omega)]
  ·simp only [zO,sH,show ¬ (b.length:Int)<=(i:Int) by omega,decide_false,zJ];have hxb:b[i]? = some b[i]:=List.getElem?_eq_getElem (by omega);have hdb:b.drop i=b[i]::b.drop (i+1):=Zar (by omega);rw [xu rfl (by omega),ldL (fD hxb)];refine zyk _ _ _ _ _ _ ?_;rintro _ rfl _;rw [hda,hdb,jC] at hsk;simp only [qm];by_cases c1:a[i]=b[i]
   ·have e0:(if a[i]<b[i] then (-1:Int) else if a[i]=b[i] then 0 else 1)=0:=by rw [if_neg (by omega),if_pos c1]
    rw [e0];simp only [decide_true,Zaf,zJ]
    try rw [jk (by omega)]
    refine hR _ _ _ _ _ _ _ _ _ _ _ _ (by omega) ⟨i+1,rfl,rfl,by omega,by omega,rfl,rfl,?_⟩;rw [Zan,Zan,htk,hx,hxb,c1]
   ·have e1:¬ (if a[i]<b[i] then (-1:Int) else if a[i]=b[i] then 0 else 1)=0:=by
     by_cases c:a[i]<b[i]
     ·rw [if_pos c];omega
     ·rw [if_neg c,if_neg c1];omega
    simp only [e1,decide_false,Zag,zH];refine hK _ ?_ hf;rw [if_neg c1] at hsk;rw [cmpL,hsk];by_cases c:a[i]<b[i]
    ·simp [c]
    ·rw [if_neg c,if_neg c1,if_neg (by simp [c]),if_neg (by rintro rfl;exact c1 rfl)]
 ·simp only [show ¬ (i:Int)<(a.length:Int) by omega,decide_false,zJ];rw [jy.k9];simp (disch:=omega) only [jk,sD,sV,rG,qm,jl,sO,xk,sH,zZ,zW,zH,zJ,jN,yQ,yY,jU,yV,jK,jL,gZ,gJ,gB,gI,zO,jJ,yU,zI,decide_true,decide_false,Zaf,Zag,jX];rw [Zbk (show a.length<=i by omega)] at hsk;by_cases c:a.length<b.length
  ·simp only [show (a.length:Int)<(b.length:Int) by omega,decide_true,zH];refine hK _ ?_ hf;have hd:b.drop i=b[i]::b.drop (i+1):=Zar (by omega);rw [hd,jC] at hsk;rw [cmpL,hsk,if_pos rfl]
  ·simp only [show ¬ (a.length:Int)<(b.length:Int) by omega,decide_false,zJ];refine hK _ ?_ hf;rw [Zbk (show b.length<=i by omega),jC] at hsk;have:a=b:=by
    rw [Zal (by omega),Zal (by omega)] at htk;exact htk
   rw [cmpL,hsk,if_neg (by simp),if_pos this]
theorem zpt {a b:List Int} (ha:a.length<=1000000) (hb:b.length<=1000000):Pure Tryz.prog B 140 [encI a,encI b] (· = .bool (jC a b)):=by
 intro p h nx K hK;refine zP zR yh 10000000 fun hf => ?_;rw [jr.go];refine jr.L1 (fun m z3 h' nx'=>∃ i:Nat,z3=I i/\a.length-i=m/\i<=a.length/\i<=b.length/\h'=h/\nx'=nx/\a.take i=b.take i) (m:=a.length) (by omega) ⟨0,rfl,rfl,by omega,by omega,rfl,rfl,rfl⟩ ?_;rintro m z2 z3 z4 z5 h1 nx1 R ⟨i,rfl,rfl,hi,hib,rfl,rfl,htk⟩ hR;have hsk:=pU i a b htk hi hib;simp (disch:=omega) only [jk,sD,sV,rG,qm,jl,sO,xk,sH,zZ,zW,zH,zJ,jN,yQ,yY,jU,yV,jK,jL,gZ,gJ,gB,gI,zO,jJ,yU,zI,decide_true,decide_false,Zaf,Zag,jX];have out:(a.length<=i\/b.length<=i)->∀ w4,IR.run jr.b8 (CS Tryz.prog B) 10000000 (fnO jr.res K) (jq jr.res K) (jr.fr (encI a) (encI b) z2 (I i) w4 z5) h1 nx1=.ok True:=by
  intro ho w4;rw [jr.k8];simp (disch:=omega) only [jk,sD,sV,rG,qm,jl,sO,xk,sH,zZ,zW,zH,zJ,jN,yQ,yY,jU,yV,jK,jL,gZ,gJ,gB,gI,zO,jJ,yU,zI,decide_true,decide_false,Zaf,Zag,jX];refine hK _ ?_ hf;rw [hsk];by_cases c1:b.length<=i
  ·rw [Zbk c1];have:jC (a.drop i) []=false:=by cases a.drop i <;> rfl
   rw [this,decide_eq_false (by omega)]
  ·rw [Zbk (show a.length<=i by omega),Zar (show i<b.length by omega),jC,decide_eq_true (by omega)]
 by_cases hla:i<a.length
 case neg =>
  simp only [show ¬ (i:Int)<(a.length:Int) by omega,decide_false,jU,zW,zJ];exact out (.inl (by omega)) _
 simp only [show (i:Int)<(a.length:Int) by omega,decide_true,jN,zO,jl,zZ];by_cases hlb:i<b.length
 case neg =>
  simp only [show ¬ (i:Int)<(b.length:Int) by omega,decide_false,zJ];exact out (.inr (by omega)) _
 simp only [show (i:Int)<(b.length:Int) by omega,decide_true,zH];have hx:a[i]? = some a[i]:=List.getElem?_eq_getElem hla;have hxb:b[i]? = some b[i]:=List.getElem?_eq_getElem hlb;rw [Zar hla,Zar hlb,jC] at hsk;rw [jr.k4,xu rfl hla,ldL (fD hx),xu rfl hlb,ldL (fD hxb)];simp only [qm];by_cases c:a[i]=b[i]
 ·simp only [c,decide_true,Zaf,zJ]
  try rw [jk (by omega)]
  refine hR _ _ _ _ _ _ _ (by omega) ⟨i+1,rfl,rfl,by omega,by omega,rfl,rfl,?_⟩;rw [Zan,Zan,htk,hx,hxb,c]
 ·simp only [c,decide_false,Zag,zH];rw [xu rfl hla,ldL (fD hx),xu rfl hlb,ldL (fD hxb)];simp only [jl];exact hK _ (by rw [hsk,if_neg c]) hf
def outR (x:Int):Bool:=decide (x < -999999999)||decide (999999999<x)
def d9 (cells:Int) (f:List Int):Int:=if (f.length:Int)≠cells then 2 else if f.any outR then 3 else 0
theorem qcc {l:List Int}:∀ v∈l.map I,rD v=true:=fun v hv=>by obtain ⟨x,_,rfl⟩:=List.mem_map.1 hv;rfl
theorem zdb {h:T Blk} (a:AV) (l:List AV) (K:AV->OP):zG (.fp (a::l)) h K=K a:=nr rfl
theorem zdc {P:Program} {id:Pa} {args:List AV} {h:T Blk} {nx:Pa} {K:Kw Prop}:qC (CS P B) (.yld id) args h nx K=(CS P B).yld id args h nx K:=nr rfl
theorem zug {h:T Blk} {nx:Pa} {p id:Pa} {l:List Int} {K:Kw Prop} (J:Nat->T Blk->Pa->Prop) (hl:l.length<=1000000) (hJ:J 0 h nx)
  (step:∀ (i:Nat) (x:Int) (h:T Blk) (nx:Pa) (K:Kw Prop),l[i]? = some x->J i h nx->Fr h nx->(∀ h' nx',J (i+1) h' nx'->K (.bool true) h' nx'=.ok True)->(CS Tryz.prog B).yld id [I x] h nx K=.ok True)
  (fr:∀ i h nx,J i h nx->Fr h nx) (hK:∀ h' nx',J l.length h' nx'->K (.tup []) h' nx'=.ok True):(CS Tryz.prog B).fn 169 p [.yld id,.fp [encI l]] h nx K=.ok True:=by
 refine jB (p:=.of 169) (K:=K) (zP zR yh 10000000 fun hf => ?_) fun _ _ _ _ q=>q;rw [wo.go,zdb];simp only [zO];refine wo.L1 (fun m z5 h' nx'=>∃ i:Nat,z5=I i/\l.length-i=m/\i<=l.length/\J i h' nx') (m:=l.length) (by omega) ⟨0,rfl,rfl,by omega,hJ⟩ ?_;rintro m z2 z5 z6 z7 h1 nx1 R ⟨i,rfl,rfl,hi,hJ1⟩ hR;simp (disch:=omega) only [jk,sD,sV,rG,qm,jl,sO,xk,sH,zZ,zW,zH,zJ,jN,yQ,yY,jU,yV,jK,jL,gZ,gJ,gB,gI,zO,jJ,yU,zI,decide_true,decide_false,Zaf,Zag,jX];by_cases hlt:i<l.length
 ·simp only [show (i:Int)<(l.length:Int) by omega,decide_true,zH];have hx:l[i]? = some l[i]:=List.getElem?_eq_getElem hlt;rw [xu rfl hlt,ldL (fD hx),zdc];refine step i _ _ _ _ hx hJ1 (fr _ _ _ hJ1) fun h2 nx2 hJ2 => ?_;simp only [yV,Zaf,zJ]
  try rw [jk (by omega)]
  exact hR _ _ _ _ _ _ _ (by omega) ⟨i+1,rfl,rfl,by omega,hJ2⟩
 ·simp only [show ¬ (i:Int)<(l.length:Int) by omega,decide_false,zJ];obtain rfl:i=l.length:=by omega
  exact hK _ _ hJ1
theorem Hp.aX {h0 h:T Blk} {nx:Pa} {L:List Ob} (H:Hp h0 h nx L) (e:Nat):Hp h0 h nx (.gro none e 0 []::L) :=
  ⟨H.keep,fun x hx=>by rcases List.mem_cons.1 hx with rfl | q;· exact ⟨rfl,rfl⟩
                       · exact H.own x q,fun n hn=>H.off n (by simpa [Ob.names] using hn),by have:=H.nd;simpa [Ob.names] using this,H.fr⟩
theorem vL {h0 h:T Blk} {nx:Pa} {L:List Ob} {id:Pa} {b:Blk} {k:Nat} (H:Hp h0 h nx L) (hk:L[k]? = some (.raw id b)):T.get .no id h=b:=(H.own _ (Zab hk)).1
theorem Hp.zes {h0 h:T Blk} {nx:Pa} {L:List Ob} {id:Pa} {b b':Blk} {k:Nat} (H:Hp h0 h nx L) (hk:L[k]? = some (.raw id b)) (hb:b'≠.no):Hp h0 (T.set .no b' id h) nx (L.set k (.raw id b')) :=
 H.upd hk (by simp [Ob.names]) rfl ⟨T.get_set_same _ _ _ _,hb⟩
theorem zl0 {h0 h:T Blk} {nx:Pa} {L:List Ob} {p q:Pa} {l:List Int} {K:Kw Prop} (hl:l.length<=100000) (H:Hp h0 h nx L)
  (hK:∀ o h' nx',Hp h0 h' nx' (.gro o 1 l.length (l.map I)::L)->K (qx o 1 l.length) h' nx'=.ok True):(CS Tryz.prog B).fn 221 p [.zf,.fn 169 q [.fp [encI l]]] h nx K=.ok True:=by
 refine jB (p:=.of 221) (K:=K) (zP zR yh 10000000 fun hf => ?_) fun _ _ _ _ q=>q;rw [qg.go];refine H.box (l:=[.zf]) rfl fun bx h1 nx1 H1 => ?_;refine H1.rf (g:=169) (p:=q) (cap:=[.fp [encI l]]) rfl fun id h2 nx2 H2 => ?_;refine zug (fun i h' nx'=>∃ o,Hp h0 h' nx' (.raw id (.loop .ready .none (qg.fr .zf (.fn 169 q [.fp [encI l]]) (.ptr bx 0) .zf .u (.fn 169 q [.fp [encI l]]) .u) [.of 6] qg.b3 qg.b4)::.arr bx [qx o 1 i]::.gro o 1 i ((l.take i).map I)::L)) (by omega) ⟨none,?_⟩ ?_ (fun _ _ _ ⟨_,q⟩=>q.fr) ?_
 ·have:=H2.aX 1;exact this.perm ((List.Perm.swap _ _ _).trans (.cons _ (.swap _ _ _)))
 ·rintro i x h3 nx3 K3 hx ⟨o,H3⟩ _ hnext;have hi:i<l.length:=(List.getElem?_eq_some_iff.1 hx).1;refine m9 (fns:=tbl) yh 100 fun hf => ?_;rw [qg.y4 (vL H3 (k:=0) rfl) rfl];have H4:=H3.zes (k:=0) rfl (b':=.loop .busy .none (qg.fr .zf (.fn 169 q [.fp [encI l]]) (.ptr bx 0) .zf .u (.fn 169 q [.fp [encI l]]) .u) [.of 6] qg.b3 qg.b4) (by intro e;cases e);rw [H4.load (k:=1) (i:=0) rfl rfl];refine H4.yj (l:=[I x]) rfl fun e5 h5 nx5 H5 => ?_;refine H5.appN (k:=3) (o:=o) (c:=1) (new:=[I x]) rfl (yx.rd (l:=[I x]) (n:=1) (H5.own _ (Zam ..)) rfl) rfl rfl (by decide) (by decide) (by omega) fun o' h6 nx6 ho H6 => ?_;refine H6.store (k:=2) rfl (by simp) (uO _ _ _) fun h7 H7 => ?_;refine H7.rend (k:=1) rfl fun h8 H8 => ?_;refine hnext _ _ ⟨o',(H8.drop).cast ?_⟩;have e1:(l.take (i+1)).map I=(l.take i).map I++[I x]:=by rw [Zan,hx];simp
  rw [e1];rfl
 ·rintro h3 nx3 ⟨o,H3⟩;rw [List.take_length] at H3;refine H3.tq fun h4 H4 => ?_;rw [mL,qg.k6,H4.load (k:=0) (i:=0) rfl rfl];exact hK _ _ _ H4.drop
theorem zl1 {l:List Int}:Pure Tryz.prog B 102 [encI l] (· = .fn 169 (.of 169) [.fp [encI l]]):=by
 refine yE fun h nx K H0 hK=>zP zR yh 10000000 fun hf => ?_;rw [oU.go];refine H0.box (l:=[encI l]) rfl fun bx h1 nx1 H1 => ?_;obtain ⟨op,t,g1,g2⟩:yx h1 bx [encI l]:=H1.own _ (Zam ..);refine hK _ _ _ _ (.fn 169 (.of 169) [.fp [encI l]]) H1 (.fn _ _ _ _ rfl fun i v v' h2 h3 => ?_) rfl
 match i with
 | 0 =>
  simp only [List.getElem?_cons_zero,Option.some.injEq] at h2 h3;subst h2 h3;refine .ptr _ _ op _ t _ (H1.off bx (by simp [Ob.names])) g1 (by simp) (by simp [jc]) fun i v hv => ?_
  match i with
  | 0 =>
   simp only [List.getElem?_cons_zero,Option.some.injEq] at hv;subst hv;have:=yC t 0 1 0 (by omega);have g2:yD t 0 1=[encI l]:=g2;rw [g2] at this;simp only [List.getElem?_cons_zero,Option.some.injEq] at this;rw [<- this];exact zL (uH l)
  | i+1=>simp at hv
 | i+1=>simp at h2
theorem zwr (op:KW3->OP) (h:T Blk) (nx:Pa) (k:KW3):sGW (.bool true) false op h nx k=k .u h nx:=nr rfl
theorem zj9 (op:KW3->OP) (h:T Blk) (nx:Pa) (k:KW3):sGW (.bool false) false op h nx k=op k:=nr rfl
theorem zka (op:KW3->OP) (h:T Blk) (nx:Pa) (k:KW3):sGW (.bool true) true op h nx k=op k:=nr rfl
theorem zpu (op:KW3->OP) (h:T Blk) (nx:Pa) (k:KW3):sGW (.bool false) true op h nx k=k .u h nx:=nr rfl
theorem zf9 (n:Int):Pure Tryz.prog B 79 [I n] (· = I (if n<0\/256<n then 3 else 0)):=by
 intro p h nx K hK;refine zP zR yh 10 fun hf => ?_;rw [F79.go];simp only [jl];by_cases c:n<0
 ·simp only [c,decide_true,yY,zZ,zH];exact hK _ (by rw [if_pos (.inl c)]) hf
 ·simp only [c,decide_false,yQ,xk,zW];by_cases c2:256<n
  ·simp only [c2,decide_true,zH];exact hK _ (by rw [if_pos (.inr c2)]) hf
  ·simp only [c2,decide_false,zJ];exact hK _ (by rw [if_neg (by omega)]) hf
def rW (l:List Int):Prop:=l.Nodup/\∀ x∈l,0<=x/\x<(l.length:Int)
def hadL (n:Nat) (l:List Int):List Bool:=l.foldl (fun s x=>s.set x.toNat true) (List.replicate n false)
theorem zga:∀ (l:List Int) (s:List Bool) (k:Nat),(∀ x∈l,0<=x)->k<s.length->(l.foldl (fun s x=>s.set x.toNat true) s)[k]? = some (s.getD k false||decide ((k:Int)∈l))
 | [],s,k,_,h=>by
  rw [List.foldl_nil,List.getElem?_eq_getElem h,Zaa,List.getElem?_eq_getElem h];simp
 | x::l,s,k,hl,h=>by
  rw [Zci,zga l _ k (fun y hy=>hl y (Zap _ hy)) (by simpa using h)];have h0:=hl x (Zam ..)
  congr 1
  rw [Zaa,Zaa,List.getElem?_set];by_cases e:x.toNat=k
  ·have:(k:Int)=x:=by omega
   rw [if_pos e,if_pos (by omega)];simp [this]
  ·have:¬ (k:Int)=x:=by omega
   rw [if_neg e];simp [this]
theorem cJ (n:Nat) (l:List Int):(hadL n l).length=n:=by
 have:∀ (l:List Int) (s:List Bool),(l.foldl (fun s x=>s.set x.toNat true) s).length=s.length:=by
  intro l
  induction l with
  | nil=>intro s;rfl
  | cons x l ih=>intro s;rw [Zci,ih];simp
 rw [hadL,this];simp
theorem zgb {n:Nat} {l:List Int} {k:Nat} (hl:∀ x∈l,0<=x) (hk:k<n):(hadL n l)[k]? = some (decide ((k:Int)∈l)):=by
 rw [hadL,zga l _ k hl (by simpa using hk)]
 congr 1
 rw [Zaa,List.getElem?_replicate,if_pos hk];simp
theorem zdd (n:Nat) (l:List Int) (x:Int):hadL n (l++[x])=(hadL n l).set x.toNat true:=by simp [hadL]
def xOf (n:Nat) (c:Bool) (x:Int):Int:=if c then (n:Int)+1-x else x
def xO (n:Nat) (c:Bool) (g f:List Int) (i:Nat):List Int:=(List.range i).foldl (fun o k=>o.set (g.getD k 0).toNat (xOf n c (f.getD k 0))) (List.replicate n 0)
theorem xH (n:Nat) (c:Bool) (g f:List Int) (i:Nat):xO n c g f (i+1)=(xO n c g f i).set (g.getD i 0).toNat (xOf n c (f.getD i 0)):=by
 simp [xO,List.range_succ]
theorem uI (n:Nat) (c:Bool) (g f:List Int):∀ i,(xO n c g f i).length=n
 | 0=>by simp [xO]
 | i+1=>by rw [xH];simp [uI n c g f i]
def yG (c:Bool) (g f:List Int):List Int:=xO f.length c g f f.length
end Go.Ev
namespace Go.Ev
open Go
def qcd (q:List (Int×Int)):List AV:=q.flatMap fun p=>[I p.1,I p.2]
theorem qX {a b:AV} {l:List AV} {h:T Blk} {K:AV->OP}:zS 2 (.fp (a::b::l)) h K=K (.agg [a,b]):=nr rfl
end Go.Ev
namespace Go.Ev
def zkb (y:List Nat) (i k:Nat):List Nat:=y.set i ((y.getD i 0+k)%256)
def addL (y:List Nat) (idx:List Nat) (k:Nat):List Nat:=idx.foldl (fun y i=>zkb y i k) y
@[simp] theorem zuh (y:List Nat) (i k:Nat):(zkb y i k).length=y.length:=by simp [zkb]
@[simp] theorem zwt (idx:List Nat) (k:Nat):∀ y:List Nat,(addL y idx k).length=y.length:=by
 induction idx with
 | nil=>intro y;rfl
 | cons i l ih=>intro y;show (addL (zkb y i k) l k).length=_;rw [ih];simp
def blk (x:List Nat) (idx:List Nat) (n:Nat):Nat->List (List Nat)
 | 0=>[]
 | j+1=>List.replicate n (addL x idx j)++blk x idx n j
theorem zl2 {n:Nat} {seen:List Nat} (nd:seen.Nodup) (h1:∀ i∈seen,i<n) (h2:∀ i,i<n->i∈seen):seen.Perm (List.range n):=by
 rw [List.perm_iff_count];intro a;rw [nd.count,List.nodup_range.count];by_cases e:a<n
 ·rw [if_pos (h2 a e),if_pos (by simpa using e)]
 ·rw [if_neg fun q=>e (h1 a q),if_neg (by simpa using e)]
def fill (most:Nat):Nat->List (List Nat)
 | 0=>[[]]
 | n+1=>(fill most n).flatMap fun x=>(List.range (most+1)).map fun k=>x++[k]
def gC (fr:Nat) (f:List Nat) (c:Int):Nat:=if (fr:Int)<=c then f.getD (c-fr).toNat 0 else 0
def con (fr:Nat) (f:List Nat) (l:List Int):Nat:=(l.map (gC fr f)).sum
end Go.Ev
namespace Go.Ev
open Go Go.Proofs
variable {B:Nat}
theorem zkc {N:Pa->Prop} {O:AV->Prop} {hh:T Blk} {l:List AV} (h:∀ v∈l,rD v=true):Frz True N O hh (.agg l) (.agg l) :=
 .agg _ _ rfl (List.all_eq_true.2 fun v hv=>rD.jc (h v hv)) fun i v v' h1 h2=>by rw [h1] at h2;cases h2;exact zL (h v (Zab h1))
abbrev Sym:=List Int×Bool
abbrev encS (g:Sym):AV:=.agg [encI g.1,.bool g.2]
def jF (G:List Sym):List AV:=G.flatMap fun g=>[encI g.1,.bool g.2]
abbrev vw (G:List Sym):AV:=.lst 2 G.length (jF G)
theorem pZ:∀ (q:List Sym) (i:Nat),(jF q).drop (i*2)=jF (q.drop i)
 | q,0=>by simp
 | [],i+1=>by simp [jF]
 | p::q,i+1=>by
  rw [List.drop_succ_cons,<- pZ q i,show (i+1)*2=i*2+1+1 by omega]
  rfl
theorem j5 {q:List Sym} {i:Nat} (h:i<q.length):(jF q).drop (i*2)=encI q[i].1::.bool q[i].2::(jF q).drop ((i+1)*2):=by
 rw [pZ,pZ,Zar h];rfl
instance (l:List Int):Decidable (rW l):=by unfold rW;infer_instance
def uM (l:List Int):Int:=if 256<l.length then 5 else if rW l then 0 else 14
theorem zui {l:List Int} (hl:l.length<=100000):Pure Tryz.prog B 139 [encI l] (· = I (uM l)):=by
 refine yE fun h nx K H0 hK=>zP zR yh 1000000 fun hf => ?_;rw [jh.go];simp only [zO,xk];by_cases c:(256:Int)<(l.length:Int)
 ·simp only [c,decide_true,zH];exact hK _ _ _ _ _ H0 (zL rfl) (by rw [uM,if_pos (by omega)])
 have hpe:uM l=if rW l then 0 else 14:=by rw [uM,if_neg (by omega)]
 simp only [c,decide_false,zJ];refine H0.mk1 l.length rfl rfl (by omega) (by decide) fun tb h1 nx1 H1 => ?_;have e0:List.replicate l.length (AV.bool false)=(hadL l.length []).map AV.bool:=by simp [hadL]
 rw [e0] at H1
 refine jh.L2 (fun m x3 h' nx'=>∃ i:Nat,x3=I i/\m=l.length-i/\i<=l.length/\(l.take i).Nodup/\(∀ x∈l.take i,0<=x/\x<(l.length:Int))/\Hp h h' nx' [.arr tb ((hadL l.length (l.take i)).map AV.bool)]) (m:=l.length) (by omega)
  ⟨0,rfl,by omega,by omega,by simp,by simp,by simpa using H1⟩ ?_
 rintro m x1 x3 x5 x6 h2 nx2 R ⟨i,rfl,rfl,hi,hnd,hrg,H2⟩ hR;simp only [zO,jl];by_cases hlt:i<l.length
 case neg =>
  simp only [show ¬ (i:Int)<(l.length:Int) by omega,decide_false,zJ];rw [jh.k10];rw [Zal (by omega)] at hnd hrg;exact hK _ _ _ _ _ H2 (zL rfl) (by rw [hpe,if_pos ⟨hnd,hrg⟩])
 simp only [show (i:Int)<(l.length:Int) by omega,decide_true,zH];have hx:l[i]? = some l[i]:=List.getElem?_eq_getElem hlt;have bad:¬ rW l->K (I 14) h2 nx2=.ok True:=fun q=>hK _ _ _ _ _ H2 (zL rfl) (by rw [hpe,if_neg q]);have hrange:rW l->0<=l[i]/\l[i]<(l.length:Int):=fun q=>q.2 _ (Zak hlt);rw [xu rfl hlt,ldL (fD hx)];by_cases c1:l[i]<0
 ·simp only [jl,c1,decide_true,yY,zZ,zH];exact bad fun q=>by have:=hrange q;omega
 simp only [jl,c1,decide_false,yQ];rw [xu rfl hlt,ldL (fD hx)];simp only [zO,sH,zW];by_cases c2:(l.length:Int)<=l[i]
 ·simp only [c2,decide_true,yY,zZ,zH];exact bad fun q=>by have:=hrange q;omega
 simp only [c2,decide_false,yQ];have hk:(l[i]).toNat<l.length:=by omega
 have hg:((hadL l.length (l.take i)).map AV.bool)[(l[i]).toNat]? = some (.bool (decide (l[i]∈l.take i))):=by
  rw [List.getElem?_map,zgb (fun x hx=>(hrg x hx).1) hk,show (((l[i]).toNat:Nat):Int)=l[i] by omega];rfl
 rw [xu rfl hlt,ldL (fD hx),sIx (i:=(l[i]).toNat) (by omega) hk,H2.load (k:=0) rfl hg];simp only [zW];by_cases c3:l[i]∈l.take i
 ·simp only [c3,decide_true,zH];refine bad fun q => ?_;obtain ⟨j,hj⟩:=List.mem_iff_getElem?.1 c3;have hjl:=(List.getElem?_eq_some_iff.1 hj).1;rw [Zax] at hjl;rw [List.getElem?_take_of_lt (by omega)] at hj;obtain ⟨a1,a2⟩:=List.getElem?_eq_some_iff.1 hj;exact List.pairwise_iff_getElem.1 q.1 j i a1 hlt (by omega) a2
 simp only [c3,decide_false,zJ];rw [jh.k8,xu rfl hlt,ldL (fD hx),sIx (i:=(l[i]).toNat) (by omega) hk];refine H2.store (k:=0) rfl (by rw [Zas,cJ];exact hk) rfl fun h3 H3 => ?_;rw [jh.k9,jk (by omega)];have htk:l.take (i+1)=l.take i++[l[i]]:=by rw [Zan,hx];rfl
 refine hR _ _ _ _ _ _ _ (by omega) ⟨i+1,rfl,rfl,by omega,?_,?_,H3.cast ?_⟩
 ·rw [htk];exact List.nodup_append.2 ⟨hnd,by simp,fun a ha b hb=>by simp at hb;subst hb;rintro rfl;exact c3 ha⟩
 ·intro x hm;rw [htk] at hm;rcases List.mem_append.1 hm with q | q
  ·exact hrg x q
  ·simp at q;subst q;omega
 ·rw [htk,zdd];simp [List.map_set]
def jW (g:List Int) (n:Int):Int:=if n<0\/256<n then 3 else if (g.length:Int)≠n then 2 else if rW g then 0 else 14
theorem zyl {g:List Int} {c:Bool} {n:Int}:Pure Tryz.prog B 80 [.agg [encI g,.bool c],I n] (· = I (jW g n)):=by
 refine yE fun h nx K H0 hK=>zP zR yh 1000 fun hf => ?_;rw [F80.go];refine H0.box (l:=[encI g,.bool c]) rfl fun bx h1 nx1 H1 => ?_;refine zf9 n _ _ _ _ ?_;rintro _ rfl _;simp only [qm];by_cases c1:n<0\/256<n
 ·simp only [if_pos c1];exact hK _ _ _ _ _ H1 (zL rfl) (by rw [jW,if_pos c1])
 simp only [if_neg c1,decide_true,Zaf,zJ,sFx];rw [H1.load (k:=0) (i:=0) rfl rfl];simp only [zO,qm];by_cases c2:(g.length:Int)=n
 case neg =>
  simp only [c2,decide_false,Zag,zH];exact hK _ _ _ _ _ H1 (zL rfl) (by rw [jW,if_neg c1,if_pos c2])
 simp only [c2,decide_true,Zaf,zJ];rw [H1.load (k:=0) (i:=0) rfl rfl];refine zui (by omega) _ _ _ _ ?_;rintro _ rfl _;exact hK _ _ _ _ _ H1 (zL rfl) (by rw [jW,if_neg c1,if_neg (by simp [c2]),uM,if_neg (by omega)])
def qD (p q:List Int):List Int:=q.map fun c=>p.getD c.toNat 0
def jD (a b:Sym):Sym:=(qD a.1 b.1,a.2 != b.2)
theorem zb6 {p q:List Int} {i:Nat} {x:Int} (h:q[i]? = some x):qD p (q.take (i+1))=qD p (q.take i)++[p.getD x.toNat 0]:=by
 rw [qD,Zan,h,Zbn];rfl
theorem zis {p q:List Int} (hq:∀ x∈q,0<=x/\x<(p.length:Int)) (hl:q.length<=100000):Pure Tryz.prog B 142 [encI p,encI q] (· = .lst 1 q.length ((qD p q).map I)):=by
 refine yE fun h nx K H0 hK=>zP zR yh 1000000 fun hf => ?_;rw [uh.go];refine uh.L1 (fun m x3 x4 h' nx'=>∃ (i:Nat) (o:Option Pa),x4=I i/\x3=qx o 1 i/\q.length-i=m/\i<=q.length/\Hp h h' nx' [.gro o 1 i ((qD p (q.take i)).map I)]) (m:=q.length) (by omega) ⟨0,none,rfl,rfl,rfl,by omega,H0.aX 1⟩ ?_;rintro m z3 z4 z5 h1 nx1 R ⟨i,o,rfl,rfl,rfl,hi,H1⟩ hR;simp only [zO,jl];by_cases hlt:i<q.length
 ·simp only [show (i:Int)<(q.length:Int) by omega,decide_true,zH];have hx:q[i]? = some q[i]:=List.getElem?_eq_getElem hlt;have hb:=hq _ (Zak hlt);have hy:p[q[i].toNat]? = some (p.getD q[i].toNat 0):=by
   rw [Zaa,List.getElem?_eq_getElem (show q[i].toNat<p.length by omega)];rfl
  rw [xu rfl hlt,ldL (fD hx),xu (i:=q[i].toNat) (by omega) (by omega),ldL (fD hy)];refine H1.yj (l:=[I (p.getD q[i].toNat 0)]) rfl fun tb h2 nx2 H2 => ?_;refine H2.appN (k:=1) (o:=o) (c:=1) (new:=[I (p.getD q[i].toNat 0)]) rfl (yx.rd (l:=[I (p.getD q[i].toNat 0)]) (n:=1) (H2.own _ (Zam ..)) rfl) rfl rfl (by decide) (by decide) (by omega) fun o' h3 nx3 _ H3 => ?_;rw [jk (by omega)];refine hR _ _ _ _ _ _ (by omega) ⟨i+1,o',rfl,rfl,rfl,by omega,?_⟩;rw [zb6 hx,Zbn];exact H3.drop
 ·simp only [show ¬ (i:Int)<(q.length:Int) by omega,decide_false,zJ];obtain rfl:i=q.length:=by omega
  rw [Zal (by omega)] at H1;rw [uh.k8];exact hK _ _ _ _ _ H1 (H1.zaf (k:=0) rfl (by intro v hv;obtain ⟨x,_,rfl⟩:=List.mem_map.1 hv;rfl)) rfl
theorem zgc {a b:Bool} {K:AV->OP}:zh .neq .bool (.bool a) (.bool b) K=K (.bool (a != b)):=by cases a <;> cases b <;> exact nr rfl
theorem qce {a b:Bool} {K:AV->OP}:zh .eql .bool (.bool a) (.bool b) K=K (.bool (a==b)):=by cases a <;> cases b <;> exact nr rfl
theorem zit {a b:Sym} (hq:∀ x∈b.1,0<=x/\x<(a.1.length:Int)) (hl:b.1.length<=100000):Pure Tryz.prog B 83 [encS a,encS b] (· = encS (jD a b)):=by
 refine yE fun h nx K H0 hK=>zP zR yh 1000 fun hf => ?_;rw [F83.go];refine H0.box (l:=[encI a.1,.bool a.2]) rfl fun b1 h1 nx1 H1 => ?_;refine H1.box (l:=[encI b.1,.bool b.2]) rfl fun b2 h2 nx2 H2 => ?_;refine H2.alloc fun r h3 nx3 H3 => ?_;simp only [sFx];rw [H3.load (k:=2) (i:=0) rfl rfl,H3.load (k:=1) (i:=0) rfl rfl,H3.load (k:=2) (i:=0+1) rfl rfl,H3.load (k:=1) (i:=0+1) rfl rfl,zgc];refine zis hq hl _ _ _ _ ?_;rintro _ rfl _;rw [zgc];simp only [zI];rw [H3.load (k:=1) (i:=0+1) rfl rfl];simp only [zI];rw [H3.load (k:=2) (i:=0+1) rfl rfl];simp only [zI];have eb:∀ K:AV->OP,jO [.zf,(.bool false)] [(0,1,.lst 1 b.1.length ((qD a.1 b.1).map I)),(1,1,.bool (a.2 != b.2))] K=K (.agg [.lst 1 b.1.length ((qD a.1 b.1).map I),.bool (a.2 != b.2)]):=fun K=>nr rfl;rw [eb];refine H3.qy (k:=0) (n:=2) rfl rfl rfl fun h4 H4 => ?_;rw [H4.zn (k:=0) (n:=2) rfl rfl];have e:AV.lst 1 b.1.length ((qD a.1 b.1).map I)=encI (qD a.1 b.1):=by simp [encI,qD]
 rw [e];refine hK _ _ _ _ _ H4 (zkc fun v hv => ?_) rfl;simp only [Zah,List.not_mem_nil,or_false] at hv;rcases hv with rfl | rfl
 ·exact uH _
 ·rfl
theorem zuj {a b:Sym} (ha:a.1.length<=1000000):Pure Tryz.prog B 141 [encS a,encS b] (· = .bool (decide (a=b))):=by
 refine yE fun h nx K H0 hK=>zP zR yh 1000 fun hf => ?_;rw [o7.go];refine H0.box (l:=[encI a.1,.bool a.2]) rfl fun b1 h1 nx1 H1 => ?_;refine H1.box (l:=[encI b.1,.bool b.2]) rfl fun b2 h2 nx2 H2 => ?_;simp only [sFx];rw [H2.load (k:=1) (i:=0+1) rfl rfl,H2.load (k:=0) (i:=0+1) rfl rfl,qce];by_cases c:a.2=b.2
 ·simp only [c,beq_self_eq_true,jN];rw [H2.load (k:=1) (i:=0) rfl rfl,H2.load (k:=0) (i:=0) rfl rfl,zka];refine pO (by omega) _ _ _ _ ?_;rintro _ rfl _;rw [zZ];refine hK _ _ _ _ _ H2 (zL rfl) ?_
  congr 1
  refine decide_eq_decide.2 ⟨fun q=>Prod.ext q c,fun q=>by rw [q]⟩
 ·have e:(a.2==b.2)=false:=by simpa using c
  rw [e];simp only [jU,zpu,zW];refine hK _ _ _ _ _ H2 (zL rfl) ?_;rw [decide_eq_false fun q=>c (by rw [q])]
theorem zpv {G:List Sym} {a:Sym} (hG:G.length<=1000000) (hw:∀ g∈G,g.1.length<=1000000):Pure Tryz.prog B 82 [vw G,encS a] (fun v=>∃ r:Int,v=I r/\(r<0↔a∉G)):=by
 refine yE fun h nx K H0 hK=>zP zR yh 10000000 fun hf => ?_;rw [F82.go];refine H0.box (l:=[encI a.1,.bool a.2]) rfl fun b1 h1 nx1 H1 => ?_;refine F82.L1 (fun m x4 h' nx'=>∃ i:Nat,x4=I i/\G.length-i=m/\i<=G.length/\h'=h1/\nx'=nx1/\a∉G.take i) (m:=G.length) (by omega) ⟨0,rfl,rfl,by omega,rfl,rfl,by simp⟩ ?_;rintro m z3 z4 z5 z6 h1 nx1 R ⟨i,rfl,rfl,hi,rfl,rfl,hn⟩ hR;simp only [zO,jl];by_cases hlt:i<G.length
 case neg =>
  simp only [show ¬ (i:Int)<(G.length:Int) by omega,decide_false,zJ];rw [F82.k8];rw [Zal (by omega)] at hn;exact hK _ _ _ _ _ H1 (zL rfl) ⟨-1,rfl,by simp [hn]⟩
 simp only [show (i:Int)<(G.length:Int) by omega,decide_true,zH];have hx:G[i]? = some G[i]:=List.getElem?_eq_getElem hlt;rw [xu rfl hlt,j5 hlt,qX,H1.zn (k:=0) (n:=2) rfl rfl];refine zuj (a:=G[i]) (b:=a) (hw _ (Zak hlt)) _ _ _ _ ?_;rintro _ rfl _;by_cases c:G[i]=a
 ·rw [decide_eq_true c,zH];refine hK _ _ _ _ _ H1 (zL rfl) ⟨i,rfl,?_⟩;have:a∈G:=c ▸ Zak hlt;exact ⟨fun q=>by omega,fun q=>absurd this q⟩
 ·rw [decide_eq_false c,zJ,jk (by omega)];refine hR _ _ _ _ _ _ _ (by omega) ⟨i+1,rfl,rfl,by omega,rfl,rfl,fun q => ?_⟩;rw [Zan,hx] at q;rcases List.mem_append.1 q with q | q
  ·exact hn q
  ·simp at q;exact c q.symm
def aY (a b:Sym):Bool:=if a.1=b.1 then !a.2&&b.2 else jC a.1 b.1
theorem zl3 {a b:Sym} (ha:a.1.length<=1000000) (hb:b.1.length<=1000000):Pure Tryz.prog B 81 [encS a,encS b] (· = .bool (aY a b)):=by
 refine yE fun h nx K H0 hK=>zP zR yh 1000 fun hf => ?_;rw [F81.go];refine H0.box (l:=[encI a.1,.bool a.2]) rfl fun b1 h1 nx1 H1 => ?_;refine H1.box (l:=[encI b.1,.bool b.2]) rfl fun b2 h2 nx2 H2 => ?_;simp only [sFx];rw [H2.load (k:=1) (i:=0) rfl rfl,H2.load (k:=0) (i:=0) rfl rfl];refine pO (by omega) _ _ _ _ ?_;rintro _ rfl _;by_cases c:a.1=b.1
 ·rw [decide_eq_true c,zH,H2.load (k:=1) (i:=0+1) rfl rfl];have e:aY a b=(!a.2&&b.2):=if_pos c;rw [yV];cases h2':a.2 with
  | true =>
   simp only [Zaf,jU,zW];exact hK _ _ _ _ _ H2 (zL rfl) (by rw [e,h2'];rfl)
  | false =>
   simp only [Zag,jN];rw [H2.load (k:=0) (i:=0+1) rfl rfl,zZ];exact hK _ _ _ _ _ H2 (zL rfl) (by rw [e,h2'];rfl)
 ·rw [decide_eq_false c,zJ,H2.load (k:=1) (i:=0) rfl rfl,H2.load (k:=0) (i:=0) rfl rfl];refine zpt ha hb _ _ _ _ ?_;rintro _ rfl _;exact hK _ _ _ _ _ H2 (zL rfl) (by rw [aY,if_neg c])
def jY (n:Int):List Sym->Int
 | []=>0
 | g::G=>if jW g.1 n≠0 then jW g.1 n else jY n G
def aC:List Sym->Bool
 | []=>true
 | [_]=>true
 | a::b::G=>aY a b&&aC (b::G)
def clG (G:List Sym):Bool:=G.all fun a=>G.all fun b=>decide (jD a b∈G)
def jI (G:List Sym) (n:Int):Int:=if n<0\/256<n then 3 else if G.length=0 then 12 else if 1536<G.length then 5 else if jY n G≠0 then jY n G else if aC G=false then 11 else if clG G=false then 28 else 0
theorem mF {n:Int} {G:List Sym} {i:Nat} (h:i<G.length):jY n (G.drop i)=if jW G[i].1 n≠0 then jW G[i].1 n else jY n (G.drop (i+1)):=by
 rw [Zar h];rfl
theorem vG {n:Int}:∀ {G:List Sym},jY n G=0->∀ g∈G,jW g.1 n=0
 | [],_,g,h=>by simp at h
 | a::G,h,g,hg=>by
  rw [jY] at h;by_cases c:jW a.1 n=0
  ·rw [if_neg (by simp [c])] at h;rcases List.mem_cons.1 hg with rfl | q
   ·exact c
   ·exact vG h g q
  ·rw [if_pos c] at h;exact absurd h c
theorem kF {g:List Int} {n:Int} (h:jW g n=0):(0<=n/\n<=256)/\(g.length:Int)=n/\rW g:=by
 rw [jW] at h;by_cases c1:n<0\/256<n
 ·rw [if_pos c1] at h;cases h
 rw [if_neg c1] at h;by_cases c2:(g.length:Int)=n
 ·rw [if_neg (by simp [c2])] at h;by_cases c3:rW g
  ·exact ⟨by omega,c2,c3⟩
  ·rw [if_neg c3] at h;cases h
 ·rw [if_pos c2] at h;cases h
theorem zde {G:List Sym} {i:Nat} (h:i+1<G.length):aC (G.drop i)=(aY G[i] G[i+1]&&aC (G.drop (i+1))):=by
 rw [Zar (show i<G.length by omega),Zar h,aC]
theorem zgd {G:List Sym} {i:Nat} (h:G.length<=i+1):aC (G.drop i)=true:=by
 have:(G.drop i).length<=1:=by rw [Zcj];omega
 cases hd:G.drop i with
 | nil=>rfl
 | cons a l =>
  rw [hd] at this;cases l with
  | nil=>rfl
  | cons b l=>simp at this
theorem zge {G:List Sym} {n:Int} (hG:G.length<=100000):Pure Tryz.prog B 31 [vw G,I n] (· = I (jI G n)):=by
 refine yE fun h nx K H0 hK=>zP zR yh 10000000 fun hf => ?_;have ret:∀ v:Int,v=jI G n->K (I v) h nx=.ok True:=fun v hv=>by rw [hv];exact hK _ _ _ _ _ H0 (zL rfl) rfl
 rw [F31.go];refine zf9 n _ _ _ _ ?_;rintro _ rfl _;by_cases c1:n<0\/256<n
 ·simp only [if_pos c1,qm,show ¬ (3:Int)=0 by decide,decide_false,Zag,zH];exact ret 3 (by rw [jI,if_pos c1])
 simp only [if_neg c1,qm,decide_true,Zaf,zJ,zO,rG];by_cases c2:G.length=0
 ·simp only [show (G.length:Int)=0 by omega,decide_true,zH];exact ret 12 (by rw [jI,if_neg c1,if_pos c2])
 simp only [show ¬ (G.length:Int)=0 by omega,decide_false,zJ,zO,xk];by_cases c3:1536<G.length
 ·simp only [show (1536:Int)<(G.length:Int) by omega,decide_true,zH];exact ret 5 (by rw [jI,if_neg c1,if_neg c2,if_pos c3])
 simp only [show ¬ (1536:Int)<(G.length:Int) by omega,decide_false,zJ];have e0:jI G n=if jY n G≠0 then jY n G else if aC G=false then 11 else if clG G=false then 28 else 0:=by rw [jI,if_neg c1,if_neg c2,if_neg c3]
 refine F31.L4 (fun m x3 h' nx'=>∃ i:Nat,x3=I i/\G.length-i=m/\i<=G.length/\h'=h/\nx'=nx/\jY n G=jY n (G.drop i)) (m:=G.length) (by omega) ⟨0,rfl,rfl,by omega,rfl,rfl,rfl⟩ ?_;rintro m z2 z3 z4 z11 z12 h nx R ⟨i,rfl,rfl,hi,rfl,rfl,hs⟩ hR;simp only [zO,jl];by_cases hlt:i<G.length
 ·simp only [show (i:Int)<(G.length:Int) by omega,decide_true,zH];rw [xu rfl hlt,j5 hlt,qX];refine zyl _ _ _ _ ?_;rintro _ rfl _;rw [mF hlt] at hs;simp only [qm];by_cases c:jW G[i].1 n=0
  ·simp only [c,decide_true,Zaf,zJ];rw [if_neg (by simp [c])] at hs;rw [jk (by omega)];exact hR _ _ _ _ _ _ _ _ (by omega) ⟨i+1,rfl,rfl,by omega,rfl,rfl,hs⟩
  ·simp only [c,decide_false,Zag,zH];rw [if_pos c] at hs;exact ret _ (by rw [e0,hs,if_pos c])
 simp only [show ¬ (i:Int)<(G.length:Int) by omega,decide_false,zJ];rw [Zbk (by omega)] at hs;have hs:jY n G=0:=hs;rw [if_neg (by simp [hs])] at e0;have hok:=vG hs
 clear hR
 rw [F31.k11];refine F31.L12 (fun m x5 h' nx'=>∃ i:Nat,x5=I (i+1:Nat)/\G.length-i=m/\i<=G.length/\h'=h/\nx'=nx/\aC G=aC (G.drop i)) (m:=G.length) (by omega) ⟨0,rfl,rfl,by omega,rfl,rfl,rfl⟩ ?_;rintro m z2 z5 z13 z14 h nx R ⟨i,rfl,rfl,hi,rfl,rfl,ho⟩ hR;simp only [zO,jl];by_cases hlt:i+1<G.length
 ·simp only [show ((i+1:Nat):Int)<(G.length:Int) by omega,decide_true,zH];rw [sD (by omega),xu (i:=i) (by omega) (by omega),j5 (show i<G.length by omega),qX,xu rfl hlt,j5 hlt,qX];have w1:=(kF (hok _ (Zak (show i<G.length by omega)))).2.1;have w2:=(kF (hok _ (Zak hlt))).2.1;refine zl3 (a:=G[i]) (b:=G[i+1]) (by omega) (by omega) _ _ _ _ ?_;rintro _ rfl _;rw [zde hlt] at ho;rw [yV];cases c:aY G[i] G[i+1] with
  | true =>
   rw [c,Bool.true_and] at ho;simp only [Zaf,zJ];rw [jk (by omega)];exact hR _ _ _ _ _ _ _ (by omega) ⟨i+1,rfl,rfl,by omega,rfl,rfl,ho⟩
  | false =>
   rw [c,Bool.false_and] at ho;simp only [Zag,zH];exact ret 11 (by rw [e0,if_pos ho])
 simp only [show ¬ ((i+1:Nat):Int)<(G.length:Int) by omega,decide_false,zJ];rw [zgd (by omega)] at ho;rw [if_neg (by simp [ho])] at e0
 clear hR
 rw [F31.k19];refine F31.L20 (fun m x6 h' nx'=>∃ i:Nat,x6=I i/\G.length-i=m/\i<=G.length/\h'=h/\nx'=nx/\∀ a∈G.take i,∀ b∈G,jD a b∈G) (m:=G.length) (by omega) ⟨0,rfl,rfl,by omega,rfl,rfl,by simp⟩ ?_;rintro m z2 z6 z7 z15 z16 z17 h nx R ⟨i,rfl,rfl,hi,rfl,rfl,hcl⟩ hR;simp only [zO,jl];by_cases hlt:i<G.length
 case neg =>
  simp only [show ¬ (i:Int)<(G.length:Int) by omega,decide_false,zJ];rw [Zal (by omega)] at hcl;rw [F31.k34];have:clG G=true:=by
   rw [clG,Zae];intro a ha;rw [Zae];exact fun b hb=>decide_eq_true (hcl a ha b hb)
  exact ret 0 (by rw [e0,if_neg (by simp [this])])
 simp only [show (i:Int)<(G.length:Int) by omega,decide_true,zH];have hx:G[i]? = some G[i]:=List.getElem?_eq_getElem hlt;refine F31.L26 (fun m x7 h' nx'=>∃ k:Nat,x7=I k/\G.length-k=m/\k<=G.length/\h'=h/\nx'=nx/\∀ b∈G.take k,jD G[i] b∈G) (m:=G.length) (by omega) ⟨0,rfl,rfl,by omega,rfl,rfl,by simp⟩ ?_;rintro m y2 y7 y16 y17 h nx R2 ⟨k,rfl,rfl,hk,rfl,rfl,hck⟩ hR2;simp only [zO,jl];by_cases hkt:k<G.length
 case neg =>
  simp only [show ¬ (k:Int)<(G.length:Int) by omega,decide_false,zJ];rw [Zal (by omega)] at hck;rw [F31.k33,jk (by omega)];refine hR _ _ _ _ _ _ _ _ _ (by omega) ⟨i+1,rfl,rfl,by omega,rfl,rfl,fun a ha b hb => ?_⟩;rw [Zan,hx] at ha;rcases List.mem_append.1 ha with q | q
  ·exact hcl a q b hb
  ·simp at q;rw [q];exact hck b hb
 simp only [show (k:Int)<(G.length:Int) by omega,decide_true,zH];have hy:G[k]? = some G[k]:=List.getElem?_eq_getElem hkt;obtain ⟨i1,i2,i3⟩:=kF (hok _ (Zak hlt));obtain ⟨k1,k2,k3⟩:=kF (hok _ (Zak hkt));rw [xu rfl hlt,j5 hlt,qX,xu rfl hkt,j5 hkt,qX];refine zit (a:=G[i]) (b:=G[k]) (fun x hx'=>by have:=k3.2 x hx';omega) (by omega) _ _ _ _ ?_;rintro _ rfl _;simp only [zI];refine zpv (a:=jD G[i] G[k]) (by omega) (fun g hg=>by have:=(kF (hok g hg)).2.1;omega) _ _ _ _ ?_;rintro _ ⟨r,rfl,hr⟩ _;simp only [jl];by_cases c:r<0
 ·simp only [c,decide_true,zH];have hn:=hr.1 c;refine ret 28 ?_;have:clG G=false:=by
   cases q:clG G with
   | false=>rfl
   | true =>
    rw [clG,Zae] at q;have q1:=q _ (Zak hlt);rw [Zae] at q1;exact absurd (of_decide_eq_true (q1 _ (Zak hkt))) hn
  rw [e0,if_pos this]
 ·simp only [c,decide_false,zJ];have hin:jD G[i] G[k]∈G:=by
   by_cases q:jD G[i] G[k]∈G
   ·exact q
   ·exact absurd (hr.2 q) c
  rw [jk (by omega)];refine hR2 _ _ _ _ _ _ _ (by omega) ⟨k+1,rfl,rfl,by omega,rfl,rfl,fun b hb => ?_⟩;rw [Zan,hy] at hb;rcases List.mem_append.1 hb with q | q
  ·exact hck b q
  ·simp at q;rw [q];exact hin
end Go.Ev
namespace Go.Proofs
open Go.Shelf Go.Lib
def jm:List Int->List Int->Int
 | [],[]=>0
 | [],_::_ => -1
 | _::_,[]=>1
 | x::xs,y::ys=>if x<y then -1 else if y<x then 1 else jm xs ys
theorem mV (x:Int) (w:World):Calls Tryz.prog 261 #[.int .i64 x] w fun e w'=>e=.returned (.bool false)/\w'=w:=by
 have t3:=Tryz.underlying3;have a3:=Tryz.isAgg3;have z3:=Tryz.sizeOf3;have v3:=Tryz.zeroValue3;have t4:=Tryz.underlying4;have a4:=Tryz.isAgg4;have z4:=Tryz.sizeOf4;have v4:=Tryz.zeroValue4
 go_enter Tryz.func261,Tryz.ntmps261
 go_wp2
 go_ret
 exact ⟨by simp,rfl⟩
set_option maxHeartbeats 2000000 in
set_option maxRecDepth 100000 in
theorem ziu (x y:Int) (w:World):Calls Tryz.prog 217 #[.int .i64 x,.int .i64 y] w fun e w'=>e=.returned (.int .i64 (Lib.compareInt x y))/\w'=w:=by
 have t3:=Tryz.underlying3;have a3:=Tryz.isAgg3;have z3:=Tryz.sizeOf3;have v3:=Tryz.zeroValue3;have t4:=Tryz.underlying4;have a4:=Tryz.isAgg4;have z4:=Tryz.sizeOf4;have v4:=Tryz.zeroValue4
 go_enter Tryz.func217,Tryz.ntmps217
 go_wp2_with (go_at_call 261;refine (mV _ _).mono ?_;rintro e w' ⟨rfl,hw⟩;rw [hw])
 all_goals (go_ret;refine ⟨?_,rfl⟩;unfold Lib.compareInt;(repeat' split) <;> first | rfl | (exfalso;omega))
end Go.Proofs
namespace Go.Proofs
open Go.Shelf Go.Lib Go.RowKit
theorem zl4 {xs ys:List Int} {k:Nat} {x y:Int} (hx:k<xs.length) (hy:k<ys.length) (ex:xs[k]! = x) (ey:ys[k]! = y):jm (xs.drop k) (ys.drop k)=if x<y then -1 else if y<x then 1 else jm (xs.drop (k+1)) (ys.drop (k+1)):=by
 rw [List.drop_eq_getElem_cons hx,List.drop_eq_getElem_cons hy];rw [getElem!_pos xs k hx] at ex;rw [getElem!_pos ys k hy] at ey;rw [ex,ey,jm]
theorem zl5 {xs ys:List Int} {k:Nat} (hx:xs.length<=k):jm (xs.drop k) (ys.drop k)=if ys.length<=k then 0 else -1:=by
 rw [List.drop_eq_nil_of_le hx];by_cases h:ys.length<=k
 ·rw [if_pos h,List.drop_eq_nil_of_le h,jm]
 ·rw [if_neg h,List.drop_eq_getElem_cons (by omega),jm]
theorem zl6 {xs ys:List Int} {k:Nat} (hx:k<xs.length) (hy:ys.length<=k):jm (xs.drop k) (ys.drop k)=1:=by
 rw [List.drop_eq_nil_of_le hy,List.drop_eq_getElem_cons hx,jm]
set_option maxHeartbeats 2000000 in
set_option maxRecDepth 100000 in
theorem zb7 (p1 p2:Option Addr) (n c m d:Nat) (xs ys:List Int) (w:World) (hn:n=xs.length) (hm:m=ys.length) (hbig:n<=1000000) (hbig2:m<=1000000)
  (hc1:n=0\/∃ b1 o1,p1=some ⟨b1,o1,none⟩/\∀ j,j<n->w.cell? ⟨b1,o1+j,none⟩=some (.int .i64 xs[j]!)) (hc2:m=0\/∃ b2 o2,p2=some ⟨b2,o2,none⟩/\∀ j,j<m->w.cell? ⟨b2,o2+j,none⟩=some (.int .i64 ys[j]!)) :
  Calls Tryz.prog 161 #[.slice p1 n c,.slice p2 m d] w fun e w'=>e=.returned (.int .i64 (jm xs ys))/\∃ q,w'=w.drewN q:=by
 have H1:Aside (n=0\/∃ b1 o1,p1=some ⟨b1,o1,none⟩/\∀ j,j<n->w.cell? ⟨b1,o1+j,none⟩=some (.int .i64 xs[j]!)):=hc1;have H2:Aside (m=0\/∃ b2 o2,p2=some ⟨b2,o2,none⟩/\∀ j,j<m->w.cell? ⟨b2,o2+j,none⟩=some (.int .i64 ys[j]!)):=hc2
 clear hc1 hc2
 have mixed:Tryz.prog.follows .mixedOrders=true:=by kernel_rfl
 have t0:=Tryz.underlying0;have a0:=Tryz.isAgg0;have z0:=Tryz.sizeOf0;have v0:=Tryz.zeroValue0;have t3:=Tryz.underlying3;have a3:=Tryz.isAgg3;have z3:=Tryz.sizeOf3;have v3:=Tryz.zeroValue3;have t4:=Tryz.underlying4;have a4:=Tryz.isAgg4;have z4:=Tryz.sizeOf4;have v4:=Tryz.zeroValue4;have t46:=Tryz.underlying38;have a46:=Tryz.isAgg38;have z46:=Tryz.sizeOf38;have v46:=Tryz.zeroValue38;have A0:Aside (n=xs.length/\m=ys.length):=⟨hn,hm⟩
 clear hn hm
 go_enter Tryz.func161,Tryz.ntmps161
 go_wp2
 go_loopg [11] n (fun g s11 wr=>∃ k q:Nat,k<=n/\k<=m/\n-k<=g/\s11=.int .i64 k/\wr=w.drewN q/\Aside (jm (xs.drop k) (ys.drop k)=jm xs ys))
 case atStart=>exact ⟨0,0,Nat.zero_le _,Nat.zero_le _,by omega,rfl,rfl,rfl⟩
 case round =>
  obtain ⟨k,q,hk,hkm,hg,rfl,rfl,A⟩:=hrel;by_cases hlt:k<n
  ·by_cases hlm:k<m
   ·obtain ⟨b1,o1,rfl,hc1⟩:=H1.out.resolve_left (by omega);obtain ⟨b2,o2,rfl,hc2⟩:=H2.out.resolve_left (by omega)
    clear H1 H2
    have g1:w.cell? ⟨b1,o1+k,none⟩=some (.int .i64 xs[k]!):=hc1 k hlt;have g2:w.cell? ⟨b2,o2+k,none⟩=some (.int .i64 ys[k]!):=hc2 k hlm
    clear hc1 hc2
    generalize hxk:xs[k]! = x at g1
    generalize hyk:ys[k]! = y at g2
    have B:Aside (xs[k]! = x/\ys[k]! = y):=⟨hxk,hyk⟩
    clear hxk hyk
    obtain ⟨r,C,hcon⟩:∃ r,Aside (r = -1/\x<y\/r=1/\y<x\/r=0/\x=y)/\∀ w,Calls Tryz.prog 217 #[.int .i64 x,.int .i64 y] w fun e w'=>e=.returned (.int .i64 r)/\w'=w :=
     ⟨Lib.compareInt x y,(show Aside _ from by
      unfold Aside Lib.compareInt;by_cases c1:x<y
      ·rw [if_pos c1];exact .inl ⟨rfl,c1⟩
      ·rw [if_neg c1];by_cases c2:y<x
       ·simp [c2]
       ·have:x=y:=by omega
        simp [this]),fun w=>ziu x y w⟩
    have D:=zl4 (A0.out.1 ▸ hlt) (A0.out.2 ▸ hlm) B.out.1 B.out.2;have D':Aside (jm (xs.drop k) (ys.drop k)=if x<y then -1 else if y<x then 1 else jm (xs.drop (k+1)) (ys.drop (k+1))):=D
    clear D
    by_cases hr:r=0
    ·subst hr
     go_wp2_with (go_at_call 217;refine (hcon _).mono ?_;rintro e w' ⟨rfl,hw⟩;rw [hw])
     go_roundg (n-(k+1))
     case measure=>omega
     case rel =>
      refine ⟨k+1,q,by omega,by omega,by omega,by go_num,rfl,(show Aside _ from ?_)⟩;rcases C.out with ⟨c,_⟩ | ⟨c,_⟩ | ⟨_,rfl⟩
      ·omega
      ·omega
      ·have:=D'.out;rw [if_neg (by omega),if_neg (by omega)] at this;exact this.symm.trans A.out
    ·go_wp2_with (go_at_call 217;refine (hcon _).mono ?_;rintro e w' ⟨rfl,hw⟩;rw [hw])
     go_ret
     refine ⟨?_,q,rfl⟩;rw [<- A.out,D'.out];rcases C.out with ⟨rfl,c⟩ | ⟨rfl,c⟩ | ⟨c,_⟩
     ·rw [if_pos c];rfl
     ·rw [if_neg (show ¬ x<y by omega),if_pos c];rfl
     ·exact absurd c hr
   ·have D:Aside (jm (xs.drop k) (ys.drop k)=1):=zl6 (A0.out.1 ▸ hlt) (by have:=A0.out.2;omega);obtain ⟨b1,o1,rfl,hc1⟩:=H1.out.resolve_left (by omega)
    clear H1 H2
    have g1:w.cell? ⟨b1,o1+k,none⟩=some (.int .i64 xs[k]!):=hc1 k hlt
    clear hc1
    generalize hxk:xs[k]! = x at g1
    have hmk:m<=k:=by omega
    go_wp2
    go_ret
    refine ⟨?_,q,rfl⟩;rw [<- A.out,D.out];rfl
  ·have hkn:k=n:=by omega
   have D:Aside (jm (xs.drop k) (ys.drop k)=if ys.length<=k then 0 else -1):=zl5 (by have:=A0.out.1;omega)
   clear H1 H2
   by_cases hlm:k<m
   ·have D':Aside (jm (xs.drop k) (ys.drop k) = -1):=D.out.trans (if_neg (by have:=A0.out.2;omega))
    go_wp2
    go_ret
    refine ⟨?_,q,rfl⟩;rw [<- A.out,D'.out];rfl
   ·have D':Aside (jm (xs.drop k) (ys.drop k)=0):=D.out.trans (if_pos (by have:=A0.out.2;omega))
    go_wp2
    go_ret
    refine ⟨?_,q,rfl⟩;rw [<- A.out,D'.out];rfl
end Go.Proofs
namespace Go.Proofs
theorem xU (x:Int) (xs:List Int) (y:Int) (ys:List Int):jm (x::xs) (y::ys)=if x<y then -1 else if y<x then 1 else jm xs ys:=by rw [jm]
theorem gM:∀ a b:List Int,jm b a = - jm a b
 | [],[]=>by rw [jm];rfl
 | [],_::_=>by rw [jm,jm];rfl
 | _::_,[]=>by rw [jm,jm]
 | x::xs,y::ys=>by
  rw [xU,xU,gM xs ys];by_cases h:x<y
  ·simp only [if_pos h,if_neg (show ¬ y<x by omega)];rfl
  ·rw [if_neg h];by_cases g:y<x
   ·simp only [if_pos g,if_neg h]
   ·simp only [if_neg g,if_neg h]
theorem kV:∀ {a b:List Int},jm a b=0->a=b
 | [],[],_=>rfl
 | [],_::_,h=>by rw [jm] at h;omega
 | _::_,[],h=>by rw [jm] at h;omega
 | x::xs,y::ys,h=>by
  rw [xU] at h;by_cases c:x<y
  ·rw [if_pos c] at h;omega
  ·rw [if_neg c] at h;by_cases g:y<x
   ·rw [if_pos g] at h;omega
   ·rw [if_neg g] at h;rw [kV h,show x=y by omega]
theorem kG (a:List Int):jm a a=0:=by have:=gM a a;omega
theorem u4:∀ {a b c:List Int},jm a b<=0->jm b c<=0->jm a c<=0
 | [],_,[],_,_=>by rw [jm];omega
 | [],_,_::_,_,_=>by rw [jm];omega
 | _::_,[],_,h,_=>by rw [jm] at h;omega
 | x::xs,y::ys,[],_,h=>by rw [jm] at h;omega
 | x::xs,y::ys,z::zs,h,g=>by
  rw [xU] at h g ⊢;by_cases c1:x<y
  ·by_cases c2:y<z
   ·rw [if_pos (by omega)];omega
   ·rw [if_neg c2] at g;by_cases c3:z<y
    ·rw [if_pos c3] at g;omega
    ·rw [if_pos (by omega)];omega
  ·rw [if_neg c1] at h;by_cases c4:y<x
   ·rw [if_pos c4] at h;omega
   ·rw [if_neg c4] at h;by_cases c2:y<z
    ·rw [if_pos (by omega)];omega
    ·rw [if_neg c2] at g;by_cases c3:z<y
     ·rw [if_pos c3] at g;omega
     ·rw [if_neg c3] at g;rw [if_neg (by omega),if_neg (by omega)];exact u4 h g
theorem j7 {a b c:List Int} (h:jm a b<0) (g:jm b c<0):jm a c<0:=by
 have:=u4 (Int.le_of_lt h) (Int.le_of_lt g);by_cases e:jm a c=0
 ·have:=kV e;subst this;have:=gM a b;omega
 ·omega
theorem zcs {a b c:List Int} (h:0<=jm a b) (g:0<=jm b c):0<=jm a c:=by
 have h1:=gM a b;have h2:=gM b c;have h3:=gM a c;have:=u4 (a:=c) (b:=b) (c:=a) (by omega) (by omega);omega
end Go.Proofs
namespace Go.Ev
open Go.Proofs
def oP (A:List (List Int×Nat)) (l:List Int) (n:Nat):List (List Int×Nat):=match A with
 | []=>[(l,n)]
 |(a,c)::A=>if jm a l<0 then (a,c)::oP A l n else if a=l then (a,c+n)::A else (l,n)::(a,c)::A
structure zgf (A:List (List Int×Nat)) (M:List (List Int)):Prop where
 srt:A.Pairwise fun a b=>jm a.1 b.1<0
 cnt:∀ p∈A,p.2=M.count p.1/\0<p.2
 all:∀ y∈M,∃ p∈A,p.1=y
theorem zgf.mem {A:List (List Int×Nat)} {M:List (List Int)} (T:zgf A M) (p:List Int×Nat):p∈A↔p.2=M.count p.1/\0<p.2:=by
 refine ⟨T.cnt p,fun ⟨h1,h2⟩ => ?_⟩;have hm:p.1∈M:=List.count_pos_iff.1 (by omega);obtain ⟨q,hq,e⟩:=T.all _ hm;have:=(T.cnt q hq).1;have:q=p:=by
  refine Prod.ext e ?_;rw [this,e,h1]
 exact this ▸ hq
theorem zgf.nil:zgf [] []:=⟨.nil,by simp,by simp⟩
theorem zgg {l:List Int} {n:Nat}:∀ {A:List (List Int×Nat)} {p:List Int×Nat},p∈oP A l n->p.1=l\/p∈A
 | [],p,h=>by
  simp only [oP,Zbl] at h;exact .inl (by rw [h])
 |(a,c)::A,p,h=>by
  rw [oP] at h;split at h
  ·rcases List.mem_cons.1 h with e | e
   ·exact .inr (by simp [e])
   ·rcases zgg e with q | q
    ·exact .inl q
    ·exact .inr (by simp [q])
  ·split at h
   ·rename_i e;rcases List.mem_cons.1 h with q | q
    ·exact .inl (by rw [q,<- e])
    ·exact .inr (by simp [q])
   ·rcases List.mem_cons.1 h with q | q
    ·exact .inl (by rw [q])
    ·exact .inr q
theorem zgh {l:List Int} {n:Nat}:∀ {A:List (List Int×Nat)},A.Pairwise (fun a b=>jm a.1 b.1<0)->(oP A l n).Pairwise fun a b=>jm a.1 b.1<0
 | [],_=>by simp [oP]
 |(a,c)::A,h=>by
  rw [Zaz] at h;rw [oP];split
  ·rename_i c1;refine List.pairwise_cons.2 ⟨fun p hp => ?_,zgh h.2⟩;rcases zgg hp with e | e
   ·rw [e];exact c1
   ·exact h.1 p e
  ·rename_i c1;split
   ·exact List.pairwise_cons.2 ⟨fun p hp=>h.1 p hp,h.2⟩
   ·rename_i c2;have hl:jm l a<0:=by
     have h1:=gM a l;by_cases e:jm a l=0
     ·exact absurd (kV e) c2
     ·omega
    refine List.pairwise_cons.2 ⟨fun p hp => ?_,List.pairwise_cons.2 h⟩;rcases List.mem_cons.1 hp with e | e
    ·rw [e];exact hl
    ·exact j7 hl (h.1 p e)
def oG (A:List (List Int×Nat)) (y:List Int):Nat:=(A.map fun p=>if p.1=y then p.2 else 0).sum
theorem zgi {l:List Int} {n:Nat} (y:List Int):∀ (A:List (List Int×Nat)),oG (oP A l n) y=(if l=y then n else 0)+oG A y
 | []=>by simp [oP,oG]
 |(a,c)::A=>by
  rw [oP];split
  ·have:=zgi (l:=l) (n:=n) y A;simp only [oG,Zcm,List.sum_cons] at this ⊢;omega
  ·split
   ·rename_i e;subst e;simp only [oG,Zcm,List.sum_cons];split <;> omega
   ·simp only [oG,Zcm,List.sum_cons]
theorem bV {y:List Int}:∀ {A:List (List Int×Nat)},(∀ q∈A,q.1≠y)->oG A y=0
 | [],_=>rfl
 | a::A,h=>by
  have:=bV (y:=y) (A:=A) fun q hq=>h q (by simp [hq]);simp only [oG,Zcm,List.sum_cons] at this ⊢;rw [if_neg (h a (by simp)),this]
theorem zgj:∀ {A:List (List Int×Nat)},A.Pairwise (fun a b=>jm a.1 b.1<0)->∀ p∈A,oG A p.1=p.2
 | [],_,p,h=>by cases h
 | a::A,hA,p,h=>by
  rw [Zaz] at hA;simp only [oG,Zcm,List.sum_cons];rcases List.mem_cons.1 h with e | e
  ·subst e;rw [if_pos rfl];have:oG A p.1=0:=bV fun q hq e=>by
    have:=hA.1 q hq;rw [e,kG] at this;omega
   rw [oG] at this;omega
  ·have h1:=hA.1 p e;rw [if_neg (fun e=>by rw [e,kG] at h1;omega)];have:=zgj hA.2 p e;rw [oG] at this;omega
theorem zpw {A:List (List Int×Nat)} {y:List Int} (h:0<oG A y):∃ p∈A,p.1=y:=by
 by_cases c:∃ p∈A,p.1=y
 ·exact c
 ·have:=bV (A:=A) (y:=y) fun q hq e=>c ⟨q,hq,e⟩;omega
structure Tab (A:List (List Int×Nat)) (M:List (List Int)):Prop where
 srt:A.Pairwise fun a b=>jm a.1 b.1<0
 cnt:∀ y,oG A y=M.count y
 pos:∀ p∈A,0<p.2
theorem Tab.is {A:List (List Int×Nat)} {M:List (List Int)} (T:Tab A M):zgf A M:={
 srt:=T.srt
 cnt p hp:=⟨by rw [<- T.cnt,zgj T.srt p hp],T.pos p hp⟩
 all y hy:=zpw (by rw [T.cnt];exact List.count_pos_iff.2 hy) }
theorem Tab.nil:Tab [] []:=⟨.nil,fun _=>rfl,by simp⟩
theorem zgk {l:List Int} {n:Nat} (hn:0<n):∀ {A:List (List Int×Nat)},(∀ p∈A,0<p.2)->∀ p∈oP A l n,0<p.2
 | [],_,p,h=>by
  simp only [oP,Zbl] at h;rw [h];exact hn
 |(a,c)::A,hA,p,h=>by
  rw [oP] at h;split at h
  ·rcases List.mem_cons.1 h with e | e
   ·rw [e];exact hA _ (by simp)
   ·exact zgk hn (fun q hq=>hA q (by simp [hq])) p e
  ·split at h
   ·rcases List.mem_cons.1 h with e | e
    ·rw [e];have:=hA (a,c) (by simp);simp only at this ⊢;omega
    ·exact hA p (by simp [e])
   ·rcases List.mem_cons.1 h with e | e
    ·rw [e];exact hn
    ·exact hA p e
theorem Tab.ins {A:List (List Int×Nat)} {M:List (List Int)} {l:List Int} {n:Nat} (T:Tab A M) (hn:0<n):Tab (oP A l n) (List.replicate n l++M):={
 srt:=zgh T.srt
 cnt y:=by rw [zgi,T.cnt,List.count_append,List.count_replicate];simp only [beq_iff_eq]
 pos:=zgk hn T.pos }
theorem Tab.perm {A:List (List Int×Nat)} {M M':List (List Int)} (T:Tab A M) (h:M.Perm M'):Tab A M':=⟨T.srt,fun y=>(T.cnt y).trans (h.count_eq y),T.pos⟩
theorem Tab.fold {C:List (List Int×Nat)} {N:List (List Int)}:∀ {A:List (List Int×Nat)} {M:List (List Int)},Tab A M->Tab C N->Tab (C.foldl (fun A p=>oP A p.1 p.2) A) (N++M):=by
 intro A M TA TC;have key:∀ (C:List (List Int×Nat)) (A:List (List Int×Nat)) (M:List (List Int)),Tab A M->(∀ p∈C,0<p.2)->Tab (C.foldl (fun A p=>oP A p.1 p.2) A) ((C.flatMap fun p=>List.replicate p.2 p.1)++M):=by
  intro C
  induction C with
  | nil=>intro A M T _;exact T
  | cons c C ih =>
   intro A M T h;rw [Zci];refine (ih _ _ (T.ins (h c (by simp))) fun p hp=>h p (by simp [hp])).perm ?_;rw [Zbi,<- Zcg];exact List.perm_append_comm.append_right M
 refine (key C A M TA TC.pos).perm (List.Perm.append_right M ?_);rw [List.perm_iff_count];intro y;rw [<- TC.cnt];have:∀ C:List (List Int×Nat),(C.flatMap fun p=>List.replicate p.2 p.1).count y=oG C y:=by
  intro C
  induction C with
  | nil=>rfl
  | cons c C ih =>
   rw [Zbi,List.count_append,ih,List.count_replicate];simp only [oG,Zcm,List.sum_cons,beq_iff_eq]
 exact this C
theorem kH:∀ a b:List Int,jC a b=decide (jm a b<0)
 | [],[]=>by rw [jC,jm];rfl
 | [],_::_=>by rw [jC,jm];rfl
 | _::_,[]=>by rw [jC,jm];rfl
 | x::xs,y::ys=>by
  rw [jC,xU,kH xs ys];by_cases e:x=y
  ·subst e;rw [if_pos rfl,if_neg (show ¬ x<x by omega),if_neg (show ¬ x<x by omega)]
  ·rw [if_neg e];by_cases g:x<y
   ·simp only [if_pos g,g,decide_true];rfl
   ·rw [if_neg g,if_pos (show y<x by omega)];simp only [g,decide_false];rfl
end Go.Ev
namespace Go.Ev
open Go Go.Proofs
variable {B:Nat}
theorem lex_irrefl (a:List Int):jC a a=false:=by rw [kH,kG];rfl
theorem cmp_neg (a b:List Int):cmpL a b<0↔jC a b=true:=by
 unfold cmpL;cases h:jC a b with
 | true=>simp
 | false =>
  rw [if_neg (by simp)];split <;> simp
theorem zgl (a b:List Int):cmpL a b=0↔a=b:=by
 unfold cmpL;cases h:jC a b with
 | true =>
  simp;rintro rfl;rw [lex_irrefl] at h;cases h
 | false =>
  rw [if_neg (by simp)];split
  ·simp [*]
  ·simp [*]
def Ord (l:List (List Int)):Prop:=l.Pairwise fun a b=>jC a b=true
end Go.Ev
namespace Go.Ev
open Go Go.Proofs Go.RowKit
def cA:List AV->Option (List (List UInt8))
 | []=>some []
 | .str s::l=>match cA l with
  | some xs=>some (s::xs)
  | none=>none
 | _=>none
def zwu (l:List AV) (sep:List UInt8):Option AV:=match cA l with
 | some xs=>bif Nat.ble (Lib.join xs sep).length 100000 then some (.str (Lib.join xs sep)) else none
 | none=>none
def zwv (cap:Option Nat) (ln:Nat):Bool:=match cap with
 | some k=>Nat.ble ln k
 | none=>true
def zpx (v:AV) (sep:List UInt8) (h:T Blk):Option AV:=match v with
 | .sl id off ln cap esz=>match T.get .no id h with
  | .cells _ m t=>bif Nat.beq esz 1&&Nat.ble (off+ln) m&&Nat.ble ln 100000&&zwv cap ln then zwu (yD t off ln) sep else none
  | _=>none
 | .zf=>some (.str [])
 | _=>none
def zkd (f:Nat) (args:List AV) (h:T Blk):Option (AV×T Blk):=bif Nat.beq f 171 then (match args with
 | [v,.str sep]=>match zpx v sep h with
  | some v=>some (v,h)
  | none=>none
 | _=>none) else none
theorem zgm:∀ {l:List AV} {xs:List (List UInt8)},cA l=some xs->l=xs.map .str
 | [],xs,h=>by simp [cA] at h;subst h;rfl
 | x::l,xs,h=>by
  cases x <;> first | (simp [cA] at h;done) | skip
  simp only [cA] at h;cases hl:cA l with
  | none=>simp [hl] at h
  | some ys=>simp [hl] at h;subst h;simp [zgm hl]
theorem HR.below {P:Program} {B:Nat} {E:Env} {h:T Blk} {nx:Pa} {w w':World} (H:HR P B E h nx w) (hb:Below w.heap.size w w'):HR P B E h nx w'/\Ex E E w w':=by
 refine ⟨{
  blk:=fun id hid=>by
   obtain ⟨b,n,o,q1,q2,q3⟩:=H.blk id hid;exact ⟨b,n,o,q1,by rw [hb.block b (H.lt _ _ _ q1).2];exact q2,q3⟩
  inj:=H.inj
  fresh:=H.fresh
  lt:=fun id b n hid=>⟨(H.lt id b n hid).1,Zcn (H.lt id b n hid).2 hb.size⟩
  base:=Zbt H.base hb.size
  frz:=fun b i v hf=>by
   obtain ⟨⟨c,ty,fr,q1,q2⟩,q3⟩:=H.frz b i v hf;exact ⟨⟨c,ty,fr,by rw [hb.block b (Array.getElem?_eq_some_iff.1 q1).1];exact q1,q2⟩,q3⟩ },?_⟩
 exact ⟨.refl _,hb.os,hb.tape,hb.output,hb.size,fun b hlt _=>hb.block b hlt,fun id b n hid=>.inr ⟨id,n,hid⟩,fun _ _ v h=>.inr (.inl ⟨v,h⟩),fun b L hL=>⟨L,by rw [hb.block b (Array.getElem?_eq_some_iff.1 hL).1];exact hL,.refl _⟩⟩
theorem zgn {B:Nat}:JOk Tryz.prog B zkd:=by
 intro E h nx w f args vs v h2 H hv hj;unfold zkd at hj;cases hf:Nat.beq f 171 with
 | false=>simp [hf] at hj
 | true =>
  obtain rfl:=yI hf;rw [hf,cond_true] at hj;split at hj
  case h_2=>cases hj
  rename_i _ x sep;cases hjj:zpx x sep h with
  | none=>simp [hjj] at hj
  | some v0 =>
  simp only [hjj,Option.some.injEq,Prod.mk.injEq] at hj;obtain ⟨rfl,rfl⟩:=hj;have hj:=hjj
  clear hjj
  refine ⟨_,Tryz.func171,by kernel_rfl,by kernel_rfl,fun n=>callsIn_wide.2 ?_⟩;obtain ⟨l⟩:=vs;simp only [VRL] at hv;obtain ⟨u,_,rfl,hu,s,_,rfl,hs,rfl⟩:=hv;simp only [VR] at hs;subst hs
  have fin:∀ (xs:List (List UInt8)) (w':World) (e:Ending),v0=.str (Lib.join xs sep)->e=.returned (.string ⟨(Lib.join ((xs.map fun s=>(⟨s.toArray⟩:ByteArray)).map (·.data.toList)) (⟨sep.toArray⟩:ByteArray).data.toList).toArray⟩)->Below w.heap.size w w' ->
    ∃ u E',e=.returned u/\VR E' v0 u/\HR Tryz.prog B E' h nx w'/\Ex E E' w w':=by
   intro xs w' e hve he hb;obtain ⟨h1,h2⟩:=H.below hb;refine ⟨_,E,he,?_,h1,h2⟩;rw [hve];simp only [VR,Zca]
   congr 2
   have:(xs.map ((fun x=>x.data.toList) ∘ fun s=>(⟨s.toArray⟩:ByteArray)))=xs:=by
    conv=>rhs;rw [<- List.map_id xs]
    exact Zbo fun _ _=>rfl
   rw [this]
  unfold zpx at hj;split at hj
  ·rename_i id off ln cap esz;split at hj
   ·rename_i op m t hb;cases hq:(Nat.beq esz 1&&Nat.ble (off+ln) m&&Nat.ble ln 100000&&zwv cap ln) with
    | false=>simp [hq] at hj
    | true =>
     rw [hq,cond_true] at hj;simp only [Zad] at hq;obtain ⟨⟨⟨q1,q2⟩,q3⟩,q4⟩:=hq;obtain rfl:=yI q1;have q2:=yF q2;have q3:=yF q3;unfold zwu at hj;cases hx:cA (yD t off ln) with
     | none=>simp [hx] at hj
     | some xs =>
      simp only [hx] at hj;cases hl:Nat.ble (Lib.join xs sep).length 100000 with
      | false=>simp [hl] at hj
      | true =>
       rw [hl,cond_true] at hj;have hl:=yF hl;obtain rfl:=(Option.some.inj hj).symm;have hxs:=zgm hx;have hln:xs.length=ln:=by
        have:=congrArg List.length hxs;simpa using this.symm
       obtain ⟨b,n,c,hE,rfl,hcap⟩:=hu.rZ;obtain ⟨b',n',o,h1,h2,h3⟩:=H.blk id (by rw [hb];intro e;cases e);rw [hE] at h1;cases h1;rw [hb] at h3;obtain ⟨cs,ty,fr,rfl,_,_,_,_,hc⟩:=h3
       have hjn:=Tryz.strings_Join b off c (xs.map fun s=>(⟨s.toArray⟩:ByteArray)) ⟨sep.toArray⟩ w (by
        intro j x hx2;rw [List.getElem?_map] at hx2;cases hxj:xs[j]? with
        | none=>simp [hxj] at hx2
        | some s =>
         simp [hxj] at hx2;subst hx2;have hjl:j<ln:=by rw [<- hln];exact (List.getElem?_eq_some_iff.1 hxj).1
         obtain ⟨_,v',g1,g2⟩:=hc (off+j) (by omega);have he:T.get .u (.of (off+j)) t=.str s:=by
          have e1:=yC t off ln j hjl;rw [hxs] at e1;simp [hxj] at e1;exact e1.symm
         rw [he] at g2;simp only [VR] at g2;subst g2
         simp [World.cell?,h2,g1]) (H.lt _ _ _ hE).2 (by simp;omega) (by
          simp only [Zas,hln];cases cap with
          | none=>exact hcap.1
          | some k =>
           have h4:ln<=k:=yF q4;have h5:c=k:=hcap;omega) (by
          have:((xs.map fun s=>(⟨s.toArray⟩:ByteArray)).map (·.data.toList))=xs:=by
           rw [Zca]
           conv=>rhs;rw [<- List.map_id xs]
           exact Zbo fun _ _=>rfl
          rw [this];show (Lib.join xs sep).length<=_;omega)
       rw [Zas,hln] at hjn;exact hjn.mono fun e w' ⟨he,hb⟩=>fin xs w' e rfl he hb
   ·cases hj
  ·obtain rfl:=(Option.some.inj hj).symm;simp only [VR] at hu;subst hu;exact (Tryz.strings_Join_none none 0 _ w).mono fun e w' ⟨he,hb⟩=>fin [] w' e rfl he (hb ▸ Below.refl _ _)
  ·cases hj
end Go.Ev
namespace Go.Ev
open Go Go.Proofs Go.RowKit Go.Sort
def xX:List AV->Option (List Int)
 | []=>some []
 | .int k n::l=>match k with
  | .i64=>match xX l with
   | some xs=>some (n::xs)
   | none=>none
  | _=>none
 | _=>none
theorem zgo:∀ {l:List AV} {xs:List Int},xX l=some xs->l=xs.map I
 | [],xs,h=>by simp [xX] at h;subst h;rfl
 | x::l,xs,h=>by
  cases x <;> first | (simp [xX] at h;done) | skip
  rename_i k n;cases k <;> first | (simp [xX] at h;done) | skip
  simp only [xX] at h;cases hl:xX l with
  | none=>simp [hl] at h
  | some ys=>simp [hl] at h;subst h;simp [zgo hl]
theorem zl7 (l:List Int):xX (l.map I)=some l:=by
 induction l with
 | nil=>rfl
 | cons a l ih=>show (match xX (l.map I) with | some xs=>some (a::xs) | none=>none)=_;rw [ih]
def zgp (v:AV) (h:T Blk):Option (T Blk):=match v with
 | .sl id off ln _ esz=>match T.get .no id h with
  | .cells op m t=>bif Nat.beq esz 1&&Nat.ble (off+ln) m&&Nat.ble ln 1000000 then (match xX (yD t off ln) with
   | some l=>some (T.set .no (.cells op m (yS ((srt l).map I) t off)) id h)
   | none=>none) else none
  | _=>none
 | .zf=>some h
 | _=>none
def qW (f:Nat) (args:List AV) (h:T Blk):Option (AV×T Blk):=bif Nat.beq f 138 then (match args with
 | [v]=>match zgp v h with
  | some h=>some (.tup [],h)
  | none=>none
 | _=>none) else none
theorem HR.sorted {P:Program} {B:Nat} {E:Env} {h:T Blk} {nx:Pa} {w:World} (H:HR P B E h nx w) {id:Pa} {op:Bool} {m off b n k:Nat} {t:T AV} {l l':List Int} {os:Array Obj} (hb:T.get .no id h=.cells op m t) (hE:E id=some (b,n))
  (hl':l'.length=l.length) (hm:off+l.length<=m) :
  HR P B E (T.set .no (.cells op m (yS (l'.map I) t off)) id h) nx (grow (putRow (Value.int .i64) (Sort.ahead w k) b off l'.toArray) os)/\Ex E E w (grow (putRow (Value.int .i64) (Sort.ahead w k) b off l'.toArray) os):=by
 have hid:T.get .no id h≠.no:=by rw [hb];intro e;cases e
 obtain ⟨b',n',o,h1,h2,h3⟩:=H.blk id hid;rw [hE] at h1;cases h1;rw [hb] at h3;obtain ⟨c,ty,fr,rfl,q1,q2,q3,q4,q5⟩:=h3;have hcs:(putCells (Value.int .i64) off l'.toArray c).size=c.size:=by simp [putCells]
 have hbr:BR P E n (.cells op m (yS (l'.map I) t off)) (.cells (putCells (Value.int .i64) off l'.toArray c) ty fr):=by
  refine ⟨_,ty,fr,rfl,by rw [hcs];exact q1,by rw [hcs];exact q2,q3,q4,fun i hi => ?_⟩;rw [uA];have hic:i<c.size:=by omega
  have hce:(putCells (Value.int .i64) off l'.toArray c)[i]? = some (if off<=i/\i<off+l'.length then Value.int .i64 (l'.toArray[i-off]!) else c[i]):=by
   simp [putCells,Array.getElem?_eq_getElem hic]
  rw [Zas];by_cases hr:off<=i/\i<off+l'.length
  ·rw [if_pos hr];rw [if_pos hr] at hce;have hj:i-off<l'.length:=by omega
   have e1:(l'.map I).getD (i-off) .u=I l'[i-off]:=by
    rw [Zaa,List.getElem?_map,List.getElem?_eq_getElem hj];rfl
   have e2:l'.toArray[i-off]! = l'[i-off]:=by simp [getElem!_pos,hj]
   rw [e1];exact ⟨rfl,_,hce,by rw [e2];simp only [VR]⟩
  ·rw [if_neg hr];rw [if_neg hr] at hce;obtain ⟨r1,v,r2,r3⟩:=q5 i hi;rw [Array.getElem?_eq_getElem hic] at r2;exact ⟨r1,_,hce,by rw [Option.some.inj r2];exact r3⟩
 have H1:=H.put hid hE hbr;have X1:Ex E E w (w.putObj b (.cells (putCells (Value.int .i64) off l'.toArray c) ty fr)):=Ex.put hE h2 fun L hL=>by cases hL
 have hbl:b<w.heap.size:=(Array.getElem?_eq_some_iff.1 h2).1;have hBel:Below (w.putObj b (.cells (putCells (Value.int .i64) off l'.toArray c) ty fr)).heap.size (w.putObj b (.cells (putCells (Value.int .i64) off l'.toArray c) ty fr)) (grow (putRow (Value.int .i64) (Sort.ahead w k) b off l'.toArray) os):=by
  refine ⟨rfl,rfl,rfl,?_,fun j hj => ?_⟩
  ·rw [World.putObj_size];simp [grow,putRow,mapBlock,Sort.ahead]
  ·rw [World.putObj_size] at hj;have e1:(grow (putRow (Value.int .i64) (Sort.ahead w k) b off l'.toArray) os).heap[j]? = (w.heap.modify b (onCells (putCells (Value.int .i64) off l'.toArray)))[j]? := by
    show (w.heap.modify b (onCells (putCells (Value.int .i64) off l'.toArray))++os)[j]? = _;rw [Array.getElem?_append_left (by simpa using hj)]
   rw [e1,Array.getElem?_modify];by_cases e:b=j
   ·subst e;rw [if_pos rfl,h2,gO _ hbl];rfl
   ·rw [if_neg e,yN _ (fun q=>e q.symm)]
 obtain ⟨r1,r2⟩:=H1.below hBel;exact ⟨r1,X1.trans r2⟩
theorem zpi {B:Nat} (law:∀ (blk off cap:Nat) (zs:List Int) (w:World),Holds (Value.int .i64) w blk off zs.toArray->blk<w.heap.size->zs.length<4611686018427387904 ->
   Go.Calls Tryz.prog 138 #[.slice (some ⟨blk,off,none⟩) zs.length cap] w fun e w'=>e=.returned (.tuple #[])/\∃ n os,w'=grow (putRow (Value.int .i64) (Sort.ahead w n) blk off (zs.mergeSort fun x y=>decide (x<=y)).toArray) os)
  (law0:∀ (p:Option Addr) (cap:Nat) (w:World),Go.Calls Tryz.prog 138 #[.slice p 0 cap] w fun e w'=>e=.returned (.tuple #[])/\w'=w):JOk Tryz.prog B qW:=by
 intro E h nx w f args vs v h2 H hv hj;unfold qW at hj;cases hf:Nat.beq f 138 with
 | false=>simp [hf] at hj
 | true =>
  obtain rfl:=yI hf;rw [hf,cond_true] at hj;split at hj
  case h_2=>cases hj
  rename_i _ x;cases hjj:zgp x h with
  | none=>simp [hjj] at hj
  | some hs =>
  simp only [hjj,Option.some.injEq,Prod.mk.injEq] at hj;obtain ⟨rfl,rfl⟩:=hj;refine ⟨_,Tryz.func138,by kernel_rfl,by kernel_rfl,fun n=>callsIn_wide.2 ?_⟩;obtain ⟨l⟩:=vs;simp only [VRL] at hv;obtain ⟨u,_,rfl,hu,rfl⟩:=hv;unfold zgp at hjj;split at hjj
  ·rename_i id off ln cap esz;split at hjj
   ·rename_i op m t hb;cases hq:(Nat.beq esz 1&&Nat.ble (off+ln) m&&Nat.ble ln 1000000) with
    | false=>simp [hq] at hjj
    | true =>
     rw [hq,cond_true] at hjj;simp only [Zad] at hq;obtain ⟨⟨q1,q2⟩,q3⟩:=hq;obtain rfl:=yI q1;have q2:=yF q2;have q3:=yF q3;cases hx:xX (yD t off ln) with
     | none=>simp [hx] at hjj
     | some xs =>
      simp only [hx,Option.some.injEq] at hjj;subst hjj;have hxs:=zgo hx;have hln:xs.length=ln:=by
       have:=congrArg List.length hxs;simpa using this.symm
      obtain ⟨b,n,c,hE,rfl,hcap⟩:=hu.rZ;obtain ⟨b',n',o,h1,h2,h3⟩:=H.blk id (by rw [hb];intro e;cases e);rw [hE] at h1;cases h1;rw [hb] at h3;obtain ⟨cs,ty,fr,rfl,g1,g2,g3,g4,hc⟩:=h3;have hH:Holds (Value.int .i64) w b off xs.toArray:=by
       intro j hj;have hj:j<xs.length:=by simpa using hj
       obtain ⟨_,v',k1,k2⟩:=hc (off+j) (by omega);have he:T.get .u (.of (off+j)) t=I xs[j]:=by
        have e1:=yC t off ln j (by omega);rw [hxs,List.getElem?_map,List.getElem?_eq_getElem hj] at e1;exact (Option.some.inj e1).symm
       rw [he] at k2;simp only [VR] at k2;subst k2;have e2:xs.toArray[j]! = xs[j]:=by simp [getElem!_pos,hj]
       rw [e2];refine ⟨by simp [World.cell?,h2,k1],?_⟩;have:=g1 (off+j) (Array.getElem?_eq_some_iff.1 k1).1;simp only [World.frozen?,h2];obtain ⟨lo,hi⟩:=fr;simp only [Bool.and_eq_false_iff,decide_eq_false_iff_not];simp only at this;omega
      rw [<- hln];refine (law b off c xs w hH (H.lt _ _ _ hE).2 (by omega)).mono ?_;rintro e w' ⟨rfl,k,os,rfl⟩;have hp:(srt xs).length=xs.length:=(wH xs).length_eq;obtain ⟨r1,r2⟩:=H.sorted (off:=off) (l:=xs) (l':=srt xs) (k:=k) (os:=os) hb hE hp (by omega);exact ⟨_,E,rfl,by simp only [VR,VRL];exact ⟨_,rfl,rfl⟩,r1,r2⟩
   ·cases hjj
  ·obtain rfl:=(Option.some.inj hjj).symm;simp only [VR] at hu;subst hu;refine (law0 none 0 w).mono ?_;rintro e w' ⟨rfl,rfl⟩;exact ⟨_,E,rfl,by simp only [VR,VRL];exact ⟨_,rfl,rfl⟩,H,.refl _ _⟩
  ·cases hjj
end Go.Ev
namespace Go.Ev
open Go Go.Proofs
variable {B:Nat}
theorem zuk {h0 h:T Blk} {nx p:Pa} {L:List Ob} {k n:Nat} {o:Option Pa} {l:List Int} {K:Kw Prop} (hj:∀ B,JOk Tryz.prog B qW) (H:Hp h0 h nx L) (hk:L[k]? = some (.gro o 1 n (l.map I))) (hn:n<=1000000)
  (hK:∀ h',Hp h0 h' nx (L.set k (.gro o 1 n ((srt l).map I)))->K (.tup []) h' nx=.ok True):(CS Tryz.prog B).fn 138 p [qx o 1 n] h nx K=.ok True:=by
 have own:=H.own _ (Zab hk);cases o with
 | none =>
  obtain ⟨q1,rfl⟩:=own;obtain rfl:l=[]:=by simpa using q1
  refine cW (hj B) (v:=.tup []) (h2:=h) rfl (hK h (H.cast ?_));have e:(srt ([]:List Int)).map I=[]:=by simp [srt]
  rw [e,(xY hk).2];exact (xY hk).1
 | some id =>
  obtain ⟨t,h1,h2,h3⟩:=own;rw [Zcc] at h1 h2 h3;have e1:zgp (.sl id 0 n none 1) h=some (T.set Blk.no (Blk.cells true n (yS ((srt l).map I) t 0)) id h):=by
   show (match T.get Blk.no id h with
    | .cells op m t=>bif Nat.beq 1 1&&Nat.ble (0+n) m&&Nat.ble n 1000000 then (match xX (yD t 0 n) with
     | some l=>some (T.set Blk.no (Blk.cells op m (yS ((srt l).map I) t 0)) id h)
     | none=>none) else none
    | _=>none)=_
   rw [h1]
   show (bif Nat.beq 1 1&&Nat.ble (0+n) n&&Nat.ble n 1000000 then (match xX (yD t 0 n) with
     | some l=>some (T.set Blk.no (Blk.cells true n (yS ((srt l).map I) t 0)) id h)
     | none=>none) else none)=_
   rw [Zac (by omega),Zac hn,h3,zl7];rfl
  have e2:qW 138 [qx (some id) 1 n] h=some (.tup [],T.set Blk.no (Blk.cells true n (yS ((srt l).map I) t 0)) id h):=by
   show (match zgp (.sl id 0 n none 1) h with
    | some h=>some ((.tup []:AV),h)
    | none=>none)=_
   rw [e1]
  refine cW (hj B) e2 (hK _ (H.upd hk (by simp [Ob.names]) rfl ⟨_,by rw [T.get_set_same,Zcc],by simpa using h2,?_⟩));have:=uU t [] ((srt l).map I) 0 rfl;rw [Zaw,List.nil_append] at this;have hl:((srt l).map I).length=n:=by simpa using h2
  rw [hl] at this;rw [Zcc];exact this
theorem zl8 {l:List Int} (hj:∀ B,JOk Tryz.prog B qW) (hl:l.length<=100000):Pure Tryz.prog B 101 [.fn 169 (.of 169) [.fp [encI l]]] (· = encI (srt l)):=by
 refine yE fun h nx K H0 hK=>zP zR yh 100 fun hf => ?_;rw [oV.go];refine jB (p:=.of 168) (K:=fun v1 h2 n3=>(CS Tryz.prog B).fn 138 (.of 138) [v1] h2 n3 fun v4 h5 n6=>K v1 h5 n6) (zP zR yh 100 fun hf => ?_) fun _ _ _ _ q=>q;rw [oW.go];refine zl0 hl H0 fun o h1 nx1 H1 => ?_;refine zuk hj H1 (k:=0) rfl (by omega) fun h2 H2 => ?_;refine hK _ _ _ _ _ H2 (H2.zaf (k:=0) rfl (by intro v hv;obtain ⟨t,_,rfl⟩:=List.mem_map.1 hv;rfl)) ?_;show _=AV.lst 1 _ _;rw [ziq]
theorem zym {a:Int} {n:Nat} (h:0<=a) (hn:0<n):0<=a.tdiv n/\a.tdiv n<=a:=by
 rw [Int.tdiv_eq_ediv_of_nonneg h];exact ⟨Int.ediv_nonneg h (by omega),Int.ediv_le_self _ h⟩
theorem qcf {a:Int} {n:Nat} {K:AV->OP} (h:0<=a) (h2:a<=9223372036854775807) (hn:0<n):zh .quo .int (I a) (I (n:Int)) K=K (I (a.tdiv n)):=by
 obtain ⟨q1,q2⟩:=zym h hn;have e:zh .quo .int (I a) (I (n:Int)) K=(bif ieq (n:Int) 0 then Out.no 5 else xg (IntKind.wrap .i64 (a.tdiv n)) fun z=>K (.int .i64 z)):=rfl;rw [e,vK];have hb:((n:Int)==0)=false:=by simp;omega
 rw [hb,cond_false,gU,kE (by omega)]
end Go.Ev
namespace Go.Ev
open Go.Proofs
def shr (lines:List (List Int)) (f:List Nat):List Int:=lines.map fun l=>((con 0 f l:Nat):Int)
end Go.Ev
namespace Go.Ev
open Go Go.Proofs
variable {B:Nat}
theorem zpy {k:IntKind} {x:Nat} {K:AV->OP}:vT .u8 (.int k (x:Int)) K=K (u8 (x%256)):=by
 show xg (kO .u8 (x:Int)) (fun z=>K (.int .u8 z))=_;rw [gU,wF,IntKind.wrap_u8];have:u8 (x%256)=.int .u8 ((x:Int)%256):=by unfold u8;congr 1
 rw [this]
theorem Hp.swap {h0 h:T Blk} {nx:Pa} {a b:Ob} {L:List Ob} (H:Hp h0 h nx (a::b::L)):Hp h0 h nx (b::a::L):=H.perm (.swap _ _ _)
end Go.Ev
namespace Go.Ev
structure zar (n:Nat) (to:List Int):Prop where
 len:to.length=n
 nd:to.Nodup
 rg:∀ x∈to,0<=x/\x<(n:Int)
theorem subP {α:Type} [DecidableEq α]:∀ (l r:List α),l.Nodup->(∀ x∈l,x∈r)->∃ s,r.Perm (l++s)
 | [],r,_,_=>⟨r,.refl _⟩
 | a::l,r,hn,hs=>by
  obtain ⟨h1,h2⟩:=List.nodup_cons.1 hn;have ha:=hs a (by simp);obtain ⟨s,hp⟩:=subP l (r.erase a) h2 fun x hx=>(List.mem_erase_of_ne (by rintro rfl;exact h1 hx)).2 (hs x (by simp [hx]));exact ⟨s,(List.perm_cons_erase ha).trans (.cons a hp)⟩
theorem eqP {α:Type} [DecidableEq α] {l r:List α} (h1:l.Nodup) (h2:∀ x∈l,x∈r) (h3:r.length<=l.length):r.Perm l:=by
 obtain ⟨s,hs⟩:=subP l r h1 h2;have hl:=hs.length_eq;obtain rfl:s=[]:=Zbe (by rw [Zat] at hl;omega);simpa using hs
theorem zar.at {n:Nat} {to:List Int} (h:zar n to) {i:Nat} (hi:i<n):to[i]? = some (to.getD i 0):=by
 rw [Zaa,List.getElem?_eq_getElem (by rw [h.len];exact hi)];rfl
theorem zar.bd {n:Nat} {to:List Int} (h:zar n to) {i:Nat} (hi:i<n):0<=to.getD i 0/\to.getD i 0<(n:Int):=h.rg _ (Zab (h.at hi))
theorem zar.inj {n:Nat} {to:List Int} (h:zar n to) {i j:Nat} (hi:i<n) (hj:j<n) (e:to.getD i 0=to.getD j 0):i=j:=by
 obtain ⟨a1,a2⟩:=List.getElem?_eq_some_iff.1 (h.at hi);obtain ⟨b1,b2⟩:=List.getElem?_eq_some_iff.1 (h.at hj);have hp:=List.pairwise_iff_getElem.1 h.nd;rcases Nat.lt_trichotomy i j with c | c | c
 ·exact absurd (a2.trans (e.trans b2.symm)) (hp i j a1 b1 c)
 ·exact c
 ·exact absurd (b2.trans (e.symm.trans a2.symm)) (hp j i b1 a1 c)
theorem zar.surj {n:Nat} {to:List Int} (h:zar n to) {j:Nat} (hj:j<n):∃ i,i<n/\to.getD i 0=(j:Int):=by
 have hp:((List.range n).map fun (i:Nat)=>(i:Int)).Perm to:=eqP h.nd (fun x hx=>by
  have:=h.rg x hx;exact List.mem_map.2 ⟨x.toNat,List.mem_range.2 (by omega),by omega⟩) (by simp [h.len])
 have hm:(j:Int)∈to:=hp.mem_iff.1 (List.mem_map.2 ⟨j,List.mem_range.2 hj,rfl⟩);obtain ⟨i,hi⟩:=List.mem_iff_getElem?.1 hm;have hil:=(List.getElem?_eq_some_iff.1 hi).1;refine ⟨i,by rw [<- h.len];exact hil,?_⟩;rw [Zaa,hi];rfl
end Go.Ev
namespace Go.Ev
open Go Go.Proofs
variable {B:Nat}
def mkL (n:Nat) (to line:List Int) (k:Nat):List Bool:=(List.range n).map fun c:Nat=>(line.take k).any fun x=>decide (to.getD x.toNat 0=(c:Int))
@[simp] theorem zyn (n:Nat) (to line:List Int) (k:Nat):(mkL n to line k).length=n:=by simp [mkL]
theorem zl9 (o:Option Pa) (e n:Nat):jc (qx o e n)=true:=by cases o <;> rfl
theorem zke {n:Int} {K:AV->OP}:jO [(I 0),.zf] [(0,1,I n)] K=K (.agg [I n,.zf]):=nr rfl
def zb8 (ns:List Pa) (h:T Blk):T Blk:=ns.foldl (fun h n=>T.set .no .no n h) h
theorem zb9:∀ (ns:List Pa) (h:T Blk) (j:Pa),(j∈ns\/T.get .no j h=.no)->T.get .no j (zb8 ns h)=.no
  | [],h,j,q=>by rcases q with q | q;· simp at q
                 · exact q
  | n::ns,h,j,q=>by
    show T.get .no j (zb8 ns (T.set .no .no n h))=_;refine zb9 ns _ j ?_;by_cases e:j=n
    · subst e;exact .inr (T.get_set_same _ _ _ _)
    · rcases q with q | q
      · rcases List.mem_cons.1 q with q | q
        · exact absurd q e
        · exact .inl q
      · exact .inr (by rw [T.zy _ _ _ _ _ e];exact q)
theorem zdf:∀ (ns:List Pa) (h:T Blk) (j:Pa),j∉ns->T.get .no j (zb8 ns h)=T.get .no j h
 | [],_,_,_=>rfl
 | n::ns,h,j,q=>by
  show T.get .no j (zb8 ns (T.set .no .no n h))=_;rw [zdf ns _ j fun r=>q (Zap _ r),T.zy _ _ _ _ _ fun e=>q (by rw [e];exact Zam ..)]
theorem Hp.base {h0 h:T Blk} {nx:Pa} {L:List Ob} (H:Hp h0 h nx L):Hp .e h nx L :=
 ⟨fun j hj=>absurd (T.cu _ j) hj,H.own,fun n _=>T.cu _ n,H.nd,H.fr⟩
abbrev TRow:=AV×Ob×List Int
def oH (t:TRow):Prop:=(∃ p cap,dL t.2.2.length cap/\t.2.1=.arr p (t.2.2.map I)/\t.1=.sl p 0 t.2.2.length cap 1)\/∃ o,t.2.1=.gro o 1 t.2.2.length (t.2.2.map I)/\t.1=qx o 1 t.2.2.length
theorem oH.jc {t:TRow} (h:oH t):jc t.1=true:=by
 rcases h with ⟨p,cap,_,_,e⟩ | ⟨o,_,e⟩
 ·rw [e];rfl
 ·rw [e];exact zl9 _ _ _
theorem oH.cells {t:TRow} (h:oH t):t.1.cells=some [t.1]:=by
 rcases h with ⟨p,cap,_,_,e⟩ | ⟨o,_,e⟩
 ·rw [e];rfl
 ·rw [e];exact uO _ _ _
theorem zet (l:List Int):∀ v∈l.map I,rD v=true:=fun v hv=>by obtain ⟨x,_,rfl⟩:=List.mem_map.1 hv;rfl
theorem oH.frz {h0 h:T Blk} {nx:Pa} {L:List Ob} {t:TRow} (hr:oH t) (H:Hp h0 h nx L) (hm:t.2.1∈L):rU h0 h t.1 (encI t.2.2):=by
 obtain ⟨k,hk⟩:=List.mem_iff_getElem?.1 hm;rcases hr with ⟨p,cap,hc,e1,e2⟩ | ⟨o,e1,e2⟩
 ·rw [e1] at hk;rw [e2];exact H.zae hk hc (by simp) (zet _)
 ·rw [e1] at hk;rw [e2];exact H.zaf hk (zet _)
theorem oH.len {h0 h:T Blk} {nx:Pa} {L:List Ob} {t:TRow} (hr:oH t) (H:Hp h0 h nx L) (hm:t.2.1∈L) (op:AV->OP):sLen t.1 op=op (I t.2.2.length):=by
 obtain ⟨k,hk⟩:=List.mem_iff_getElem?.1 hm;rcases hr with ⟨p,cap,hc,e1,e2⟩ | ⟨o,e1,e2⟩
 ·rw [e2];rfl
 ·rw [e1] at hk;rw [e2];exact H.zbw hk
theorem oH.rd {h0 h:T Blk} {nx:Pa} {L:List Ob} {t:TRow} (hr:oH t) (H:Hp h0 h nx L) (hm:t.2.1∈L) (no:OP) (K':List AV->Nat->OP):uP t.1 h no K'=K' (t.2.2.map I) t.2.2.length:=by
 obtain ⟨k,hk⟩:=List.mem_iff_getElem?.1 hm;rcases hr with ⟨p,cap,hc,e1,e2⟩ | ⟨o,e1,e2⟩
 ·rw [e1] at hk hm;rw [e2];exact yx.rd (H.own _ hm) (by simp) no K'
 ·rw [e1] at hk;rw [e2];rw [H.zjy hk (Zai _),Zal (by simp)]
def lsE (n:Int):Option (List Int)->List (List Int)->Int
 | _,[]=>0
 | p,f::l=>if d9 n f≠0 then d9 n f else if (p.any fun q => !jC q f)=true then 11 else lsE n (some f) l
theorem zpz {n:Int}:∀ {l:List (List Int)} {p:Option (List Int)},lsE n p l=0->(∀ f∈l,d9 n f=0)/\Ord l/\∀ q,p=some q->∀ f∈l,jC q f=true
 | [],_,_=>⟨by simp,.nil,by simp⟩
 | f::l,p,h=>by
  rw [lsE] at h;by_cases c1:d9 n f=0
  case neg=>rw [if_pos c1] at h;exact absurd h c1
  rw [if_neg (by simp [c1])] at h;cases c2:p.any fun q => !jC q f with
  | true=>rw [c2,if_pos rfl] at h;cases h
  | false =>
   rw [c2,if_neg (by simp)] at h;obtain ⟨h1,h2,h3⟩:=zpz h;have h4:=h3 f rfl;refine ⟨fun x hx => ?_,List.pairwise_cons.2 ⟨h4,h2⟩,fun q hq x hx => ?_⟩
   ·rcases List.mem_cons.1 hx with rfl | hx
    ·exact c1
    ·exact h1 x hx
   ·subst hq;have hqf:jC q f=true:=by simpa using c2
    rcases List.mem_cons.1 hx with rfl | hx
    ·exact hqf
    ·have:=h4 x hx;rw [kH] at hqf this ⊢;exact decide_eq_true (j7 (of_decide_eq_true hqf) (of_decide_eq_true this))
theorem ziv {n:Int} {f:List Int} (h:d9 n f=0):(f.length:Int)=n/\∀ x∈f, -999999999<=x/\x<=999999999:=by
 rw [d9] at h;by_cases c:(f.length:Int)=n
 ·rw [if_neg (by simp [c])] at h;refine ⟨c,fun x hx => ?_⟩;have hn:f.any outR=false:=by
   cases q:f.any outR with
   | false=>rfl
   | true=>rw [q,if_pos rfl] at h;cases h
  have:=List.any_eq_false.1 hn x hx;simp only [outR,Zbq,decide_eq_true_eq] at this;omega
 ·rw [if_pos c] at h;cases h
def imgB (G:List Sym) (l:List (List Int)):Bool:=l.all fun f=>G.all fun g=>decide (yG g.2 g.1 f∈l)
def zkf (G:List Sym) (n:Int) (l:List (List Int)):Int:=if 1024<l.length then 5 else if lsE n none l≠0 then lsE n none l else if imgB G l=false then 7 else 0
def dJ (G:List Sym):Int:=if h:0<G.length then ((G[0].1.length:Nat):Int) else 0
def zp0 (G:List Sym) (l:List (List Int)):Int:=if jI G (dJ G)≠0 then jI G (dJ G) else zkf G (dJ G) l
def leastOf (p:List (List Int)) (j:Nat):Int:=p.foldl (fun m row=>min m (row.getD j 0)) (j:Int)
def szAt (p:List (List Int)) (n i:Nat):Nat:=((List.range n).filter fun j=>decide (leastOf p j=(i:Int))).length
def szL (p:List (List Int)) (w n:Nat):List Int:=(List.range w).map fun i=>((szAt p n i:Nat):Int)
def PlOk (p:List (List Int)) (n:Nat):Prop:=∀ row∈p,row.length=n/\∀ x∈row,0<=x/\x<(n:Int)
@[simp] theorem qde (p:List (List Int)) (w n:Nat):(szL p w n).length=w:=by simp [szL]
theorem wZ (b:Bool) (e:Int):Pure Tryz.prog B 76 [.bool b,I e] (· = I (if b then e else 0)):=by
 intro p h nx K hK;refine zP zR yh 9 fun hf => ?_;rw [F76.go];cases b <;> simp (disch:=omega) only [jk,sD,sV,rG,qm,jl,sO,xk,sH,zZ,zW,zH,zJ,jN,yQ,yY,jU,yV,jK,jL,gZ,gJ,gB,gI,zO,jJ,yU,zI,decide_true,decide_false,Zaf,Zag,jX] <;> exact hK _ rfl hf
theorem zca {l:List Int} (hl:l.length<=1000000):Pure Tryz.prog B 72 [encI l] (· = I (wT l)):=by
 intro p h nx K hK;refine zP zR yh 10000000 fun hf => ?_;rw [F72.go];simp (disch:=omega) only [jk,sD,sV,rG,qm,jl,sO,xk,sH,zZ,zW,zH,zJ,jN,yQ,yY,jU,yV,jK,jL,gZ,gJ,gB,gI,zO,jJ,yU,zI,decide_true,decide_false,Zaf,Zag,jX];refine F72.L1 (fun m z5 h' nx'=>∃ i:Nat,z5=I i/\l.length-i=m/\i<=l.length/\h'=h/\nx'=nx/\∀ e∈l.take i,e=0) (m:=l.length) (by omega) ⟨0,rfl,rfl,by omega,rfl,rfl,by simp⟩ ?_;rintro m z1 z2 z5 z6 z7 _ _ R ⟨i,rfl,rfl,hi,rfl,rfl,htk⟩ hR;simp (disch:=omega) only [jk,sD,sV,rG,qm,jl,sO,xk,sH,zZ,zW,zH,zJ,jN,yQ,yY,jU,yV,jK,jL,gZ,gJ,gB,gI,zO,jJ,yU,zI,decide_true,decide_false,Zaf,Zag,jX];by_cases hlt:i<l.length
 ·simp only [show (i:Int)<(l.length:Int) by omega,decide_true,zH];have hx:l[i]? = some l[i]:=List.getElem?_eq_getElem hlt;rw [xu rfl hlt,ldL (fD hx)];simp (disch:=omega) only [jk,sD,sV,rG,qm,jl,sO,xk,sH,zZ,zW,zH,zJ,jN,yQ,yY,jU,yV,jK,jL,gZ,gJ,gB,gI,zO,jJ,yU,zI,decide_true,decide_false,Zaf,Zag,jX];have hd:l.drop i=l[i]::l.drop (i+1):=Zar hlt;by_cases h0:l[i]=0
  ·simp only [h0,decide_true,Zaf,zJ];refine hR _ _ _ _ _ _ _ _ (by omega) ⟨i+1,rfl,rfl,by omega,rfl,rfl,fun e he => ?_⟩;rw [Zan,hx] at he;rcases List.mem_append.1 he with q | q
   ·exact htk e q
   ·simp at q;rw [q];exact h0
  ·simp only [h0,decide_false,Zag,zH];refine hK _ ?_ hf;rw [qO l i htk,hd,wT,if_pos h0]
 ·simp only [show ¬ (i:Int)<(l.length:Int) by omega,decide_false,zJ];obtain rfl:i=l.length:=by omega
  rw [F72.k8];refine hK _ ?_ hf;have:=qO l l.length htk;rw [this,List.drop_length];rfl
theorem zgq (n:Int):Pure Tryz.prog B 125 [I n] (· = I (if n<0\/256<n then 3 else 0)):=by
 intro p h nx K hK;refine zP zR yh 9 fun hf => ?_;rw [F125.go];simp only [jl];by_cases c1:n<0
 ·simp only [c1,decide_true,yY,zZ];refine wZ _ _ _ _ _ _ ?_;rintro _ rfl hf2;exact hK _ (by rw [if_pos (.inl c1)];rfl) hf2
 ·simp only [c1,decide_false,yQ,xk,zW];refine wZ _ _ _ _ _ _ ?_;rintro _ rfl hf2;refine hK _ ?_ hf2;by_cases c2:256<n
  ·rw [if_pos (.inr c2),if_pos (decide_eq_true c2)]
  ·rw [if_neg (by omega),if_neg (by simpa using c2)]
theorem zul {l:List Int} (hl:l.length<=100000):Pure Tryz.prog B 187 [encI l] (· = I (uM l)):=by
 refine yE fun h nx K H0 hK=>zP zR yh 1000000 fun hf => ?_;rw [ji.go];rw [zO];simp only [xk];by_cases c:(256:Int)<(l.length:Int)
 ·simp only [c,decide_true,zH];exact hK _ _ _ _ _ H0 (zL rfl) (by rw [uM,if_pos (by omega)])
 have hpe:uM l=if rW l then 0 else 14:=by rw [uM,if_neg (by omega)]
 simp only [c,decide_false,zJ];rw [zO];refine H0.mk1 l.length rfl rfl (by omega) (by decide) fun tb h1 nx1 H1 => ?_;rw [zO];have e0:List.replicate l.length (AV.bool false)=(hadL l.length []).map AV.bool:=by simp [hadL]
 rw [e0] at H1
 refine ji.L2 (fun m x3 h' nx'=>∃ i:Nat,x3=I i/\m=l.length-i/\i<=l.length/\(l.take i).Nodup/\(∀ x∈l.take i,0<=x/\x<(l.length:Int))/\Hp h h' nx' [.arr tb ((hadL l.length (l.take i)).map AV.bool)]) (m:=l.length) (by omega)
  ⟨0,rfl,by omega,by omega,by simp,by simp,by simpa using H1⟩ ?_
 rintro m z1 z3 z7 z8 z9 h2 nx2 R ⟨i,rfl,rfl,hi,hnd,hrg,H2⟩ hR;simp only [jl];by_cases hlt:i<l.length
 case neg =>
  simp only [show ¬ (i:Int)<(l.length:Int) by omega,decide_false,zJ];rw [ji.k10];rw [Zal (by omega)] at hnd hrg;exact hK _ _ _ _ _ H2 (zL rfl) (by rw [hpe,if_pos ⟨hnd,hrg⟩])
 simp only [show (i:Int)<(l.length:Int) by omega,decide_true,zH];have hx:l[i]? = some l[i]:=List.getElem?_eq_getElem hlt;have bad:¬ rW l->K (I 14) h2 nx2=.ok True:=fun q=>hK _ _ _ _ _ H2 (zL rfl) (by rw [hpe,if_neg q]);have hrange:rW l->0<=l[i]/\l[i]<(l.length:Int):=fun q=>q.2 _ (Zak hlt);rw [xu rfl hlt,ldL (fD hx)];by_cases c1:l[i]<0
 ·simp only [jl,c1,decide_true,yY,zZ,zH];exact bad fun q=>by have:=hrange q;omega
 simp only [jl,c1,decide_false,yQ];rw [zO];simp only [sH,zW];by_cases c2:(l.length:Int)<=l[i]
 ·simp only [c2,decide_true,yY,zZ,zH];exact bad fun q=>by have:=hrange q;omega
 simp only [c2,decide_false,yQ];have hk:(l[i]).toNat<l.length:=by omega
 have hg:((hadL l.length (l.take i)).map AV.bool)[(l[i]).toNat]? = some (.bool (decide (l[i]∈l.take i))):=by
  rw [List.getElem?_map,zgb (fun x hx=>(hrg x hx).1) hk,show (((l[i]).toNat:Nat):Int)=l[i] by omega];rfl
 rw [sIx (i:=(l[i]).toNat) (by omega) hk,H2.load (k:=0) rfl hg];simp only [zW];by_cases c3:l[i]∈l.take i
 ·simp only [c3,decide_true,zH];refine bad fun q => ?_;obtain ⟨j,hj⟩:=List.mem_iff_getElem?.1 c3;have hjl:=(List.getElem?_eq_some_iff.1 hj).1;rw [Zax] at hjl;rw [List.getElem?_take_of_lt (by omega)] at hj;obtain ⟨a1,a2⟩:=List.getElem?_eq_some_iff.1 hj;exact List.pairwise_iff_getElem.1 q.1 j i a1 hlt (by omega) a2
 simp only [c3,decide_false,zJ];rw [ji.k8,sIx (i:=(l[i]).toNat) (by omega) hk];refine H2.store (k:=0) rfl (by rw [Zas,cJ];exact hk) rfl fun h3 H3 => ?_;rw [ji.k9,jk (by omega)];have htk:l.take (i+1)=l.take i++[l[i]]:=by rw [Zan,hx];rfl
 refine hR _ _ _ _ _ _ _ _ (by omega) ⟨i+1,rfl,rfl,by omega,?_,?_,H3.cast ?_⟩
 ·rw [htk];exact List.nodup_append.2 ⟨hnd,by simp,fun a ha b hb=>by simp at hb;subst hb;rintro rfl;exact c3 ha⟩
 ·intro x hm;rw [htk] at hm;rcases List.mem_append.1 hm with q | q
  ·exact hrg x q
  ·simp at q;subst q;omega
 ·rw [htk,zdd];simp [List.map_set]
theorem zma {l:List Int} (hl:l.length<=100000):Pure Tryz.prog B 126 [encI l] (· = .bool (decide (uM l=0))):=by
 intro p h nx K hK;refine zP zR yh 100 fun hf => ?_;rw [o9.go];refine zul hl _ _ _ _ ?_;rintro _ rfl hf2;simp only [rG];exact hK _ rfl hf2
theorem zp1 {g:List Int} {c:Bool} {n:Int} (hl:g.length<=100000):Pure Tryz.prog B 64 [.agg [encI g,.bool c],I n] (· = I (jW g n)):=by
 refine yE fun h nx K H0 hK=>zP zR yh 1000 fun hf => ?_;rw [F64.go];refine H0.box (l:=[encI g,.bool c]) rfl fun bx h1 nx1 H1 => ?_;rw [sFx,H1.load (k:=0) (i:=0+0) rfl rfl];simp only [zO,qm];rw [sFx,H1.load (k:=0) (i:=0+0) rfl rfl];refine zgq n _ _ _ _ ?_;rintro _ rfl _;rw [H1.load (k:=0) (i:=0+0) rfl rfl];simp only [zI,sFx,qm,zO];rw [H1.load (k:=0) (i:=0+0) rfl rfl];simp only [zI];refine wZ _ _ _ _ _ _ ?_;rintro _ rfl _;rw [H1.load (k:=0) (i:=0+0) rfl rfl];simp only [zI];refine zma hl _ _ _ _ ?_;rintro _ rfl _;simp only [yV];refine wZ _ _ _ _ _ _ ?_;rintro _ rfl _;refine H1.yj (l:=[I (if n<0\/256<n then 3 else 0),I (if (!decide ((g.length:Int)=n))=true then 2 else 0),I (if (!decide (uM g=0))=true then 14 else 0)]) rfl fun id h4 nx4 H4 => ?_;refine d4 (l:=[if n<0\/256<n then 3 else 0,if (!decide ((g.length:Int)=n))=true then 2 else 0,if (!decide (uM g=0))=true then 14 else 0]) H4 (k:=0) rfl (fun B=>zca (by simp)) (fun v hv=>by rw [hv];exact .int _ _) ?_;rintro _ rfl;refine hK _ _ _ _ _ H4 (zL rfl) ?_
 congr 1
 rw [jW];by_cases c1:n<0\/256<n
 ·rw [if_pos c1,if_pos c1];rfl
 rw [if_neg c1,if_neg c1];by_cases c2:(g.length:Int)=n
 case neg=>rw [if_pos (show (g.length:Int)≠n from c2),decide_eq_false c2];rfl
 rw [if_neg (show ¬ ((g.length:Int)≠n) from fun q=>q c2),decide_eq_true c2];have:uM g=if rW g then 0 else 14:=by rw [uM,if_neg (by omega)]
 rw [this];by_cases c3:rW g
 ·rw [if_pos c3];rfl
 ·rw [if_neg c3];rfl
theorem zgr {G:List Sym} {n:Int} (hG:G.length<=100000) (hw:∀ g∈G,g.1.length<=100000):Pure Tryz.prog B 199 [vw G,I n] (· = I (jY n G)):=by
 refine yE fun h nx K H0 hK=>zP zR yh 1000000 fun hf => ?_;rw [uj.go];simp only [zO];refine uj.L1 (fun m x7 h' nx'=>∃ (i:Nat) (L:List Ob),x7=I i/\G.length-i=m/\i<=G.length/\jY n G=jY n (G.drop i)/\Hp h h' nx' L) (m:=G.length) (by omega) ⟨0,_,rfl,rfl,by omega,rfl,H0⟩ ?_;rintro m z2 z3 z4 z7 z8 z9 h2 nx2 R ⟨i,L,rfl,rfl,hi,hs,H2⟩ hR;simp only [jl];by_cases hlt:i<G.length
 case neg =>
  simp only [show ¬ (i:Int)<(G.length:Int) by omega,decide_false,zJ];obtain rfl:i=G.length:=by omega
  rw [uj.k8];exact hK _ _ _ _ _ H2 (zL rfl) (by rw [hs,List.drop_length];rfl)
 simp only [show (i:Int)<(G.length:Int) by omega,decide_true,zH];rw [xu rfl hlt,j5 hlt,qX];refine H2.alloc fun ab h5 nx5 H5 => ?_;refine H5.qy (k:=0) (n:=2) rfl rfl rfl fun h6 H6 => ?_;rw [H6.zn (k:=0) (n:=2) rfl rfl];refine zp1 (hw _ (Zak hlt)) _ _ _ _ ?_;rintro _ rfl _;have hs2:=mF hlt (n:=n);simp only [qm];by_cases c:jW G[i].1 n=0
 ·simp only [c,decide_true,Zaf,zJ];rw [jk (by omega)];exact hR _ _ _ _ _ _ _ _ _ (by omega) ⟨i+1,_,rfl,rfl,by omega,by rw [hs,hs2,if_neg (by simp [c])],H6⟩
 ·simp only [c,decide_false,Zag,zH];exact hK _ _ _ _ _ H6 (zL rfl) (by rw [hs,hs2,if_pos c])
def cmpS (a b:Sym):Int:=if cmpL a.1 b.1≠0 then cmpL a.1 b.1 else if a.2=b.2 then 0 else if a.2 then 1 else -1
theorem zgs (a b:Sym):cmpS a b<0↔aY a b=true:=by
 rw [cmpS,aY];by_cases c:a.1=b.1
 ·have:=(zgl a.1 b.1).2 c;rw [if_neg (by simp [this]),if_pos c];cases a.2 <;> cases b.2 <;> decide
 ·have:¬ cmpL a.1 b.1=0:=fun q=>c ((zgl a.1 b.1).1 q);rw [if_pos this,if_neg c];exact cmp_neg a.1 b.1
theorem zyo {a b:Bool} {K:AV->OP}:zh .eql .bool (.bool a) (.bool b) K=K (.bool (decide (a=b))):=by cases a <;> cases b <;> exact nr rfl
theorem ziw {a b:Sym} (ha:a.1.length<=1000000) (hb:b.1.length<=1000000):Pure Tryz.prog B 114 [encS a,encS b] (· = I (cmpS a b)):=by
 refine yE fun h nx K H0 hK=>zP zR yh 1000 fun hf => ?_;rw [rV.go];refine H0.box (l:=[encI a.1,.bool a.2]) rfl fun bx h1 nx1 H1 => ?_;refine H1.box (l:=[encI b.1,.bool b.2]) rfl fun by' h2 nx2 H2 => ?_
 rw [sFx,H2.load (k:=1) (i:=0+0) rfl rfl,sFx,H2.load (k:=0) (i:=0+0) rfl rfl];refine zlz ha hb _ _ _ _ ?_;rintro _ rfl _;simp only [qm];by_cases c:cmpL a.1 b.1=0
 case neg =>
  simp only [c,decide_false,Zag,yY,zZ,zH];exact hK _ _ _ _ _ H2 (zL rfl) (by rw [cmpS,if_pos c])
 simp only [c,decide_true,Zaf,yQ];rw [sFx,H2.load (k:=1) (i:=0+1) rfl rfl,sFx,H2.load (k:=0) (i:=0+1) rfl rfl,zyo];simp only [zW];by_cases c2:a.2=b.2
 ·simp only [c2,decide_true,zH];exact hK _ _ _ _ _ H2 (zL rfl) (by rw [cmpS,if_neg (by simp [c]),if_pos c2])
 simp only [c2,decide_false,zJ];rw [rV.k1,sFx,H2.load (k:=1) (i:=0+1) rfl rfl];cases c3:a.2 with
 | true =>
  simp only [zH];exact hK _ _ _ _ _ H2 (zL rfl) (by rw [cmpS,if_neg (by simp [c]),if_neg c2,c3];rfl)
 | false =>
  simp only [zJ];exact hK _ _ _ _ _ H2 (zL rfl) (by rw [cmpS,if_neg (by simp [c]),if_neg c2,c3];rfl)
theorem zgt {N:Pa->Prop} {O:AV->Prop} {hh:T Blk} {a b a' b':AV} (h1:Frz True N O hh a a') (h2:Frz True N O hh b b') (hs:([a',b']:List AV).all jc=true):Frz True N O hh (.agg [a,b]) (.agg [a',b']):=by
 refine .agg _ _ rfl hs fun i v v' hi hi' => ?_
 match i with
 | 0=>simp at hi hi';subst hi;subst hi';exact h1
 | 1=>simp at hi hi';subst hi;subst hi';exact h2
 | i+2=>simp at hi
def idP (n i:Nat):List Int:=(List.range n).map fun j:Nat=>if j<i then (j:Int) else 0
def idS (n:Nat):Sym:=((List.range n).map fun j:Nat=>(j:Int),false)
@[simp] theorem qdf (n i:Nat):(idP n i).length=n:=by simp [idP]
theorem zum {n i:Nat}:(idP n i).set i (i:Int)=idP n (i+1):=by
 refine Zau fun j => ?_;rw [List.getElem?_set,idP,idP,Zas,List.length_range,List.getElem?_map,List.getElem?_map];by_cases hj:j<n
 ·rw [List.getElem?_range hj];by_cases e:i=j
  ·subst e;simp [hj]
  ·rw [if_neg e];simp only [Zcb]
   congr 1
   by_cases c:j<i
   ·rw [if_pos c,if_pos (by omega)]
   ·rw [if_neg c,if_neg (by omega)]
 ·rw [List.getElem?_eq_none (l:=List.range n) (by simp;omega)];by_cases e:i=j
  ·rw [if_pos e,if_neg (by omega)];rfl
  ·rw [if_neg e];rfl
theorem zgu {a b:AV} (ha:a.cells=some [a]) (hb:b.cells=some [b]) {K:AV->OP}:jO [.zf,.bool false] [(0,1,a),(1,1,b)] K=K (.agg [a,b]):=by
 unfold jO;simp only [gS,ha,hb]
 rfl
theorem zgv {n:Nat} (hn:n<=1000):Pure Tryz.prog B 248 [I n] (· = encS (idS n)):=by
 refine yE fun h nx K H0 hK=>zP zR yh 1000000 fun hf => ?_;rw [uo.go];refine H0.alloc fun r h1 nx1 H1 => ?_;refine H1.mk1 n rfl rfl (by omega) (by decide) fun tb h2 nx2 H2 => ?_;have e:∀ K:AV->OP,jO [.zf,(.bool false)] [(0,1,.sl tb 0 n (some n) 1)] K=K (.agg [.sl tb 0 n (some n) 1,.bool false]):=fun K=>nr rfl;rw [e];refine H2.alloc fun s h3 nx3 H3 => ?_;refine H3.qy (k:=0) (n:=2) rfl rfl rfl fun h4 H4 => ?_;rw [sFx,H4.load (k:=0) (i:=0+0) rfl rfl,jJ];have e0:List.replicate n (I 0)=(idP n 0).map I:=by
  rw [idP,Zca];rw [show ((I ∘ fun j:Nat=>if j<0 then (j:Int) else 0):Nat->AV)=fun _=>I 0 from funext fun j=>by simp,List.map_const',List.length_range]
 refine uo.L1 (fun m x5 h' nx'=>∃ i:Nat,x5=I i/\n-i=m/\i<=n/\Hp h h' nx' [.arr s [.sl tb 0 n (some n) 1,.bool false],.arr tb ((idP n i).map I),.arr r [.zf,.bool false]]) (m:=n) (by omega) ⟨0,rfl,rfl,by omega,H4.cast (by rw [e0];rfl)⟩ ?_;rintro m z3 z5 z6 h5 nx5 R ⟨i,rfl,rfl,hi,H5⟩ hR;simp only [jl];by_cases hlt:i<n
 ·simp only [show (i:Int)<(n:Int) by omega,decide_true,zH];rw [sFx,H5.load (k:=0) (i:=0+0) rfl rfl,sIx (i:=i) rfl hlt];refine H5.store (k:=1) rfl (by simpa using hlt) rfl fun h6 H6 => ?_;rw [jk (by omega)];refine hR _ _ _ _ _ _ (by omega) ⟨i+1,rfl,rfl,by omega,H6.cast ?_⟩;rw [<- zum,List.map_set];rfl
 ·simp only [show ¬ (i:Int)<(n:Int) by omega,decide_false,zJ];obtain rfl:i=n:=by omega
  rw [uo.k8,H5.zn (k:=0) (n:=2) rfl rfl];refine H5.qy (k:=2) (n:=2) rfl rfl rfl fun h6 H6 => ?_;rw [H6.zn (k:=2) (n:=2) rfl rfl];have e1:idP i i=(idS i).1:=Zbo fun j hj=>by rw [if_pos (List.mem_range.1 hj)]
  have e2:(idS i).1.length=i:=by simp [idS]
  refine hK _ _ _ _ (encS (idS i)) H6 ?_ rfl;refine zgt ?_ (zL rfl) rfl;have:=H6.zae (k:=1) (cap:=some i) (e:=1) (n:=i) rfl (Zai _) (by simp) (fun v hv=>by obtain ⟨x,_,rfl⟩:=List.mem_map.1 hv;rfl);rw [e1] at this;have e3:encI (idS i).1=.lst 1 i ((idS i).1.map I):=by rw [encI,e2]
  rw [e3];exact this
def dI (p q:List Int) (i:Nat):List Int:=qD p (q.take i)++List.replicate (q.length-i) 0
theorem kK (p q:List Int):(qD p q).length=q.length:=by simp [qD]
theorem zdg {p q:List Int} {i:Nat} (hi:i<=q.length):(dI p q i).length=q.length:=by simp [dI,kK];omega
theorem zmb {p q:List Int} {i:Nat} {x:Int} (h:q[i]? = some x):(dI p q i).set i (p.getD x.toNat 0)=dI p q (i+1):=by
 have hi:=(List.getElem?_eq_some_iff.1 h).1;have hl:(qD p (q.take i)).length=i:=by rw [kK,Zax];omega
 rw [dI,dI,zb6 h,List.set_append_right _ _ (by omega),hl];rw [show q.length-i=(q.length-(i+1))+1 by omega,List.replicate_succ,Nat.sub_self,List.set_cons_zero];simp
theorem zp2 {a b:Sym} (hq:∀ x∈b.1,0<=x/\x<(a.1.length:Int)) (hl:b.1.length<=1000):Pure Tryz.prog B 250 [encS a,encS b] (· = encS (jD a b)):=by
 refine yE fun h nx K H0 hK=>zP zR yh 1000000 fun hf => ?_;rw [uq.go];refine H0.box (l:=[encI a.1,.bool a.2]) rfl fun ba h1 nx1 H1 => ?_;refine H1.box (l:=[encI b.1,.bool b.2]) rfl fun bb h2 nx2 H2 => ?_;refine H2.alloc fun r h3 nx3 H3 => ?_;have hch:(mkSl 8 (I (b.1.length:Int)) (I (b.1.length:Int))&&true)=true:=by
  have:mkSl 8 (I (b.1.length:Int)) (I (b.1.length:Int))=(Nat.ble b.1.length b.1.length&&Nat.ble b.1.length 1000000&&Nat.ble (8*b.1.length) 281474976710656):=rfl;rw [this,Zac (Zai _),Zac (by omega),Zac (by omega)];rfl
 rw [show (true&&true)=true from rfl,jX,sFx,H3.load (k:=1) (i:=0+0) rfl rfl,zO,hch,jX,sFx,H3.load (k:=2) (i:=0+1) rfl rfl,sFx,H3.load (k:=1) (i:=0+1) rfl rfl,zgc];refine H3.mk1 b.1.length rfl rfl (by omega) (by decide) fun tb h4 nx4 H4 => ?_;rw [zgc,zI,H4.load (k:=2) (i:=0+1) rfl rfl,zI,sFx,zI,H4.load (k:=3) (i:=0+1) rfl rfl,zI,sFx,zI,zO,zI,H4.load (k:=2) (i:=0+0) rfl rfl,zI,sFx,zI,zgu rfl rfl];refine H4.alloc fun s h5 nx5 H5 => ?_;rw [zgu rfl rfl,zI,zgc,zI,H5.load (k:=3) (i:=0+1) rfl rfl,zI,sFx,zI,H5.load (k:=4) (i:=0+1) rfl rfl,zI,sFx,zI,zO,zI,H5.load (k:=3) (i:=0+0) rfl rfl,zI,sFx,zI];refine H5.qy (k:=0) (n:=2) rfl rfl rfl fun h6 H6 => ?_;rw [sFx,H6.load (k:=3) (i:=0+0) rfl rfl,zO];have e0:List.replicate b.1.length (I 0)=(dI a.1 b.1 0).map I:=by simp [dI,qD]
 refine uq.L1 (fun m x10 h' nx'=>∃ i:Nat,x10=I i/\b.1.length-i=m/\i<=b.1.length/\Hp h h' nx' [.arr s [.sl tb 0 b.1.length (some b.1.length) 1,.bool (a.2 != b.2)],.arr tb ((dI a.1 b.1 i).map I),.arr r [.zf,.bool false],.arr bb [encI b.1,.bool b.2],.arr ba [encI a.1,.bool a.2]]) (m:=b.1.length) (by omega) ⟨0,rfl,rfl,by omega,H6.cast (by rw [e0];rfl)⟩ ?_;rintro m z6 z7 z10 z11 h7 nx7 R ⟨i,rfl,rfl,hi,H7⟩ hR;simp only [jl];by_cases hlt:i<b.1.length
 ·simp only [show (i:Int)<(b.1.length:Int) by omega,decide_true,zH];have hx:b.1[i]? = some b.1[i]:=List.getElem?_eq_getElem hlt;obtain ⟨q1,q2⟩:=hq _ (Zak hlt);have hy:a.1[b.1[i].toNat]? = some (a.1.getD b.1[i].toNat 0):=by rw [Zaa,List.getElem?_eq_getElem (by omega)];rfl
  rw [xu rfl hlt,ldL (fD hx),sFx,H7.load (k:=0) (i:=0+0) rfl rfl,sFx,H7.load (k:=4) (i:=0+0) rfl rfl,xu (i:=b.1[i].toNat) (by omega) (by omega),ldL (fD hy),sIx (i:=i) rfl hlt];refine H7.store (k:=1) rfl (by rw [Zas,zdg hi];exact hlt) rfl fun h8 H8 => ?_;rw [jk (by omega)];refine hR _ _ _ _ _ _ _ (by omega) ⟨i+1,rfl,rfl,by omega,H8.cast ?_⟩;rw [<- zmb hx,List.map_set];rfl
 ·simp only [show ¬ (i:Int)<(b.1.length:Int) by omega,decide_false,zJ];obtain rfl:i=b.1.length:=by omega
  rw [uq.k8,H7.zn (k:=0) (n:=2) rfl rfl];refine H7.qy (k:=2) (n:=2) rfl rfl rfl fun h8 H8 => ?_;rw [H8.zn (k:=2) (n:=2) rfl rfl];have e1:dI a.1 b.1 b.1.length=(jD a b).1:=by simp [dI,jD]
  have e2:(jD a b).1.length=b.1.length:=kK _ _;refine hK _ _ _ _ (encS (jD a b)) H8 ?_ rfl;refine zgt ?_ (zL rfl) rfl;have:=H8.zae (k:=1) (cap:=some b.1.length) (e:=1) (n:=b.1.length) rfl (Zai _) (by rw [Zas,zdg (Zai _)];omega) (fun v hv=>by obtain ⟨x,_,rfl⟩:=List.mem_map.1 hv;rfl);rw [e1] at this;have e3:encI (jD a b).1=.lst 1 b.1.length ((jD a b).1.map I):=by rw [encI,e2]
  rw [e3];exact this
def keyN (a:Sym):List Nat:=a.1.map Int.toNat++(if a.2 then [1] else [])
def sK (a:Sym):List UInt8:=(keyN a).map UInt8.ofNat
def DS (n:Nat) (a:Sym):Prop:=a.1.length=n/\∀ x∈a.1,0<=x/\x<(n:Int)
theorem zp3 {n:Nat} (hn:n<=256) {a b:Sym} (ha:DS n a) (hb:DS n b) (h:sK a=sK b):a=b:=by
 have hlt:∀ {c:Sym},DS n c->∀ x∈keyN c,x<256:=fun {c} hc x hx=>by
  rcases List.mem_append.1 hx with q | q
  ·obtain ⟨y,hy,rfl⟩:=List.mem_map.1 q;have:=hc.2 y hy;omega
  ·by_cases c2:c.2=true
   ·rw [if_pos c2] at q;simp at q;omega
   ·rw [if_neg c2] at q;cases q
 have hid:∀ {c:Sym},DS n c->(sK c).map UInt8.toNat=keyN c:=fun {c} hc=>by
  rw [sK,Zca]
  conv=>rhs;rw [<- List.map_id (keyN c)]
  exact Zbo fun x hx=>by
   show (UInt8.ofNat x).toNat=x;rw [UInt8.toNat_ofNat'];exact Zbs (hlt hc x hx)
 have e:keyN a=keyN b:=by rw [<- hid ha,<- hid hb,h]
 have hl:(a.1.map Int.toNat).length=(b.1.map Int.toNat).length:=by simp [ha.1,hb.1]
 obtain ⟨e1,e2⟩:=List.append_inj e hl;have back:∀ {c:Sym},DS n c->(c.1.map Int.toNat).map Int.ofNat=c.1:=fun {c} hc=>by
  rw [Zca]
  conv=>rhs;rw [<- List.map_id c.1]
  exact Zbo fun x hx=>by
   have:=hc.2 x hx;show ((x.toNat:Nat):Int)=x;omega
 have e3:a.1=b.1:=by rw [<- back ha,<- back hb,e1]
 refine Prod.ext e3 ?_;cases h1:a.2 <;> cases h2:b.2 <;> rw [h1,h2] at e2 <;> first | rfl | simp at e2
theorem Hp.zkg {K:AV->T Blk->Pa->OP} {h0 h:T Blk} {nx:Pa} {L:List Ob} {k n c bytes:Nat} {id:Pa} {l:List AV} {v x:AV} (H:Hp h0 h nx L) (hk:L[k]? = some (.arr id l)) (hl:l.length=c) (hn:n<c) (hx:∀ (no:OP) (K':List AV->Nat->OP),uP x h no K'=K' [v] 1) (hs:Go.Ev.jc v=true) (hb:bytes*1000000<=70368744177664) (hc:c<=1000000)
  (hK:∀ h',Hp h0 h' nx (L.set k (.arr id (l.set n v)))->K (.sl id 0 (n+1) (some c) 1) h' nx=.ok True):tu 1 bytes (.sl id 0 n (some c) 1) x h nx K=.ok True:=by
 have hcc:(Nat.ble (bytes*1000000) 70368744177664&&Nat.beq [v].length (1*1)&&Nat.ble 1 1&&[v].all Go.Ev.jc)=true:=by
  rw [Zac hb];simp [hs]
 unfold tu oN;rw [hx,hcc,cond_true];obtain ⟨op,t,h1,h2⟩:yx h id l:=H.own _ (Zab hk);show (bif Nat.beq 1 1&&Nat.ble (n+1) 1000000 then jf (T.get .no id h) _ (.no 35) else .no 36)=_;rw [h1,Zac (by omega)];show (bif Nat.ble (0+n*1) l.length then (bif Nat.ble (n+1) c then (bif Nat.ble (0+(n+1)*1) l.length then qE id 0 n (some c) 1 op l.length t [v] 1 h nx K else .no 32) else uL 0 n 1 t [v] 1 h nx K) else .no 34)=_;rw [Zac (by omega),Zac (show n+1<=c by omega),Zac (by omega),cond_true,cond_true,cond_true];unfold qE;rw [jA,T.yt,yJ];refine hK _ (H.upd hk (by simp [Ob.names]) rfl ?_);have:=yx.set (v:=v) h1 h2 (show n<l.length by omega);rw [Zcc,Zaw];exact this
theorem zp4:∀ l:List Nat,b2sA (l.map u8)=some (l.map UInt8.ofNat)
 | []=>rfl
 | x::l=>by
  show (match b2sA (l.map u8) with
   | some s=>some (UInt8.ofNat ((x:Int)).toNat::s)
   | none=>none)=_
  rw [zp4 l];rfl
theorem Hp.b2s {h0 h:T Blk} {nx:Pa} {L:List Ob} {k n:Nat} {id:Pa} {cap:Option Nat} {l:List AV} {y:List Nat} {op:AV->OP} (H:Hp h0 h nx L) (hk:L[k]? = some (.arr id l)) (hn:n<=l.length) (hy:l.take n=y.map u8):sB2s (.sl id 0 n cap 1) h op=op (.str (y.map UInt8.ofNat)):=by
  obtain ⟨o,t,h1,h2⟩:yx h id l:=H.own _ (Zab hk);show jf (T.get .no id h) _ _=_;rw [h1]
  show (bif Nat.ble (0+n) l.length then (match b2sA (yD t 0 n) with
          | some s=>op (.str s)
          | none=>.no 21) else .no 21)=_
  have e:yD t 0 n=l.take n:=by
    refine Zau fun i => ?_;by_cases hi:i<n
    · rw [yC _ _ _ _ hi,List.getElem?_take_of_lt hi]
      conv=>rhs;rw [<- h2]
      rw [yC _ _ _ _ (by omega)]
    · rw [List.getElem?_eq_none (by simp;omega),List.getElem?_eq_none (by simp;omega)]
  rw [Zac (by omega),cond_true,e,hy,zp4]
def padN (y:List Nat) (c:Nat):List AV:=y.map u8++List.replicate (c-y.length) (.int .u8 0)
theorem mN {y:List Nat} {c:Nat} (h:y.length<=c):(padN y c).length=c:=by simp [padN];omega
theorem zgw {y:List Nat} {c x:Nat} (h:y.length<c):(padN y c).set y.length (u8 x)=padN (y++[x]) c:=by
 rw [padN,padN,List.set_append_right _ _ (by simp),Zas,Nat.sub_self,show c-y.length=(c-(y++[x]).length)+1 by simp;omega,List.replicate_succ,List.set_cons_zero];simp
theorem zeu {a:Sym} (ha:∀ x∈a.1,0<=x/\x<256) (hl:a.1.length<=1000):Pure Tryz.prog B 112 [encS a] (· = .str (sK a)):=by
 refine yE fun h nx K H0 hK=>zP zR yh 1000000 fun hf => ?_;rw [gy.go];refine H0.box (l:=[encI a.1,.bool a.2]) rfl fun ba h1 nx1 H1 => ?_;rw [sFx,H1.load (k:=0) (i:=0+0) rfl rfl,zO,jk (by omega)];refine H1.mkN (n:=0) (c:=a.1.length+1) rfl (by omega) (by omega) (by omega) (by omega) fun tb h2 nx2 H2 => ?_;rw [sFx,H2.load (k:=1) (i:=0+0) rfl rfl,zO];have e0:fK (a.1.length+1) [AV.int .u8 0]=padN [] (a.1.length+1):=by rw [zbt];rfl
 refine gy.L1 (fun m x3 x7 h' nx'=>∃ i:Nat,x7=I i/\x3=.sl tb 0 i (some (a.1.length+1)) 1/\a.1.length-i=m/\i<=a.1.length/\Hp h h' nx' [.arr tb (padN ((a.1.take i).map Int.toNat) (a.1.length+1)),.arr ba [encI a.1,.bool a.2]]) (m:=a.1.length) (by omega) ⟨0,rfl,rfl,rfl,by omega,H2.cast (by rw [e0];rfl)⟩ ?_;rintro m z3 z4 z7 z8 h3 nx3 R ⟨i,rfl,rfl,rfl,hi,H3⟩ hR;simp only [jl];have hlen:((a.1.take i).map Int.toNat).length=i:=by simp;omega
 by_cases hlt:i<a.1.length
 ·simp only [show (i:Int)<(a.1.length:Int) by omega,decide_true,zH];have hx:a.1[i]? = some a.1[i]:=List.getElem?_eq_getElem hlt;obtain ⟨q1,q2⟩:=ha _ (Zak hlt);obtain ⟨c,hc⟩:∃ c:Nat,a.1[i]=(c:Int):=⟨a.1[i].toNat,by omega⟩;rw [xu rfl hlt,ldL (fD hx),hc,zpy,Zbs (by omega)];refine H3.yj (l:=[u8 c]) rfl fun t1 h4 nx4 H4 => ?_;refine H4.zkg (k:=1) (n:=i) (v:=u8 c) rfl (mN (by omega)) (by omega) (yx.rd (l:=[u8 c]) (n:=1) (H4.own _ (Zam ..)) rfl) rfl (by decide) (by omega) fun h5 H5 => ?_;rw [jk (by omega)];refine hR _ _ _ _ _ _ _ (by omega) ⟨i+1,rfl,rfl,rfl,by omega,H5.drop.cast ?_⟩;have e1:(a.1.take (i+1)).map Int.toNat=(a.1.take i).map Int.toNat++[c]:=by
   rw [Zan,hx,Zbn,hc];rfl
  have:=zgw (y:=(a.1.take i).map Int.toNat) (c:=a.1.length+1) (x:=c) (by omega);rw [hlen] at this;rw [e1,<- this];rfl
 ·simp only [show ¬ (i:Int)<(a.1.length:Int) by omega,decide_false,zJ];obtain rfl:i=a.1.length:=by omega
  rw [List.take_length] at H3 hlen;rw [gy.k8,sFx,H3.load (k:=1) (i:=0+1) rfl rfl];cases h2:a.2 with
  | false =>
   simp only [zJ];rw [H3.b2s (k:=0) (y:=a.1.map Int.toNat) rfl (by rw [mN (by omega)];omega) (by rw [padN,List.take_left' (by simp)])];exact hK _ _ _ _ _ H3 (zL rfl) (by rw [sK,keyN,h2];simp)
  | true =>
   simp only [zH];refine H3.yj (l:=[u8 1]) rfl fun t1 h4 nx4 H4 => ?_;refine H4.zkg (k:=1) (n:=a.1.length) (v:=u8 1) rfl (mN (by omega)) (by omega) (yx.rd (l:=[u8 1]) (n:=1) (H4.own _ (Zam ..)) rfl) rfl (by decide) (by omega) fun h5 H5 => ?_;have:=zgw (y:=a.1.map Int.toNat) (c:=a.1.length+1) (x:=1) (by omega);rw [hlen] at this;have H6:=H5.drop;rw [this] at H6;rw [H6.b2s (k:=0) (y:=a.1.map Int.toNat++[1]) rfl (by rw [mN (by simp)];exact Zai _) (by rw [padN,List.take_left' (by simp)])];exact hK _ _ _ _ _ H6 (zL rfl) (by rw [sK,keyN,h2];simp)
def fF (ks:List Sym):List (AV×AV):=ks.map fun b=>(.str (sK b),encS b)
theorem zp5 {n:Nat} (hn:n<=256) {a:Sym} (ha:DS n a):∀ (ks:List Sym) (i:Nat),(∀ b∈ks,DS n b)->(a∈ks->∃ j,xD .str (.str (sK a)) (fF ks) i=some (some (j,encS a)))/\(a∉ks->xD .str (.str (sK a)) (fF ks) i=some none)
 | [],i,_=>⟨fun h=>absurd h (by simp),fun _=>rfl⟩
 | b::ks,i,h=>by
  obtain ⟨r1,r2⟩:=zp5 hn ha ks (i+1) fun c hc=>h c (by simp [hc])
  have e:xD .str (.str (sK a)) (fF (b::ks)) i=(match some (j3 (sK a) (sK b)) with
   | some true=>some (some (i,encS b))
   | some false=>xD .str (.str (sK a)) (fF ks) (i+1)
   | none=>none):=rfl
  rw [e];by_cases c:a=b
  ·subst c;rw [xq.2 rfl];exact ⟨fun _=>⟨i,rfl⟩,fun q=>absurd (by simp) q⟩
  ·have hb:j3 (sK a) (sK b)=false:=by
    cases q:j3 (sK a) (sK b) with
    | false=>rfl
    | true=>exact absurd (zp3 hn ha (h b (by simp)) (xq.1 q)) c
   rw [hb]
   exact ⟨fun q=>r1 (by
    rcases List.mem_cons.1 q with q | q
    ·exact absurd q c
    ·exact q),fun q=>r2 fun q2=>q (by simp [q2])⟩
theorem qcg {n:Nat} (hn:n<=256) {a:Sym} (ha:DS n a) {ks:List Sym} (hks:∀ b∈ks,DS n b) {h:T Blk} {id:Pa} {z:AV} {op:AV->OP} (own:T.get .no id h=.map (fF ks).length (fF ks)):zm2 .str z true (.map id) (.str (sK a)) h op=op (.tup [if a∈ks then encS a else z,.bool (decide (a∈ks))]):=by
 obtain ⟨r1,r2⟩:=zp5 hn ha ks 0 hks;show fC (T.get .no id h) _ _=_;rw [own]
 show (match kB .str (.str (sK a)) (fF ks) with
    | some (some (_,v))=>op (bif true then .tup [v,.bool true] else v)
    | some none=>op (bif true then .tup [z,.bool false] else z)
    | none=>.no 20)=_
 rw [show kB .str (.str (sK a)) (fF ks)=xD .str (.str (sK a)) (fF ks) 0 from rfl];by_cases c:a∈ks
 ·obtain ⟨j,hj⟩:=r1 c;rw [hj,if_pos c,decide_eq_true c];rfl
 ·rw [r2 c,if_neg c,decide_eq_false c];rfl
theorem zp6 {n:Nat} (hn:n<=256) {a:Sym} (ha:DS n a) {ks:List Sym} (hks:∀ b∈ks,DS n b) {h0 h:T Blk} {nx p id:Pa} {L:List Ob} {k:Nat} {K:Kw Prop} (H:Hp h0 h nx L) (hk:L[k]? = some (.map id (fF ks)))
  (hK:K (.bool (decide (a∈ks))) h nx=.ok True):(CS Tryz.prog B).fn 249 p [.map id,encS a] h nx K=.ok True:=by
 refine zol (Q:=(· = .bool (decide (a∈ks)))) (fun hfr K hK=>zP zR yh 100 fun _ => ?_) (fun v hv _=>by rw [hv];exact hK);rw [o8.go];have own:T.get .no id h=.map (fF ks).length (fF ks):=H.own _ (Zab hk);have Hb:=Hp.init hfr;refine Hb.box (l:=[encI a.1,.bool a.2]) rfl fun bx h1 nx1 H1 => ?_;rw [H1.zn (k:=0) (n:=2) rfl rfl];refine zeu (fun x hx=>by have:=ha.2 x hx;omega) (by have:=ha.1;omega) _ _ _ _ ?_;rintro _ rfl _;have own1:T.get .no id h1=.map (fF ks).length (fF ks):=by rw [<- own];exact H1.keep id (by rw [own];intro q;cases q)
 rw [qcg hn ha hks own1,jK,jL];refine H1.alloc fun r h2 nx2 H2 => ?_;have hst:∃ l2:List AV,(if a∈ks then encS a else .agg [.zf,.bool false])=.agg l2/\l2.length=2:=by
  by_cases c:a∈ks
  ·exact ⟨_,if_pos c,rfl⟩
  ·exact ⟨_,if_neg c,rfl⟩
 obtain ⟨l2,e2,hl2⟩:=hst;rw [e2];refine H2.qy (k:=0) (n:=2) rfl rfl hl2 fun h3 H3 => ?_;exact hK _ _ _ H3.fr H3.keep ⟨_,zL rfl,rfl⟩
theorem Hp.putS {n:Nat} (hn:n<=256) {a:Sym} (ha:DS n a) {ks:List Sym} (hks:∀ b∈ks,DS n b) (hna:a∉ks) {K:AV->T Blk->Pa->OP} {h0 h:T Blk} {nx:Pa} {L:List Ob} {k:Nat} {id:Pa} (H:Hp h0 h nx L) (hk:L[k]? = some (.map id (fF ks)))
  (hK:∀ h',Hp h0 h' nx (L.set k (.map id (fF (ks++[a]))))->K .u h' nx=.ok True):zat .str (.map id) (.str (sK a)) (encS a) h nx K=.ok True:=by
 have own:T.get .no id h=.map _ _:=H.own _ (Zab hk);obtain ⟨_,r2⟩:=zp5 hn ha ks 0 hks;show fC (T.get .no id h) _ _=_;rw [own]
 show (match kB .str (.str (sK a)) (fF ks) with
    | some (some (i,_))=>T.vg (β:=OP) Blk.no (Blk.map (fF ks).length ((fF ks).modify i fun e=>(e.1,encS a))) id h fun h'=>K .u h' nx
    | some none=>qp ((fF ks).length+1) fun n=>T.vg (β:=OP) Blk.no (Blk.map n (fF ks++[(AV.str (sK a),encS a)])) id h fun h'=>K .u h' nx
    | none=>Out.no 45)=_
 rw [show kB .str (.str (sK a)) (fF ks)=xD .str (.str (sK a)) (fF ks) 0 from rfl,r2 hna];simp only [yJ,T.yt];refine hK _ (H.upd hk (by simp [Ob.names]) rfl ?_);show T.get Blk.no id _=Blk.map _ _;rw [T.get_set_same];simp [fF]
theorem Hp.zww {h0 h:T Blk} {nx:Pa} {L:List Ob} {k:Nat} {id:Pa} {ks:List Sym} {op:AV->OP} (H:Hp h0 h nx L) (hk:L[k]? = some (.map id (fF ks))):zjj (.map id) h op=op (I ks.length):=by
 have own:T.get .no id h=.map _ _:=H.own _ (Zab hk);show fC (T.get .no id h) _ _=_;rw [own];show qp (fF ks).length (fun n=>op (.int .i64 (.ofNat n)))=_;rw [yJ,fF,Zas];rfl
inductive QV:AV->Ob->List Sym->Prop
 | cap (id:Pa) (off:Nat) (l:List AV) (q:List Sym):off+q.length*2<=l.length->(l.drop off).take (q.length*2)=jF q->QV (.sl id off q.length (some q.length) 2) (.arr id l) q
 | opn (id:Pa) (off m:Nat) (l:List AV) (q:List Sym):off+q.length*2=m*2->l.length=m*2->l.drop off=jF q->QV (.sl id off q.length none 2) (.gro (some id) 2 m l) q
 | esl (id:Pa) (m:Nat) (l:List AV):QV .esl (.gro (some id) 2 m l) []
theorem uW (q:List Sym):(jF q).length=q.length*2:=by
 induction q with
 | nil=>rfl
 | cons a q ih=>rw [jF,Zbi,Zat,<- jF,ih];simp;omega
theorem QV.len {v:AV} {o:Ob} {q:List Sym} (h:QV v o q) {op:AV->OP}:sLen v op=op (I q.length):=by
 cases h <;> exact nr rfl
theorem QV.names {v:AV} {o:Ob} {q:List Sym} (h:QV v o q):∃ id,o.names=[id]:=by
 cases h <;> exact ⟨_,rfl⟩
theorem QV.cells {v:AV} {o:Ob} {a:Sym} {q:List Sym} (h:QV v o (a::q)):∃ id off cap l,v=.sl id off (a::q).length cap 2/\off+(a::q).length*2<=l.length/\(l.drop off).take ((a::q).length*2)=jF (a::q)/\∀ hh,o.holds hh->∃ op t,T.get .no id hh=.cells op l.length t/\yD t 0 l.length=l:=by
 cases h with
 | cap id off l _ h1 h2=>exact ⟨id,off,_,l,rfl,h1,h2,fun hh ho=>ho⟩
 | opn id off m l _ h1 h2 h3 =>
  refine ⟨id,off,_,l,rfl,by omega,by rw [h3,Zal (by rw [uW];exact Zai _)],fun hh ho => ?_⟩;obtain ⟨t,g1,g2,g3⟩:=ho;exact ⟨true,t,by rw [g1,h2],by rw [h2];exact g3⟩
theorem QV.first {v:AV} {o:Ob} {a:Sym} {q:List Sym} (h:QV v o (a::q)):∃ id off,(∀ op:AV->OP,zV 2 v (I 0) op=op (.ptr id off))/\∀ {h0 hh:T Blk} {nx:Pa} {L:List Ob} {k:Nat},Hp h0 hh nx L->L[k]? = some o->∀ op:AV->OP,zS 2 (.ptr id off) hh op=op (encS a):=by
 obtain ⟨id,off,cap,l,rfl,g3,g4,g⟩:=h.cells;refine ⟨id,off,fun op => ?_,fun {h0 hh nx L k} H hk op => ?_⟩
 ·have:=qH (id:=id) (off:=off) (n:=(a::q).length) (cap:=cap) (e:=2) (e':=2) (i:=0) (k:=.i64) (K:=op) (by simp);simpa using this
 ·obtain ⟨op',t,g1,g2⟩:=g hh (H.own _ (Zab hk));show jf (T.get .no id hh) _ _=_;rw [g1];show (bif Nat.ble (off+2) l.length then op (.agg (yD t off 2)) else .no 8)=_;have hl:(a::q).length=q.length+1:=rfl;rw [hl] at g3 g4;rw [Zac (by omega),cond_true];have e:∀ i,i<l.length->T.get .u (.of i) t=l.getD i .u:=fun i hi=>by
   have:=yC t 0 l.length i hi;rw [g2,Zaw] at this;rw [Zaa,this];rfl
  have d:∀ i,i<2->l.getD (off+i) .u=(jF (a::q)).getD i .u:=fun i hi=>by
   rw [<- g4,Zaa,Zaa,List.getElem?_take_of_lt (by omega),List.getElem?_drop]
  have e2:yD t off 2=[T.get .u (.of off) t,T.get .u (.of (off+1)) t]:=rfl;rw [e2,e off (by omega),e (off+1) (by omega),d 1 (by omega)];have:=d 0 (by omega);rw [Zco] at this;rw [this];rfl
theorem QV.rest {v:AV} {o:Ob} {a:Sym} {q:List Sym} (h:QV v o (a::q)):∃ v',(∀ op:AV->OP,qR 2 v (some (I 1)) none none op=op v')/\QV v' o q:=by
 have hl:(a::q).length=q.length+1:=rfl;cases h with
 | cap id off l _ h1 h2 =>
  rw [hl] at h1 h2 ⊢
  have e0:∀ op:AV->OP,qR 2 (.sl id off (q.length+1) (some (q.length+1)) 2) (some (I 1)) none none op =
    (bif Nat.beq (q.length+1) 1 then op (.sl id off (q.length+1-1) (some 0) 2) else qp (off+1*2) fun off=>qp (q.length+1-1) fun h=>qp (q.length+1-1) fun m=>op (.sl id off h (some m) 2)):=fun op=>by
   show (match (bif Nat.ble 1 (q.length+1) then some 1 else none:Option Nat) with
    | none=>Out.no 17
    | some l=>bif Nat.beq (q.length+1) l then op (.sl id off (q.length+1-l) (some 0) 2)
     else qp (off+l*2) fun off=>qp (q.length+1-l) fun h=>qp (q.length+1-l) fun m=>op (.sl id off h (some m) 2))=_
   rw [Zac (by omega)];rfl
  cases q with
  | nil=>exact ⟨.sl id off 0 (some 0) 2,fun op=>by rw [e0];rfl,.cap id off l [] (by simp at h1 ⊢;omega) (by simp [jF])⟩
  | cons b q =>
   refine ⟨.sl id (off+2) (b::q).length (some (b::q).length) 2,fun op => ?_,.cap id (off+2) l (b::q) (by simp only [Zbr] at h1 ⊢;omega) ?_⟩
   ·rw [e0,ay (by simp)];simp only [yJ,cond_false,Zcf,Nat.add_sub_cancel]
   ·have e1:jF (b::q)=(jF (a::b::q)).drop 2:=rfl;rw [e1,<- h2,List.drop_take,List.drop_drop]
    congr 1
    omega
 | opn id off m l _ h1 h2 h3 =>
  rw [hl] at h1 ⊢
  have e0:∀ op:AV->OP,qR 2 (.sl id off (q.length+1) none 2) (some (I 1)) none none op =
    (bif Nat.ble 2 (q.length+1) then qp (off+1*2) fun off=>qp (q.length+1-1) fun h=>op (.sl id off h none 2) else op .esl):=fun op=>by
   show (match (bif Nat.ble 1 (q.length+1) then some 1 else none:Option Nat) with
    | none=>Out.no 17
    | some l=>bif Nat.beq l 0 then op (.sl id off (q.length+1) none 2) else bif Nat.ble (l+1) (q.length+1) then qp (off+l*2) fun off=>qp (q.length+1-l) fun h=>op (.sl id off h none 2) else op .esl)=_
   rw [Zac (by omega)];rfl
  cases q with
  | nil=>exact ⟨.esl,fun op=>by rw [e0];rfl,.esl id m l⟩
  | cons b q =>
   refine ⟨.sl id (off+2) (b::q).length none 2,fun op => ?_,.opn id (off+2) m l (b::q) (by omega) h2 ?_⟩
   ·rw [e0,Zac (by simp)];simp only [yJ,cond_true,Zcf,Nat.add_sub_cancel]
   ·rw [<- List.drop_drop,h3];rfl
theorem QV.app {v:AV} {o:Ob} {c:Sym} {q:List Sym} (h:QV v o q) (hq:q≠[]) {h0 hh:T Blk} {nx:Pa} {L:List Ob} {k:Nat} {x:AV} {K:AV->T Blk->Pa->OP} (H:Hp h0 hh nx L) (hk:L[k]? = some o) (hx:∀ (no:OP) (K':List AV->Nat->OP),uP x hh no K'=K' [encI c.1,.bool c.2] 1) (hlim:q.length+1<=100000)
  (hK:∀ v' o' h' nx',QV v' o' (q++[c])->Hp h0 h' nx' (L.set k o')->K v' h' nx'=.ok True):mJ (CS Tryz.prog B) 2 32 v x hh nx K=.ok True:=by
 have hfl:jF (q++[c])=jF q++[encI c.1,.bool c.2]:=by simp [jF]
 have hln:(q++[c]).length=q.length+1:=by simp
 have hcc:(Nat.ble (32*1000000) 70368744177664&&Nat.beq [encI c.1,AV.bool c.2].length (1*2)&&Nat.ble 1 2&&[encI c.1,AV.bool c.2].all Go.Ev.jc)=true:=rfl;have new:∀ (id:Pa) (off:Nat) (op:Bool) (l:List AV) (t:T AV),yD t 0 l.length=l->off+q.length*2<=l.length->(l.drop off).take (q.length*2)=jF q->uL off q.length 2 t [encI c.1,.bool c.2] 1 hh nx K=.ok True:=fun id off op l t g2 g3 g4=>by
  unfold uL;rw [yM,yJ];have e:yD t off (q.length*2)=jF q:=by
   rw [<- g4];refine Zau fun i => ?_;by_cases hi:i<q.length*2
   ·rw [yC _ _ _ _ hi,List.getElem?_take_of_lt hi,List.getElem?_drop]
    conv=>rhs;rw [<- g2]
    rw [yC _ _ _ _ (by omega),Zaw]
   ·rw [List.getElem?_eq_none (by simp;omega),List.getElem?_eq_none (by rw [Zax];omega)]
  rw [e,<- hfl];have hlen:=uW (q++[c]);refine hK _ (.gro (some nx) 2 (q.length+1) (jF (q++[c]))) _ _ ?_ (Hp.back hk (Hp.new (x:=.gro (some nx) 2 (q.length+1) (jF (q++[c]))) (H.front hk).drop rfl fun h' e=>⟨_,by rw [e,hlen,hln],by rw [hlen,hln],?_⟩))
  ·have:=QV.opn nx 0 (q.length+1) (jF (q++[c])) (q++[c]) (by rw [hln];omega) (by rw [hlen,hln]) rfl;rw [hln] at this;exact this
  ·have:=u6 (jF (q++[c]));rw [hlen,hln] at this;exact this
 cases h with
 | cap id off l _ h1 h2 =>
  obtain ⟨op,t,g1,g2⟩:=H.own _ (Zab hk);show oN 2 32 (.sl id off q.length (some q.length) 2) x hh nx K=_;unfold oN;rw [hx,hcc,cond_true];show (bif Nat.beq 2 2&&Nat.ble (q.length+1) 1000000 then jf (T.get .no id hh) _ (.no 35) else .no 36)=_;rw [g1,Zac (by omega)];show (bif Nat.ble (off+q.length*2) l.length then (bif Nat.ble (q.length+1) q.length then _ else uL off q.length 2 t [encI c.1,.bool c.2] 1 hh nx K) else .no 34)=_;rw [Zac h1,bleF (by omega),cond_true,cond_false];exact new id off op l t g2 h1 h2
 | opn id off m l _ h1 h2 h3 =>
  obtain ⟨t,g1,g2,g3⟩:=H.own _ (Zab hk);by_cases h0':off=0
  ·subst h0';obtain rfl:m=q.length:=by omega
   rw [List.drop_zero] at h3;subst h3;have e:(AV.sl id 0 q.length none 2)=qx (some id) 2 q.length:=rfl;show oN 2 32 (.sl id 0 q.length none 2) x hh nx K=_;refine H.appN (k:=k) (o:=some id) (c:=1) (esz:=2) (bytes:=32) (new:=[encI c.1,.bool c.2]) hk hx rfl rfl (by decide) (by decide) (by omega) fun o' h' nx' ho H' => ?_;cases o' with
   | none=>exact absurd rfl (ho (.inl (by simp)))
   | some id' =>
    rw [<- hfl] at H';have hlen:=uW (q++[c]);have:=QV.opn id' 0 (q.length+1) (jF (q++[c])) (q++[c]) (by rw [hln];omega) (by rw [hlen,hln]) rfl;rw [hln] at this;exact hK _ _ _ _ this H'
  ·have hb0:Nat.beq off 0=false:=ay h0';show (bif Nat.beq off 0 then _ else cU (CS Tryz.prog B) id off q.length 2 2 32 x hh nx K)=_;rw [hb0,cond_false];unfold cU;rw [hx,hcc,cond_true];show (bif Nat.beq 2 2&&Nat.ble (q.length+1) 1000000 then jf (T.get .no id hh) _ (.no 35) else .no 36)=_;rw [g1,Zac (by omega)];show (bif Nat.ble (off+q.length*2) (m*2) then (bif Nat.ble (off+(q.length+1)*2) (m*2) then _ else bif true&&Nat.beq (off+q.length*2) (m*2) then _ else _) else _)=_;rw [Zac (by omega),bleF (by omega),beqT (by omega),cond_true,cond_false];show (CS Tryz.prog B).pk [0,1] _=_;refine zok.2 ⟨fun i hi => ?_,rfl⟩;simp only [Zah,List.not_mem_nil,or_false] at hi;rcases hi with rfl | rfl
   ·show za1 id off q.length 2 (m*2) t [encI c.1,.bool c.2] 1 hh nx K=_;unfold za1;rw [jA,yJ,T.yt,yJ];have hwr:=uU t l [encI c.1,.bool c.2] (m*2) (by rw [<- h2] at g3 ⊢;exact g3);have hq2:=QV.opn id off (m+1) (l++[encI c.1,.bool c.2]) (q++[c]) (by rw [hln];omega) (by rw [Zat,h2];simp;omega) (by rw [List.drop_append_of_le_length (by omega),h3,hfl]);rw [hln] at hq2;refine hK _ _ _ _ hq2 (H.upd hk (by simp [Ob.names]) rfl ⟨_,by rw [T.get_set_same,show (m+1)*2=m*2+1*2 by omega],by rw [Zat,h2];simp;omega,?_⟩);rw [show (m+1)*2=m*2+[encI c.1,AV.bool c.2].length by simp;omega];exact hwr
   ·show uL off q.length 2 t [encI c.1,.bool c.2] 1 hh nx K=_;exact new id off true l t (by rw [h2];exact g3) (by omega) (by rw [h3,Zal (by rw [uW];exact Zai _)])
 | esl id m l=>exact absurd rfl hq
theorem zp7 {G:List Sym} {l:List (List Int)} (h:zp0 G l=0):jI G (dJ G)=0/\l.length<=1024/\lsE (dJ G) none l=0/\∀ g∈G,∀ f∈l,yG g.2 g.1 f∈l:=by
 rw [zp0] at h;by_cases c1:jI G (dJ G)=0
 case neg=>rw [if_pos c1] at h;exact absurd h c1
 rw [if_neg (fun q=>q c1),zkf] at h;by_cases c2:1024<l.length
 ·rw [if_pos c2] at h;cases h
 rw [if_neg c2] at h;by_cases c3:lsE (dJ G) none l=0
 case neg=>rw [if_pos c3] at h;exact absurd h c3
 rw [if_neg (fun q=>q c3)] at h;refine ⟨c1,by omega,c3,fun g hg f hf => ?_⟩;cases q:imgB G l with
 | false=>rw [if_pos q] at h;cases h
 | true =>
  rw [imgB,Zae] at q;have q1:=q f hf;rw [Zae] at q1;exact of_decide_eq_true (q1 g hg)
theorem zan {C:Calls Prop} {esz bytes e n:Nat} {o:Option Pa} {x:AV} {h:T Blk} {nx:Pa} {K:KW3}:mJ C esz bytes (qx o e n) x h nx K=tu esz bytes (qx o e n) x h nx K:=by cases o <;> exact nr rfl
end Go.Ev
set_option linter.unusedSectionVars false
namespace Go.Ev
section
variable {G:Type} [DecidableEq G] (mul:G->G->G) (e:G) (D:G->Prop)
structure zah:Prop where
 de:D e
 dm:∀ a b,D a->D b->D (mul a b)
 assoc:∀ a b c,D a->D b->D c->mul (mul a b) c=mul a (mul b c)
 el:∀ a,D a->mul e a=a
 er:∀ a,D a->mul a e=a
 cl:∀ a b c,D a->D b->D c->mul a b=mul a c->b=c
def xJ (l:List G):Prop:=∀ a∈l,∀ b∈l,mul a b∈l
structure Clo (u g:List G):Prop where
 one:e∈g
 clo:∀ x∈g,∀ b∈u,mul b x∈g
 ind:∀ T:G->Prop,T e->(∀ x,T x->∀ b∈u,T (mul b x))->∀ x∈g,T x
variable {mul e D}
theorem subG:∀ (l r:List G),l.Nodup->(∀ x∈l,x∈r)->∃ s,r.Perm (l++s)
 | [],r,_,_=>⟨r,.refl _⟩
 | a::l,r,hn,hs=>by
  obtain ⟨h1,h2⟩:=List.nodup_cons.1 hn;have ha:=hs a (by simp);obtain ⟨s,hp⟩:=subG l (r.erase a) h2 fun x hx=>(List.mem_erase_of_ne (by rintro rfl;exact h1 hx)).2 (hs x (by simp [hx]));exact ⟨s,(List.perm_cons_erase ha).trans (.cons a hp)⟩
theorem lenG {l r:List G} (h1:l.Nodup) (h2:∀ x∈l,x∈r):l.length<=r.length:=by
 obtain ⟨s,hs⟩:=subG l r h1 h2;rw [hs.length_eq,Zat];omega
theorem allG {l r:List G} (h1:l.Nodup) (h2:∀ x∈l,x∈r) (h3:r.length<=l.length):∀ x∈r,x∈l:=by
 obtain ⟨s,hs⟩:=subG l r h1 h2;have hl:=hs.length_eq;obtain rfl:s=[]:=Zbe (by rw [Zat] at hl;omega);intro x hx;simpa using hs.mem_iff.1 hx
theorem Clo.dom {u g:List G} (L:zah mul e D) (C:Clo mul e u g) (hu:∀ b∈u,D b):∀ x∈g,D x :=
 C.ind D L.de fun x hx b hb=>L.dm b x (hu b hb) hx
theorem Clo.mono {u u' g g':List G} (C:Clo mul e u g) (C':Clo mul e u' g') (h:∀ b∈u,b∈u'):∀ x∈g,x∈g' :=
 C.ind (· ∈ g') C'.one fun x hx b hb=>C'.clo x hx b (h b hb)
theorem Clo.sub {u g l:List G} (C:Clo mul e u g) (h1:e∈l) (h2:xJ mul l) (hu:∀ b∈u,b∈l):∀ x∈g,x∈l :=
 C.ind (· ∈ l) h1 fun x hx b hb=>h2 b (hu b hb) x hx
theorem Clo.prod {u g:List G} (L:zah mul e D) (C:Clo mul e u g) (hu:∀ b∈u,D b):xJ mul g:=by
 intro a ha b hb;have hd:=C.dom L hu
 have key:∀ x∈g,D x/\mul x b∈g:=C.ind (fun x=>D x/\mul x b∈g) ⟨L.de,by rw [L.el b (hd b hb)];exact hb⟩ fun x hx c hc=>⟨L.dm c x (hu c hc) hx.1,by
  rw [L.assoc c x b (hu c hc) hx.1 (hd b hb)];exact C.clo _ hx.2 c hc⟩
 exact (key a ha).2
theorem p5 {l:List G} (L:zah mul e D) (hd:∀ a∈l,D a) (hn:l.Nodup) (h0:l≠[]) (hc:xJ mul l):e∈l:=by
 obtain ⟨a,ha⟩:=List.exists_mem_of_ne_nil l h0;have nd:(l.map (mul a)).Nodup:=by
  rw [List.Nodup,Zbp];refine (List.Pairwise.and_mem.1 hn).imp ?_;rintro x y ⟨hx,hy,hxy⟩ q;exact hxy (L.cl a x y (hd a ha) (hd x hx) (hd y hy) q)
 have:=allG nd (fun x hx=>by obtain ⟨y,hy,rfl⟩:=List.mem_map.1 hx;exact hc a ha y hy) (by simp) a ha;obtain ⟨x,hx,q⟩:=List.mem_map.1 this;have:x=e:=L.cl a x e (hd a ha) (hd x hx) L.de (by rw [q,L.er a (hd a ha)]);exact this ▸ hx
theorem zix {l:List G} (L:zah mul e D) (hd:∀ a∈l,D a) (hn:l.Nodup) (hc:xJ mul l) (he:e∈l):∀ a∈l,∃ b∈l,mul a b=e:=by
 intro a ha;have nd:(l.map (mul a)).Nodup:=by
  rw [List.Nodup,Zbp];refine (List.Pairwise.and_mem.1 hn).imp ?_;rintro x y ⟨hx,hy,hxy⟩ q;exact hxy (L.cl a x y (hd a ha) (hd x hx) (hd y hy) q)
 have:=allG nd (fun x hx=>by obtain ⟨y,hy,rfl⟩:=List.mem_map.1 hx;exact hc a ha y hy) (by simp) e he;obtain ⟨x,hx,q⟩:=List.mem_map.1 this;exact ⟨x,hx,q⟩
structure Bfs (u:List G) (q:List G) (i:Nat):Prop where
 nd:q.Nodup
 hd:q[0]? = some e
 clo:∀ j x,j<i->q[j]? = some x->∀ b∈u,mul b x∈q
 ind:∀ T:G->Prop,T e->(∀ x,T x->∀ b∈u,T (mul b x))->∀ x∈q,T x
theorem Bfs.start (u:List G):Bfs (mul:=mul) (e:=e) u [e] 0:=⟨by simp,rfl,fun j x h=>by omega,fun T h1 _ x hx=>by rw [List.mem_singleton.1 hx];exact h1⟩
theorem Bfs.done {u q:List G} (B:Bfs (mul:=mul) (e:=e) u q q.length):Clo mul e u q :=
 ⟨Zab B.hd,fun x hx b hb=>by
  obtain ⟨j,hj⟩:=List.mem_iff_getElem?.1 hx;exact B.clo j x (List.getElem?_eq_some_iff.1 hj).1 hj b hb,B.ind⟩
structure eF (u:List G) (q:List G) (i:Nat) (x:G) (k:Nat):Prop where
 nd:q.Nodup
 hd:q[0]? = some e
 at':q[i]? = some x
 clo:∀ j y,j<i->q[j]? = some y->∀ b∈u,mul b y∈q
 clk:∀ b∈u.take k,mul b x∈q
 ind:∀ T:G->Prop,T e->(∀ x,T x->∀ b∈u,T (mul b x))->∀ x∈q,T x
theorem Bfs.at {u q:List G} {i:Nat} {x:G} (B:Bfs (mul:=mul) (e:=e) u q i) (h:q[i]? = some x):eF (mul:=mul) (e:=e) u q i x 0:=⟨B.nd,B.hd,h,B.clo,by simp,B.ind⟩
theorem eF.had {u q:List G} {i k:Nat} {x b:G} (B:eF (mul:=mul) (e:=e) u q i x k) (hb:u[k]? = some b) (h:mul b x∈q):eF (mul:=mul) (e:=e) u q i x (k+1) :=
 ⟨B.nd,B.hd,B.at',B.clo,fun c hc=>by
  rw [Zan,hb] at hc;rcases List.mem_append.1 hc with q | q
  ·exact B.clk c q
  ·simp at q;rw [q];exact h,B.ind⟩
theorem eF.new {u q:List G} {i k:Nat} {x b:G} (B:eF (mul:=mul) (e:=e) u q i x k) (hb:u[k]? = some b) (h:mul b x∉q):eF (mul:=mul) (e:=e) u (q++[mul b x]) i x (k+1):=by
 have hget:∀ {j:Nat} {y:G},q[j]? = some y->(q++[mul b x])[j]? = some y:=fun {j y} hj=>by
  rw [List.getElem?_append_left (List.getElem?_eq_some_iff.1 hj).1];exact hj
 have hback:∀ {j:Nat} {y:G},j<i->(q++[mul b x])[j]? = some y->q[j]? = some y:=fun {j y} hj hy=>by
  have:=(List.getElem?_eq_some_iff.1 B.at').1;rw [List.getElem?_append_left (by omega)] at hy;exact hy
 refine ⟨?_,hget B.hd,hget B.at',fun j y hj hy c hc=>Zce _ (B.clo j y hj (hback hj hy) c hc),fun c hc => ?_,fun T h1 h2 y hy => ?_⟩
 ·rw [Zbd];refine ⟨B.nd,by simp,?_⟩;rintro a ha c hc rfl;rw [List.mem_singleton.1 hc] at ha;exact h ha
 ·rw [Zan,hb] at hc;rcases List.mem_append.1 hc with r | r
  ·exact Zce _ (B.clk c r)
  ·simp at r;rw [r];simp
 ·rcases List.mem_append.1 hy with r | r
  ·exact B.ind T h1 h2 y r
  ·rw [List.mem_singleton.1 r];exact h2 x (B.ind T h1 h2 x (Zab B.at')) b (Zab hb)
theorem eF.next {u q:List G} {i:Nat} {x:G} (B:eF (mul:=mul) (e:=e) u q i x u.length):Bfs (mul:=mul) (e:=e) u q (i+1) :=
 ⟨B.nd,B.hd,fun j y hj hy b hb=>by
  by_cases c:j<i
  ·exact B.clo j y c hy b hb
  ·obtain rfl:j=i:=by omega
   rw [B.at'] at hy;rw [<- Option.some.inj hy];exact B.clk b (by rw [List.take_length];exact hb),B.ind⟩
theorem eF.many {u q l:List G} {i k:Nat} {x b:G} (L:zah mul e D) (B:eF (mul:=mul) (e:=e) u q i x k) (hb:u[k]? = some b) (h:mul b x∉q) (hq:q.length=l.length) (hd:∀ a∈l,D a) (hn:l.Nodup) (h0:l≠[]) (hu:∀ b∈u,b∈l):¬ xJ mul l:=by
 intro hc;have h1:=p5 L hd hn h0 hc;have B':=B.new hb h;have:=lenG B'.nd (B'.ind (· ∈ l) h1 fun y hy c hc'=>hc c (hu c hc') y hy);rw [Zat,List.length_singleton] at this;omega
theorem zmc {u g l:List G} (L:zah mul e D) (C:Clo mul e u g) (hg:g.Nodup) (hd:∀ a∈l,D a) (hn:l.Nodup) (h0:l≠[]) (hu:∀ b∈u,b∈l) (hl:∀ a∈l,a∈g):g.length=l.length↔xJ mul l:=by
 have hud:∀ b∈u,D b:=fun b hb=>hd b (hu b hb);constructor
 ·intro h a ha b hb;have hgl:=allG hn hl (by omega);exact hgl _ (C.prod L hud a (hl a ha) b (hl b hb))
 ·intro hc;have h1:=p5 L hd hn h0 hc;have:=lenG hg (C.sub h1 hc hu);have:=lenG hn hl;omega
end
end Go.Ev
namespace Go.Ev
open Go Go.Proofs
variable {B:Nat}
theorem zdh (l:List Sym):rD (vw l)=true:=mX fun v hv=>by
 obtain ⟨x,_,hx⟩:=List.mem_flatMap.1 hv;simp only [Zah,List.not_mem_nil,or_false] at hx;rcases hx with rfl | rfl
 ·exact uH _
 ·rfl
theorem ziy {l:List Sym}:Pure Tryz.prog B 86 [vw l] (· = .fn 144 (.of 144) [.fp [vw l]]):=by
 refine yE fun h nx K H0 hK=>zP zR yh 10000000 fun hf => ?_;rw [F86.go];refine H0.box (l:=[vw l]) rfl fun bx h1 nx1 H1 => ?_;obtain ⟨op,t,g1,g2⟩:yx h1 bx [vw l]:=H1.own _ (Zam ..);have hfx:rD (vw l)=true:=zdh l;refine hK _ _ _ _ (.fn 144 (.of 144) [.fp [vw l]]) H1 (.fn _ _ _ _ rfl fun i v v' h2 h3 => ?_) rfl
 match i with
 | 0 =>
  simp only [List.getElem?_cons_zero,Option.some.injEq] at h2 h3;subst h2 h3;refine .ptr _ _ op _ t _ (H1.off bx (by simp [Ob.names])) g1 (by simp) (by simp [jc]) fun i v hv => ?_
  match i with
  | 0 =>
   simp only [List.getElem?_cons_zero,Option.some.injEq] at hv;subst hv;have:=yC t 0 1 0 (by omega);have g2:yD t 0 1=[vw l]:=g2;rw [g2] at this;simp only [List.getElem?_cons_zero,Option.some.injEq] at this;rw [<- this];exact zL hfx
  | i+1=>simp at hv
 | i+1=>simp at h2
theorem zev {h0 h:T Blk} {nx p id:Pa} {l:List Sym} {L:List Ob} {K:Kw Prop} (J:Nat->List Ob->Prop) (X:List Ob->Prop) (hl:l.length<=1000000) (hJ:J 0 L) (H:Hp h0 h nx L)
  (step:∀ (i:Nat) (a:Sym) (h:T Blk) (nx:Pa) (L:List Ob) (K:Kw Prop),l[i]? = some a->J i L->Hp h0 h nx L->(∀ h' nx' L',J (i+1) L'->Hp h0 h' nx' L'->K (.bool true) h' nx'=.ok True)->(∀ h' nx' L',X L'->Hp h0 h' nx' L'->K (.bool false) h' nx'=.ok True)->(CS Tryz.prog B).yld id [I i,encS a] h nx K=.ok True)
  (hK:∀ h' nx' L',(J l.length L'\/X L')->Hp h0 h' nx' L'->K (.tup []) h' nx'=.ok True):(CS Tryz.prog B).fn 144 p [.yld id,.fp [vw l]] h nx K=.ok True:=by
 refine jB (p:=.of 144) (K:=K) (zP zR yh 10000000 fun hf => ?_) fun _ _ _ _ q=>q;rw [wu.go,zdb,zO];refine wu.L1 (fun m z6 h' nx'=>∃ (i:Nat) (L':List Ob),z6=I i/\l.length-i=m/\i<=l.length/\J i L'/\Hp h0 h' nx' L') (m:=l.length) (by omega) ⟨0,L,rfl,rfl,by omega,hJ,H⟩ ?_;rintro m z2 z3 z6 z7 z8 h1 nx1 R ⟨i,L1,rfl,rfl,hi,hJ1,H1⟩ hR;simp only [jl];by_cases hlt:i<l.length
 ·simp only [show (i:Int)<(l.length:Int) by omega,decide_true,zH];have hx:l[i]? = some l[i]:=List.getElem?_eq_getElem hlt;rw [xu rfl hlt,j5 hlt,qX];refine H1.alloc fun ab h5 nx5 H5 => ?_;refine H5.qy (k:=0) (n:=2) rfl rfl rfl fun h6 H6 => ?_;rw [H6.zn (k:=0) (n:=2) rfl rfl,zdc];refine step i _ _ _ _ _ hx hJ1 H6.drop (fun h7 nx7 L7 hJ7 H7 => ?_) (fun h7 nx7 L7 hX H7 => ?_)
  ·simp only [yV,Zaf,zJ];rw [jk (by omega)];exact hR _ _ _ _ _ _ _ _ (by omega) ⟨i+1,L7,rfl,rfl,by omega,hJ7,H7⟩
  ·simp only [yV,Zag,zH];exact hK _ _ _ (.inr hX) H7
 ·simp only [show ¬ (i:Int)<(l.length:Int) by omega,decide_false,zJ];obtain rfl:i=l.length:=by omega
  exact hK _ _ _ (.inl hJ1) H1
theorem zyp {h0 h:T Blk} {nx:Pa} {L:List Ob} {k j n:Nat} {o:Option Pa} {u:List Sym} {c:Sym} (H:Hp h0 h nx L) (hk:L[k]? = some (.gro o 2 n (jF u))) (hj:u[j]? = some c):∃ id off,(∀ op:AV->OP,zV 2 (qx o 2 n) (I (j:Int)) op=op (.ptr id off))/\∀ op:AV->OP,zS 2 (.ptr id off) h op=op (encS c):=by
 have own:=H.own _ (Zab hk);have hjl:=(List.getElem?_eq_some_iff.1 hj).1;have hlen:=uW u;cases o with
 | none =>
  obtain ⟨q,_⟩:=own;rw [q] at hlen;simp at hlen;omega
 | some id =>
  obtain ⟨t,h1,h2,h3⟩:=own;have hn:n=u.length:=by omega
  subst hn;refine ⟨id,j*2,fun op=>by rw [qx,qH hjl,Zaw],fun op => ?_⟩;show jf (T.get .no id h) _ _=_;rw [h1];show (bif Nat.ble (j*2+2) (u.length*2) then op (.agg (yD t (j*2) 2)) else .no 8)=_;rw [Zac (by omega),cond_true];have e:∀ i,i<u.length*2->T.get .u (.of i) t=(jF u).getD i .u:=fun i hi=>by
   have:=yC t 0 (u.length*2) i hi;rw [h3,Zaw] at this;rw [Zaa,this];rfl
  have d:∀ i,(jF u).getD (j*2+i) .u=((jF u).drop (j*2)).getD i .u:=fun i=>by
   rw [Zaa,Zaa,List.getElem?_drop]
  have e2:yD t (j*2) 2=[T.get .u (.of (j*2)) t,T.get .u (.of (j*2+1)) t]:=rfl;have d0:=d 0;rw [Zco] at d0;obtain rfl:u[j]=c:=by rw [List.getElem?_eq_getElem hjl] at hj;exact Option.some.inj hj
  rw [e2,e _ (by omega),e _ (by omega),d 1,d0,j5 hjl]
  rfl
theorem DS.comp {n:Nat} {a b:Sym} (ha:DS n a) (hb:DS n b):DS n (jD a b):=by
 refine ⟨by rw [jD,kK];exact hb.1,fun x hx => ?_⟩;obtain ⟨c,hc,rfl⟩:=List.mem_map.1 hx;have h1:=hb.2 c hc;have h2:=ha.1;rw [Zaa,List.getElem?_eq_getElem (by omega)];exact ha.2 _ (Zak _)
theorem DS.id (n:Nat):DS n (idS n):=by
 refine ⟨by simp [idS],fun x hx => ?_⟩;obtain ⟨j,hj,rfl⟩:=List.mem_map.1 hx;have:=List.mem_range.1 hj;omega
abbrev CloS (n:Nat) (u g:List Sym):Prop:=Clo jD (idS n) u g
abbrev BfsS (n:Nat) (u q:List Sym) (i:Nat):Prop:=Bfs (mul:=jD) (e:=idS n) u q i
abbrev bY (n:Nat) (u q:List Sym) (i:Nat) (x:Sym) (k:Nat):Prop:=eF (mul:=jD) (e:=idS n) u q i x k
def zkh (n limit:Nat) (l:List Sym):Prop:=∃ u q i x k b,(∀ c∈u,c∈l)/\bY n u q i x k/\u[k]? = some b/\jD b x∉q/\q.length=limit
theorem BfsS.ds {n:Nat} {u q:List Sym} (hu:∀ b∈u,DS n b) (h:∀ T:Sym->Prop,T (idS n)->(∀ x,T x->∀ b∈u,T (jD b x))->∀ x∈q,T x):∀ x∈q,DS n x :=
 h (DS n) (DS.id n) fun _ hx b hb=>DS.comp (hu b hb) hx
noncomputable abbrev zo.tm (n limit:Nat) (l:List Sym) (b3 b4 b5 b6 b7 b8 b9:Pa):T AV:=zo.fr (vw l) (I n) (I limit) (.ptr b3 0) (.ptr b4 0) (.ptr b5 0) (.ptr b6 0) (.ptr b7 0) (.ptr b8 0) (.ptr b9 0) .u .u .u .u (.fn 144 (.of 144) [.fp [vw l]]) .u .u .u .u .u .u .u .u .u .u
theorem zo.prods {N:Nat} {K0:Kw Prop} {E1 E2 E3 K:Ks Prop} {h0 h:T Blk} {nx id b3 b4 b5 b6 b8 g1:Pa} {x0 x1 x2 x7 x9 x10 x12 x13 x14 x15 x16 x17 x18 x22 x23 x24 v:AV} {o:Option Pa} {ob:Ob} {X:List Ob} {n limit i:Nat} {u q:List Sym} {x:Sym}
  (hN:100000<N) (hn:n<=256) (hlim:limit<=2000) (hu:∀ b∈u,DS n b) (hul:u.length<=2000)
  (k3:X[11]? = some (.arr b3 [I limit])) (k4:X[10]? = some (.arr b4 [.wz])) (k5:X[9]? = some (.arr b5 [.zf])) (k6:X[8]? = some (.arr b6 [.bool false])) (k8:X[4]? = some (.arr b8 [.map g1])) (kg:X[6]? = some (.gro o 2 u.length (jF u)))
  (hB:bY n u q i x 0) (hql:q.length<=limit) (hv:QV v ob (q.drop i)) (H:Hp h0 h nx (ob::.map g1 (fF q)::X))
  (hbad:∀ k b q' h' nx' O1 O2,bY n u q' i x k->u[k]? = some b->jD b x∉q'->q'.length=limit->Hp h0 h' nx' (O1::O2::X)->yZ id K0 .ret false .e h' nx'=.ok True)
  (hK:∀ q' v' ob' w12 w13 w22 w23 w24 h' nx',bY n u q' i x u.length->q'.length<=limit->QV v' ob' (q'.drop i)->Hp h0 h' nx' (ob'::.map g1 (fF q')::X) ->
   K (zo.fr x0 x1 x2 (.ptr b3 0) (.ptr b4 0) (.ptr b5 0) (.ptr b6 0) x7 (.ptr b8 0) x9 x10 v' w12 w13 x14 x15 x16 x17 x18 (qx o 2 u.length) (I u.length) (I u.length) w22 w23 w24) h' nx'=.ok True) :
  IR.run zo.b13 (CS Tryz.prog B) N ((((rO id K0).blk 1 E1).blk 2 E2).blk 3 E3) K (zo.fr x0 x1 x2 (.ptr b3 0) (.ptr b4 0) (.ptr b5 0) (.ptr b6 0) x7 (.ptr b8 0) x9 x10 v x12 x13 x14 x15 x16 x17 x18 (qx o 2 u.length) (I u.length) (I 0) x22 x23 x24) h nx=.ok True:=by
 refine zo.L13 (fun m x11 x21 h' nx'=>∃ (k:Nat) (q:List Sym) (ob:Ob),x21=I k/\u.length-k=m/\k<=u.length/\bY n u q i x k/\q.length<=limit/\QV x11 ob (q.drop i)/\Hp h0 h' nx' (ob::.map g1 (fF q)::X)) (m:=u.length) (by omega) ⟨0,q,ob,rfl,rfl,by omega,hB,hql,hv,H⟩ ?_
 clear hB hql hv H v ob q
 rintro m v z12 z13 z21 z22 z23 z24 h1 nx1 R ⟨k,q,ob,rfl,rfl,hk,hB,hql,hv,H1⟩ hR;simp only [jl];by_cases hlt:k<u.length
 case neg =>
  simp only [show ¬ (k:Int)<(u.length:Int) by omega,decide_false,zJ];obtain rfl:k=u.length:=by omega
  exact hK _ _ _ _ _ _ _ _ _ _ hB hql hv H1
 simp only [show (k:Int)<(u.length:Int) by omega,decide_true,zH];have hb:u[k]? = some u[k]:=List.getElem?_eq_getElem hlt;have hqd:∀ y∈q,DS n y:=BfsS.ds hu hB.ind;have hdb:=hu _ (Zak hlt);have hil:=(List.getElem?_eq_some_iff.1 hB.at').1;have hxq:q[i]=x:=by have:=hB.at';rw [List.getElem?_eq_getElem hil] at this;exact Option.some.inj this
 have hdx:DS n x:=hqd x (hxq ▸ Zak hil);have hdr:q.drop i=x::q.drop (i+1):=by rw [Zar hil,hxq]
 have hdc:=DS.comp hdb hdx;obtain ⟨iu,ou,e1,e2⟩:=zyp (k:=8) H1 kg hb;rw [e1,e2];refine H1.alloc fun c12 h2 nx2 H2 => ?_;refine H2.qy (k:=0) (n:=2) rfl rfl rfl fun h3 H3 => ?_;rw [show (true&&true)=true from rfl,jX,H3.zn (k:=0) (n:=2) rfl rfl];rw [hdr] at hv;obtain ⟨iq,oq,f1,f2⟩:=hv.first
 rw [f1,f2 H3 (k:=1) rfl];have hdb2:=hdb.1;have hdx2:=hdx.1;refine zp2 (fun y hy=>by have:=hdx.2 y hy;omega) (by omega) _ _ _ _ ?_;rintro _ rfl _;rw [f2 H3 (k:=1) rfl,zI,f1,zI,zI,H3.zn (k:=0) (n:=2) rfl rfl,zI];refine H3.alloc fun c13 h4 nx4 H4 => ?_;rw [f2 H4 (k:=2) rfl,zI,f1,zI,zI,H4.zn (k:=1) (n:=2) rfl rfl,zI];refine H4.qy (k:=0) (n:=2) rfl rfl rfl fun h5 H5 => ?_;rw [H5.load (k:=8) (i:=0) k8 rfl,H5.zn (k:=0) (n:=2) rfl rfl];refine zp6 hn hdc hqd H5 (k:=3) rfl ?_;by_cases c:jD u[k] x∈q
 ·simp only [c,decide_true,zH];rw [jk (by omega)];exact hR _ _ _ _ _ _ _ _ _ _ (by omega) ⟨k+1,q,ob,rfl,rfl,by omega,hB.had hb c,hql,hdr ▸ hv,H5.drop.drop⟩
 simp only [c,decide_false,zJ];rw [H5.load (k:=8) (i:=0) k8 rfl,H5.zww (k:=3) rfl,H5.load (k:=15) (i:=0) k3 rfl];simp only [rG];by_cases c2:q.length=limit
 ·simp only [show (q.length:Int)=(limit:Int) by omega,decide_true,zH];refine H5.store (k:=14) k4 (by simp) rfl fun h6 H6 => ?_;refine H6.store (k:=13) (l:=[.zf]) (by rw [List.getElem?_set_ne (by decide)];exact k5) (by simp) rfl fun h7 H7 => ?_;refine H7.store (k:=12) (l:=[.bool false]) (by rw [List.getElem?_set_ne (by decide),List.getElem?_set_ne (by decide)];exact k6) (by simp) rfl fun h8 H8 => ?_;have ew:∀ {j:Nat} {y:Ob} (hj:X[j]? = some y),X.set j y=X:=fun {j y} hj=>by
   refine Zau fun p => ?_;rw [List.getElem?_set];by_cases e:j=p
   ·subst e;rw [if_pos rfl,if_pos (List.getElem?_eq_some_iff.1 hj).1,hj]
   ·rw [if_neg e]
  refine hbad k _ q _ _ ob (.map g1 (fF q)) hB hb c c2 (H8.drop.drop.cast ?_);show ob::.map g1 (fF q)::((X.set 10 (.arr b4 ([AV.wz].set 0 .wz))).set 9 (.arr b5 ([AV.zf].set 0 .zf))).set 8 (.arr b6 ([AV.bool false].set 0 (.bool false)))=_;rw [show [AV.wz].set 0 .wz=[.wz] from rfl,show [AV.zf].set 0 .zf=[.zf] from rfl,show [AV.bool false].set 0 (.bool false)=[.bool false] from rfl,ew k4,ew k5,ew k6]
 simp only [show ¬ (q.length:Int)=(limit:Int) by omega,decide_false,zJ];rw [H5.load (k:=8) (i:=0) k8 rfl,H5.zn (k:=0) (n:=2) rfl rfl,H5.zn (k:=0) (n:=2) rfl rfl];have hdc2:=hdc.1;refine zeu (fun y hy=>by have:=hdc.2 y hy;omega) (by omega) _ _ _ _ ?_;rintro _ rfl _;rw [H5.zn (k:=0) (n:=2) rfl rfl,zI,H5.load (k:=8) (i:=0) k8 rfl,zI];refine H5.putS hn hdc hqd c (k:=3) rfl fun h6 H6 => ?_;rw [H6.zn (k:=0) (n:=2) rfl rfl];refine H6.yj (l:=[encI (jD u[k] x).1,.bool (jD u[k] x).2]) rfl fun tb h7 nx7 H7 => ?_;refine hv.app (c:=jD u[k] x) (by simp) H7 (k:=3) rfl (yx.rd (l:=[encI (jD u[k] x).1,.bool (jD u[k] x).2]) (n:=1) (e:=2) (H7.own _ (Zam ..)) rfl) ?_ fun v' ob' h8 nx8 hv' H8 => ?_
 ·rw [<- hdr,Zcj];omega
 rw [jk (by omega)];refine hR _ _ _ _ _ _ _ _ _ _ (by omega) ⟨k+1,q++[jD u[k] x],ob',rfl,rfl,by omega,hB.new hb c,by rw [Zat,List.length_singleton];omega,?_,H8.drop.drop.drop⟩;rw [List.drop_append_of_le_length (by omega),hdr];exact hv'
theorem comp_id {n:Nat} {b:Sym} (hb:DS n b):jD b (idS n)=b:=by
 have h1:=hb.1;refine Prod.ext ?_ (by show (b.2 != false)=b.2;cases b.2 <;> rfl);show qD b.1 ((List.range n).map fun j:Nat=>(j:Int))=b.1;refine Zau fun i => ?_;rw [qD,Zca,List.getElem?_map];by_cases hi:i<n
 ·rw [List.getElem?_range hi,List.getElem?_eq_getElem (by omega)];show some (b.1.getD ((i:Nat):Int).toNat 0)=_;rw [Zaa,Int.toNat_natCast,List.getElem?_eq_getElem (by omega)];rfl
 ·rw [List.getElem?_eq_none (by simp;omega),List.getElem?_eq_none (by omega)];rfl
theorem zo.bfs {N:Nat} {K0:Kw Prop} {E1 K:Ks Prop} {h0 h:T Blk} {nx id b3 b4 b5 b6 b8 b9 g1:Pa} {x0 x1 x2 x7 x10 x12 x13 x14 x15 x16 x17 x18 x19 x20 x21 x22 x23 x24 v:AV} {o:Option Pa} {ob:Ob} {X:List Ob} {n limit:Nat} {u q:List Sym}
  (hN:100000<N) (hn:n<=256) (hlim:limit<=2000) (hu:∀ b∈u,DS n b) (hul:u.length<=2000)
  (k3:X[11]? = some (.arr b3 [I limit])) (k4:X[10]? = some (.arr b4 [.wz])) (k5:X[9]? = some (.arr b5 [.zf])) (k6:X[8]? = some (.arr b6 [.bool false])) (k8:X[4]? = some (.arr b8 [.map g1])) (kg:X[6]? = some (.gro o 2 u.length (jF u))) (k9:X[3]? = some (.arr b9 [qx o 2 u.length]))
  (hB:BfsS n u q 0) (hql:q.length<=limit) (hv:QV v ob q) (H:Hp h0 h nx (ob::.map g1 (fF q)::X))
  (hbad:∀ i x k b q' h' nx' O1 O2,bY n u q' i x k->u[k]? = some b->jD b x∉q'->q'.length=limit->Hp h0 h' nx' (O1::O2::X)->yZ id K0 .ret false .e h' nx'=.ok True)
  (hK:∀ q' ob' tm h' nx',CloS n u q'->q'.Nodup->q'.length<=limit->Hp h0 h' nx' (ob'::.map g1 (fF q')::X)->K tm h' nx'=.ok True) :
  IR.run zo.b7 (CS Tryz.prog B) N ((rO id K0).blk 1 E1) K (zo.fr x0 x1 x2 (.ptr b3 0) (.ptr b4 0) (.ptr b5 0) (.ptr b6 0) x7 (.ptr b8 0) (.ptr b9 0) x10 v x12 x13 x14 x15 x16 x17 x18 x19 x20 x21 x22 x23 x24) h nx=.ok True:=by
 refine zo.L7 (fun m x11 h' nx'=>∃ (i:Nat) (q:List Sym) (ob:Ob),limit-i=m/\i<=q.length/\BfsS n u q i/\q.length<=limit/\QV x11 ob (q.drop i)/\Hp h0 h' nx' (ob::.map g1 (fF q)::X)) (m:=limit) (by omega) ⟨0,q,ob,rfl,by omega,hB,hql,hv,H⟩ ?_
 clear hB hql hv H v ob q
 rintro m v z12 z13 z18 z19 z20 z21 z22 z23 z24 h1 nx1 R ⟨i,q,ob,rfl,hi,hB,hql,hv,H1⟩ hR;rw [hv.len];simp only [xk];by_cases hlt:i<q.length
 case neg =>
  rw [Zcj];simp only [show ¬ (0:Int)<((q.length-i:Nat):Int) by omega,decide_false,zJ];obtain rfl:i=q.length:=by omega
  exact hK _ _ _ _ _ hB.done hB.nd hql H1
 rw [Zcj];simp only [show (0:Int)<((q.length-i:Nat):Int) by omega,decide_true,zH];rw [H1.load (k:=5) (i:=0) k9 rfl,H1.zbw (k:=8) kg];refine zo.prods (x:=q[i]) hN hn hlim hu hul k3 k4 k5 k6 k8 kg (hB.at (List.getElem?_eq_getElem hlt)) hql hv H1 (fun k b q' h' nx' O1 O2 a1 a2 a3 a4 a5=>hbad i _ k b q' h' nx' O1 O2 a1 a2 a3 a4 a5) fun q' v' ob' w12 w13 w22 w23 w24 h2 nx2 hB2 hql2 hv2 H2 => ?_;have hil:=(List.getElem?_eq_some_iff.1 hB2.at').1;rw [Zar hil] at hv2;obtain ⟨v3,e3,hv3⟩:=hv2.rest;rw [zo.k22,e3];exact hR _ _ _ _ _ _ _ _ _ _ _ _ _ (by omega) ⟨i+1,q',ob',rfl,by omega,hB2.next,hql2,hv3,H2⟩
def zo.J (n limit:Nat) (l:List Sym) (id b3 b4 b5 b6 b7 b8 b9:Pa) (L:List Ob) (i:Nat) (L':List Ob):Prop :=
 ∃ (u q:List Sym) (o:Option Pa) (g:Pa),(∀ c∈u,c∈l)/\u.length<=i/\(∀ a∈l.take i,a∈q)/\q.Nodup/\CloS n u q/\q.length<=limit /\
  L'=.raw id (.loop .ready .none (zo.tm n limit l b3 b4 b5 b6 b7 b8 b9) [.of 15,.of 16] zo.b3 zo.b4)::.arr b9 [qx o 2 u.length]::.arr b8 [.map g]::.map g (fF q)::.gro o 2 u.length (jF u)::.arr b7 [encI (idS n).1,.bool (idS n).2]::.arr b6 [.bool false]::.arr b5 [.zf]::.arr b4 [.wz]::.arr b3 [I limit]::L
def zo.X (n limit:Nat) (l:List Sym) (id b3 b4 b5 b6 b7 b8 b9:Pa) (L:List Ob) (L':List Ob):Prop :=
 zkh n limit l/\∃ O1 O2 O3 O4 O5 O6 O7 O8 O9,L'=O1::O2::O3::O4::.raw id (.loop .done .ret (zo.tm n limit l b3 b4 b5 b6 b7 b8 b9) [.of 15,.of 16] zo.b3 zo.b4)::O5::O6::O7::O8::O9::.arr b6 [.bool false]::.arr b5 [.zf]::.arr b4 [.wz]::.arr b3 [I limit]::L
theorem Hp.tidy {h0 h:T Blk} {nx:Pa} {A M T' B' R B9 B8 G:Ob} {L:List Ob} (H:Hp h0 h nx (A::M::T'::B'::R::B9::B8::G::L)):Hp h0 h nx (R::B9::B8::M::L):=by
 have e1:(M::T'::B'::R::B9::B8::G::L).Perm (T'::B'::R::B9::B8::M::G::L):=(Zby (l₁:=[T',B',R,B9,B8]) (a:=M) (l₂:=G::L)).symm;have H1:=H.drop.perm e1;have e2:(R::B9::B8::M::G::L).Perm (G::R::B9::B8::M::L):=Zby (l₁:=[R,B9,B8,M]) (a:=G) (l₂:=L);exact (H1.drop.drop.perm e2).drop
theorem Hp.qch {h0 h:T Blk} {nx:Pa} {A1 A2 M G B1 B2 B3 B4 B5:Ob} {L:List Ob} (H:Hp h0 h nx (A1::A2::M::G::B1::B2::B3::B4::B5::L)):Hp h0 h nx (M::G::L):=by
 have e1:(M::G::B1::B2::B3::B4::B5::L).Perm (M::B1::B2::B3::B4::B5::G::L):=.cons _ (Zby (l₁:=[B1,B2,B3,B4,B5]) (a:=G) (l₂:=L)).symm;have e2:(M::B1::B2::B3::B4::B5::G::L).Perm (B1::B2::B3::B4::B5::M::G::L):=(Zby (l₁:=[B1,B2,B3,B4,B5]) (a:=M) (l₂:=G::L)).symm;exact (H.drop.drop.perm (e1.trans e2)).drop.drop.drop.drop.drop
theorem zo.round {h0 h:T Blk} {nx id b3 b4 b5 b6 b7 b8 b9:Pa} {K:Kw Prop} {L L':List Ob} {n limit i:Nat} {l:List Sym} {a:Sym} (hn:n<=256) (hl1:1<=limit) (hlim:limit<=2000) (hl:∀ a∈l,DS n a) (hll:l.length<=2000) (hx:l[i]? = some a)
  (hJ:zo.J n limit l id b3 b4 b5 b6 b7 b8 b9 L i L') (H:Hp h0 h nx L')
  (hj:∀ h' nx' L',zo.J n limit l id b3 b4 b5 b6 b7 b8 b9 L (i+1) L'->Hp h0 h' nx' L'->K (.bool true) h' nx'=.ok True)
  (hs:∀ h' nx' L',zo.X n limit l id b3 b4 b5 b6 b7 b8 b9 L L'->Hp h0 h' nx' L'->K (.bool false) h' nx'=.ok True):(CS Tryz.prog B).yld id [I i,encS a] h nx K=.ok True:=by
 obtain ⟨u,q,o,g,hu,hul,hin,hnd,hC,hql,rfl⟩:=hJ;have hi:=(List.getElem?_eq_some_iff.1 hx).1;have ham:=Zab hx;have hda:=hl a ham;have hqd:∀ y∈q,DS n y:=BfsS.ds (fun b hb=>hl b (hu b hb)) hC.ind;have htk:∀ c∈l.take (i+1),c∈l.take i\/c=a:=fun c hc=>by
  rw [Zan,hx] at hc;rcases List.mem_append.1 hc with r | r
  ·exact .inl r
  ·exact .inr (by simpa using r)
 refine m9 (fns:=tbl) yh 10000000 fun hf => ?_;rw [zo.p4 (vL H (k:=0) rfl)];refine H.alloc fun b10 h1 nx1 H1 => ?_;refine H1.qy (k:=0) (n:=2) rfl rfl rfl fun h2 H2 => ?_;rw [zel (vL H2 (k:=1) rfl)];have H3:=H2.zes (k:=1) rfl (b':=.loop .busy .none (zo.tm n limit l b3 b4 b5 b6 b7 b8 b9) [.of 15,.of 16] zo.b3 zo.b4) (by intro e;cases e);rw [zo.y4,H3.load (k:=3) (i:=0) rfl rfl,H3.zn (k:=0) (n:=2) rfl rfl];refine zp6 hn hda hqd H3 (k:=4) rfl ?_;by_cases c:a∈q
 ·simp only [c,decide_true,zH];refine H3.rend (k:=1) rfl fun h4 H4 => ?_;exact hj _ _ _ ⟨u,q,o,g,hu,by omega,fun d hd=>(htk d hd).elim (hin d) (fun e=>e ▸ c),hnd,hC,hql,rfl⟩ H4.drop
 simp only [c,decide_false,zJ];rw [H3.load (k:=2) (i:=0) rfl rfl,H3.zn (k:=0) (n:=2) rfl rfl];refine H3.yj (l:=[encI a.1,.bool a.2]) rfl fun tb h4 nx4 H4 => ?_;rw [zan];refine H4.appN (k:=6) (o:=o) (c:=1) (esz:=2) (new:=[encI a.1,.bool a.2]) rfl (yx.rd (l:=[encI a.1,.bool a.2]) (n:=1) (e:=2) (H4.own _ (Zam ..)) rfl) rfl rfl (by decide) (by decide) (by omega) fun o' h5 nx5 _ H5 => ?_;refine H5.store (k:=3) rfl (by simp) (uO _ _ _) fun h6 H6 => ?_;rw [show (true&&true)=true from rfl,jX,H6.zn (k:=7) (n:=2) rfl rfl,H6.zn (k:=7) (n:=2) rfl rfl];have hid:=DS.id n;have hid1:=hid.1;refine zeu (a:=idS n) (fun y hy=>by have:=hid.2 y hy;omega) (by omega) _ _ _ _ ?_;rintro _ rfl _;rw [H6.zn (k:=7) (n:=2) rfl rfl,zI,H6.zn (k:=7) (n:=2) rfl rfl,zI];refine H6.au fun g1 h7 nx7 H7 => ?_;rw [H7.zn (k:=8) (n:=2) rfl rfl,zI,H7.zn (k:=8) (n:=2) rfl rfl,zI];refine H7.putS hn hid (ks:=[]) (by simp) (by simp) (k:=0) rfl fun h8 H8 => ?_;refine H8.store (k:=5) rfl (by simp) rfl fun h9 H9 => ?_;rw [H9.zn (k:=8) (n:=2) rfl rfl];refine H9.yj (l:=[encI (idS n).1,.bool (idS n).2]) rfl fun qb h10 nx10 H10 => ?_;have eu:u.length+1=(u++[a]).length:=by simp
 have ef:jF u++[encI a.1,.bool a.2]=jF (u++[a]):=by simp [jF]
 have hu':∀ b∈u++[a],b∈l:=fun b hb=>by
  rcases List.mem_append.1 hb with r | r
  ·exact hu b r
  ·rw [List.mem_singleton.1 r];exact ham
 rw [eu,ef] at H10;refine zo.bfs (o:=o') (ob:=.arr qb [encI (idS n).1,.bool (idS n).2]) (u:=u++[a]) (q:=[idS n]) (limit:=limit) (by decide) hn hlim (fun b hb=>hl b (hu' b hb)) (by simp;omega) rfl rfl rfl rfl rfl rfl rfl (Bfs.start _) (by simpa using hl1) (.cap qb 0 _ [idS n] (by simp) rfl) H10 (fun j x k b q' h' nx' O1 O2 a1 a2 a3 a4 H' => ?_) fun q' ob' tm h' nx' hC' hnd' hql' H' => ?_
 ·refine H'.rend (k:=4) rfl fun h11 H11 => ?_;exact hs _ _ _ ⟨⟨u++[a],q',j,x,k,b,hu',a1,a2,a3,a4⟩,_,_,_,_,_,_,_,_,_,rfl⟩ H11
 ·refine H'.rend (k:=4) rfl fun h11 H11 => ?_;refine hj _ _ _ ⟨u++[a],q',o',g1,hu',by simp;omega,fun d hd => ?_,hnd',hC',hql',rfl⟩ (Hp.tidy H11);rcases htk d hd with r | rfl
  ·exact Clo.mono hC hC' (fun b hb=>Zce _ hb) d (hin d r)
  ·have:=hC'.clo _ hC'.one d (by simp)
   rwa [comp_id hda] at this
theorem ziz {h0 h:T Blk} {nx p:Pa} {K:Kw Prop} {L:List Ob} {n limit:Nat} {l:List Sym} (hn:n<=256) (hl1:1<=limit) (hlim:limit<=2000) (hl:∀ a∈l,DS n a) (hll:l.length<=2000) (H:Hp h0 h nx L)
  (hno:∀ h' nx',zkh n limit l->Hp h0 h' nx' L->K (.tup [.wz,.zf,.bool false]) h' nx'=.ok True)
  (hyes:∀ (u q:List Sym) g o h' nx',(∀ c∈u,c∈l)->(∀ a∈l,a∈q)->q.Nodup->CloS n u q->q.length<=limit->Hp h0 h' nx' (.map g (fF q)::.gro o 2 u.length (jF u)::L)->K (.tup [.map g,qx o 2 u.length,.bool true]) h' nx'=.ok True) :
  (CS Tryz.prog B).fn 200 p [vw l,I n,I limit] h nx K=.ok True:=by
 refine jB (p:=.of 200) (K:=K) (zP zR yh 10000000 fun hf => ?_) fun _ _ _ _ q=>q;have hid:=DS.id n;have hid1:=hid.1;rw [zo.go];refine H.box (l:=[I limit]) rfl fun b3 h1 nx1 H1 => ?_;refine H1.alloc fun b4 h2 nx2 H2 => ?_;refine H2.alloc fun b5 h3 nx3 H3 => ?_;refine H3.alloc fun b6 h4 nx4 H4 => ?_;refine zgv (by omega) _ _ _ _ ?_;rintro _ rfl _;refine H4.alloc fun b7 h5 nx5 H5 => ?_;refine H5.qy (k:=0) (n:=2) rfl rfl rfl fun h6 H6 => ?_;rw [show (true&&(true&&true))=true from rfl,jX,H6.zn (k:=0) (n:=2) rfl rfl,H6.zn (k:=0) (n:=2) rfl rfl];refine zeu (a:=idS n) (fun y hy=>by have:=hid.2 y hy;omega) (by omega) _ _ _ _ ?_;rintro _ rfl _;rw [H6.zn (k:=0) (n:=2) rfl rfl,zI,H6.zn (k:=0) (n:=2) rfl rfl,zI];refine H6.au fun g h7 nx7 H7 => ?_;rw [H7.zn (k:=1) (n:=2) rfl rfl,zI,H7.zn (k:=1) (n:=2) rfl rfl,zI];refine H7.putS hn hid (ks:=[]) (by simp) (by simp) (k:=0) rfl fun h8 H8 => ?_;rw [H8.zn (k:=1) (n:=2) rfl rfl,zI,H8.zn (k:=1) (n:=2) rfl rfl,zI];refine H8.alloc fun b8 h9 nx9 H9 => ?_;rw [zI,H9.zn (k:=2) (n:=2) rfl rfl,zI,H9.zn (k:=2) (n:=2) rfl rfl,zI];refine H9.store (k:=0) rfl (by simp) rfl fun h10 H10 => ?_;refine H10.alloc fun b9 h11 nx11 H11 => ?_;refine ziy _ _ _ _ ?_;rintro _ rfl _;have H12:=H11.aX 2;have H13:Hp h0 h11 nx11 (.arr b9 [qx none 2 0]::.arr b8 [.map g]::.map g (fF [idS n])::.gro none 2 0 []::.arr b7 [encI (idS n).1,.bool (idS n).2]::.arr b6 [.bool false]::.arr b5 [.zf]::.arr b4 [.wz]::.arr b3 [I limit]::L):=by
  have e:=(Zby (l₁:=[.arr b9 [qx none 2 0],.arr b8 [.map g],.map g (fF [idS n])]) (a:=Ob.gro none 2 0 []) (l₂:=.arr b7 [encI (idS n).1,.bool (idS n).2]::.arr b6 [.bool false]::.arr b5 [.zf]::.arr b4 [.wz]::.arr b3 [I limit]::L)).symm;exact H12.perm e
 refine H13.rf (g:=144) (p:=.of 144) (cap:=[.fp [vw l]]) rfl fun id h14 nx14 H14 => ?_;refine zev (zo.J n limit l id b3 b4 b5 b6 b7 b8 b9 L) (zo.X n limit l id b3 b4 b5 b6 b7 b8 b9 L) (by omega) ⟨[],[idS n],none,g,by simp,by simp,by simp,by simp,?_,by simpa using hl1,rfl⟩ H14 (fun i a h' nx' L' K' hx hJ H' hj hs=>zo.round hn hl1 hlim hl hll hx hJ H' hj hs) fun h' nx' L' hJX H' => ?_
 ·exact ⟨by simp,fun x _ b hb=>absurd hb (by simp),(Bfs.start (mul:=jD) (e:=idS n) []).ind⟩
 rcases hJX with ⟨u,q,o,g',hu,hul,hin,hnd,hC,hql,rfl⟩ | ⟨hT,O1,O2,O3,O4,O5,O6,O7,O8,O9,rfl⟩
 ·refine H'.tq fun h15 H15 => ?_;rw [mL,zo.k23,H15.load (k:=1) (i:=0) rfl rfl,H15.load (k:=0) (i:=0) rfl rfl];refine H15.store (k:=7) rfl (by simp) rfl fun h16 H16 => ?_;rw [H16.load (k:=0) (i:=0) rfl rfl,zI];refine H16.store (k:=6) rfl (by simp) (uO _ _ _) fun h17 H17 => ?_;refine H17.store (k:=5) rfl (by simp) rfl fun h18 H18 => ?_;rw [H18.load (k:=7) (i:=0) rfl rfl,H18.load (k:=6) (i:=0) rfl rfl,H18.load (k:=5) (i:=0) rfl rfl];rw [List.take_length] at hin;exact hyes u q g' o _ _ hu hin hnd hC hql (Hp.qch H18)
 ·have Q:=H'.front (k:=4) rfl;refine Q.tq fun h15 H15 => ?_;show Ev.tq _ _ .done .ret _ h15 nx'=_;rw [bL];have e:∀ E0,(((fnO zo.res K).blk 0 E0).rt (zo.tm n limit l b3 b4 b5 b6 b7 b8 b9) h15 nx')=(zG (.ptr b4 0) h15 fun v1=>zG (.ptr b5 0) h15 fun v2=>zG (.ptr b6 0) h15 fun v3=>K (.tup [v1,v2,v3]) h15 nx'):=fun E0=>by kernel_rfl
  rw [e,H15.load (k:=11) (i:=0) rfl rfl,H15.load (k:=10) (i:=0) rfl rfl,H15.load (k:=9) (i:=0) rfl rfl];exact hno _ _ hT H15.drop.drop.drop.drop.drop.drop.drop.drop.drop.drop.drop.drop.drop
end Go.Ev
namespace Go.Ev
open Go Go.Proofs
def DP (n:Nat) (a:Sym):Prop:=DS n a/\a.1.Nodup
theorem DP.perm {n:Nat} {a:Sym} (h:DP n a):rW a.1:=⟨h.2,by rw [h.1.1];exact h.1.2⟩
theorem DP.of {n:Nat} {a:Sym} (h:rW a.1) (hl:a.1.length=n):DP n a:=⟨⟨hl,by have:=h.2;rw [hl] at this;exact this⟩,h.1⟩
theorem kJ {n:Nat} {a b:Sym} (hb:DS n b) {i:Nat} (hi:i<n):(jD a b).1[i]? = some (a.1.getD (b.1.getD i 0).toNat 0):=by
 have h1:=hb.1;show (b.1.map fun c=>a.1.getD c.toNat 0)[i]? = _;rw [List.getElem?_map,Zaa (l:=b.1),List.getElem?_eq_getElem (by omega)]
 rfl
theorem DS.get {n:Nat} {b:Sym} (hb:DS n b) {i:Nat} (hi:i<n):b.1[i]? = some (b.1.getD i 0)/\0<=b.1.getD i 0/\b.1.getD i 0<(n:Int):=by
 have h1:=hb.1;have e:b.1[i]? = some (b.1.getD i 0):=by rw [Zaa,List.getElem?_eq_getElem (by omega)];rfl
 exact ⟨e,hb.2 _ (Zab e)⟩
theorem DP.inj {n:Nat} {a:Sym} (ha:DP n a) {i j:Nat} (hi:i<n) (hj:j<n) (h:a.1.getD i 0=a.1.getD j 0):i=j:=by
 obtain ⟨e1,_⟩:=ha.1.get hi;obtain ⟨e2,_⟩:=ha.1.get hj;rw [h] at e1;obtain ⟨p1,q1⟩:=List.getElem?_eq_some_iff.1 e1;obtain ⟨p2,q2⟩:=List.getElem?_eq_some_iff.1 e2;exact (List.getElem_inj (h₀:=p1) (h₁:=p2) ha.2).1 (q1.trans q2.symm)
theorem vB {n:Nat} {p q:List Int} (hp:p.length=n) (hq:q.length=n) (h:∀ i,i<n->p[i]? = q[i]?):p=q:=by
 refine Zau fun i => ?_;by_cases hi:i<n
 ·exact h i hi
 ·rw [List.getElem?_eq_none (by omega),List.getElem?_eq_none (by omega)]
theorem pX (n:Nat):zah jD (idS n) (DP n):={
 de:=⟨DS.id n,by
  show ((List.range n).map fun j:Nat=>(j:Int)).Nodup;rw [List.Nodup,Zbp];exact List.nodup_range.imp fun h q=>h (by omega)⟩
 dm a b ha hb:=⟨DS.comp ha.1 hb.1,by
  show (b.1.map fun c=>a.1.getD c.toNat 0).Nodup;rw [List.Nodup,Zbp];refine (List.Pairwise.and_mem.1 hb.2).imp ?_;rintro x y ⟨hx,hy,hxy⟩ q;have h1:=hb.1.2 x hx;have h2:=hb.1.2 y hy;have:=ha.inj (i:=x.toNat) (j:=y.toNat) (by omega) (by omega) q;exact hxy (by omega)⟩
 assoc a b c ha hb hc:=by
  refine Prod.ext ?_ (by show ((a.2 != b.2) != c.2)=(a.2 != (b.2 != c.2));cases a.2 <;> cases b.2 <;> cases c.2 <;> rfl);refine vB (n:=n) (by rw [jD,kK];exact hc.1.1) (by rw [jD,kK,jD,kK];exact hc.1.1) fun i hi => ?_;obtain ⟨e1,h1,h2⟩:=hc.1.get hi;have hk:(c.1.getD i 0).toNat<n:=by omega
  rw [kJ hc.1 hi,kJ (DS.comp hb.1 hc.1) hi];have q1:=kJ (a:=a) hb.1 hk;have q2:=kJ (a:=b) hc.1 hi;rw [Zaa (l:=(jD a b).1),q1,Zaa (l:=(jD b c).1),q2]
  rfl
 el a ha:=by
  refine Prod.ext ?_ (by show (false != a.2)=a.2;cases a.2 <;> rfl);refine vB (n:=n) (by rw [jD,kK];exact ha.1.1) ha.1.1 fun i hi => ?_;obtain ⟨e1,h1,h2⟩:=ha.1.get hi;rw [kJ ha.1 hi,e1];show some (((List.range n).map fun j:Nat=>(j:Int)).getD (a.1.getD i 0).toNat 0)=_;rw [Zaa (l:=List.map _ _),List.getElem?_map,List.getElem?_range (by omega)];show some (((a.1.getD i 0).toNat:Nat):Int)=_
  congr 1;omega
 er a ha:=comp_id ha.1
 cl a b c ha hb hc h:=by
  refine Prod.ext ?_ ?_
  ·refine vB (n:=n) hb.1.1 hc.1.1 fun i hi => ?_;obtain ⟨e1,h1,h2⟩:=hb.1.get hi;obtain ⟨e2,h3,h4⟩:=hc.1.get hi;have q:(jD a b).1[i]? = (jD a c).1[i]? := by rw [h]
   rw [kJ hb.1 hi,kJ hc.1 hi] at q;have:=ha.inj (by omega) (by omega) (Option.some.inj q);rw [e1,e2];congr 1;omega
  ·have q:(a.2 != b.2)=(a.2 != c.2):=congrArg Prod.snd h;cases h1:a.2 <;> cases h2:b.2 <;> cases h3:c.2 <;> rw [h1,h2,h3] at q <;> first | rfl | cases q }
theorem zak {G:List Sym}:clG G=true↔xJ jD G:=by
 rw [clG,Zae];constructor
 ·intro h a ha b hb;have:=h a ha;rw [Zae] at this;exact of_decide_eq_true (this b hb)
 ·intro h a ha;rw [Zae];exact fun b hb=>decide_eq_true (h a ha b hb)
theorem dC {a b c:List Int} (h1:jC a b=true) (h2:jC b c=true):jC a c=true:=by
 rw [kH,decide_eq_true_eq] at h1 h2 ⊢;exact j7 h1 h2
theorem zi0 {a b c:Sym} (h1:aY a b=true) (h2:aY b c=true):aY a c=true:=by
 rw [aY] at h1 h2 ⊢;by_cases c1:a.1=b.1
 ·rw [if_pos c1] at h1;by_cases c2:b.1=c.1
  ·rw [if_pos c2] at h2;rw [if_pos (c1.trans c2)];cases h3:a.2 <;> cases h4:b.2 <;> cases h5:c.2 <;> simp_all
  ·rw [if_neg c2] at h2;rw [if_neg (by rw [c1];exact c2),c1];exact h2
 ·rw [if_neg c1] at h1;by_cases c2:b.1=c.1
  ·rw [if_neg (by rw [<- c2];exact c1),<- c2];exact h1
  ·rw [if_neg c2] at h2;have:=dC h1 h2;rw [if_neg (fun e=>by rw [e,lex_irrefl] at this;cases this)];exact this
theorem zgx (a:Sym):aY a a=false:=by rw [aY,if_pos rfl];cases a.2 <;> rfl
theorem zki:∀ {G:List Sym},aC G=true->G.Pairwise fun a b=>aY a b=true
 | [],_=>.nil
 | [a],_=>by simp
 | a::b::G,h=>by
  have e:aC (a::b::G)=(aY a b&&aC (b::G)):=rfl;rw [e,Zad] at h;have ih:=zki h.2;refine List.pairwise_cons.2 ⟨fun c hc => ?_,ih⟩;rcases List.mem_cons.1 hc with rfl | hc
  ·exact h.1
  ·exact zi0 h.1 ((List.pairwise_cons.1 ih).1 c hc)
theorem zcb {G:List Sym} (h:aC G=true):G.Nodup:=(zki h).imp fun hab e=>by rw [e,zgx] at hab;cases hab
structure aN (G:List Sym) (n:Nat):Prop where
 n256:n<=256
 ne:G≠[]
 len:G.length<=1536
 dp:∀ g∈G,DP n g
 ord:aC G=true
 cl:xJ jD G
theorem aN.nd {G:List Sym} {n:Nat} (h:aN G n):G.Nodup:=zcb h.ord
theorem aN.one {G:List Sym} {n:Nat} (h:aN G n):idS n∈G:=p5 (pX n) h.dp h.nd h.ne h.cl
theorem aN.inv {G:List Sym} {n:Nat} (h:aN G n):∀ a∈G,∃ b∈G,jD a b=idS n:=zix (pX n) h.dp h.nd h.cl h.one
theorem d6 {G:List Sym} {z:Int} (h:jI G z=0):∃ n:Nat,z=(n:Int)/\aN G n:=by
 rw [jI] at h;by_cases c1:z<0\/256<z
 ·rw [if_pos c1] at h;cases h
 rw [if_neg c1] at h;by_cases c2:G.length=0
 ·rw [if_pos c2] at h;cases h
 rw [if_neg c2] at h;by_cases c3:1536<G.length
 ·rw [if_pos c3] at h;cases h
 rw [if_neg c3] at h;by_cases c4:jY z G=0
 case neg=>rw [if_pos c4] at h;exact absurd h c4
 rw [if_neg (by simp [c4])] at h;by_cases c5:aC G=false
 ·rw [if_pos c5] at h;cases h
 rw [if_neg c5] at h;by_cases c6:clG G=false
 ·rw [if_pos c6] at h;cases h
 refine ⟨z.toNat,by omega,by omega,by rintro rfl;exact c2 rfl,by omega,fun g hg => ?_,by simpa using c5,zak.1 (by simpa using c6)⟩;obtain ⟨_,h2,h3⟩:=kF (vG c4 g hg);exact DP.of h3 (by omega)
end Go.Ev
namespace Go.Ev
open Go Go.Proofs
variable {B:Nat}
theorem zun (op:KW3->OP) (h:T Blk) (nx:Pa) (k:KW3):sGW (.bool false) true op h nx k=k .u h nx:=nr rfl
theorem zuo (op:KW3->OP) (h:T Blk) (nx:Pa) (k:KW3):sGW (.bool true) true op h nx k=op k:=nr rfl
noncomputable abbrev jd.tm (n:Int) (l:List Sym) (b2 b3 b4 b5:Pa):T AV:=jd.fr (vw l) (I n) (.ptr b2 0) (.ptr b3 0) (.ptr b4 0) (.ptr b5 0) (I 0) (I 0) .u .u .u .u .u (.bool false) (.bool false) (.fn 144 (.of 144) [.fp [vw l]]) .u .u .u .u
def jd.J (n:Int) (l:List Sym) (id b2 b3 b4 b5:Pa) (L:List Ob) (i:Nat) (L':List Ob):Prop :=
 aC l=aC (l.drop (i-1))/\L'=.raw id (.loop .ready .none (jd.tm n l b2 b3 b4 b5) [.of 16,.of 17] jd.b5 jd.b6)::.arr b5 [I 0]::.arr b4 [.zf]::.arr b3 [.wz]::.arr b2 [vw l]::L
def jd.X (n:Int) (l:List Sym) (id b2 b3 b4 b5:Pa) (L:List Ob) (L':List Ob):Prop :=
 aC l=false/\∃ O1,L'=O1::.raw id (.loop .done .ret (jd.tm n l b2 b3 b4 b5) [.of 16,.of 17] jd.b5 jd.b6)::.arr b5 [I 11]::.arr b4 [.zf]::.arr b3 [.wz]::.arr b2 [vw l]::L
theorem jd.round {h0 h:T Blk} {nx id b2 b3 b4 b5:Pa} {K:Kw Prop} {L L':List Ob} {i:Nat} {n:Int} {l:List Sym} {a:Sym} (hll:l.length<=2000) (hw:∀ g∈l,g.1.length<=1000000) (hx:l[i]? = some a)
  (hJ:jd.J n l id b2 b3 b4 b5 L i L') (H:Hp h0 h nx L')
  (hj:∀ h' nx' L',jd.J n l id b2 b3 b4 b5 L (i+1) L'->Hp h0 h' nx' L'->K (.bool true) h' nx'=.ok True)
  (hs:∀ h' nx' L',jd.X n l id b2 b3 b4 b5 L L'->Hp h0 h' nx' L'->K (.bool false) h' nx'=.ok True):(CS Tryz.prog B).yld id [I i,encS a] h nx K=.ok True:=by
 obtain ⟨ho,rfl⟩:=hJ;have hi:=(List.getElem?_eq_some_iff.1 hx).1;refine m9 (fns:=tbl) yh 10000 fun hf => ?_;rw [jd.p6 (vL H (k:=0) rfl)];refine H.alloc fun b10 h1 nx1 H1 => ?_;refine H1.qy (k:=0) (n:=2) rfl rfl rfl fun h2 H2 => ?_;rw [zel (vL H2 (k:=1) rfl)];have H3:=H2.zes (k:=1) rfl (b':=.loop .busy .none (jd.tm n l b2 b3 b4 b5) [.of 16,.of 17] jd.b5 jd.b6) (by intro e;cases e);rw [jd.y6];simp only [xk];by_cases c0:i=0
 ·subst c0;simp only [show ¬ (0:Int)<((0:Nat):Int) by decide,decide_false,jU,zun,zW,zJ];refine H3.rend (k:=1) rfl fun h4 H4 => ?_;exact hj _ _ _ ⟨ho,rfl⟩ H4.drop
 simp only [show (0:Int)<(i:Int) by omega,decide_true,jN,zuo];have hi1:i-1<l.length:=by omega
 have hai:l[i]=a:=by rw [List.getElem?_eq_getElem hi] at hx;exact Option.some.inj hx
 rw [H3.load (k:=5) (i:=0) rfl rfl,sD (by omega),xu (i:=i-1) (by omega) hi1,j5 hi1,qX,H3.zn (k:=0) (n:=2) rfl rfl];refine ziw (a:=l[i-1]) (b:=a) (hw _ (Zak hi1)) (hw _ (Zab hx)) _ _ _ _ ?_;rintro _ rfl _;rw [sH,zZ];have hd:aC (l.drop (i-1))=(aY l[i-1] a&&aC (l.drop i)):=by
  have e:=zde (G:=l) (i:=i-1) (by omega);simp only [show i-1+1=i by omega,hai] at e;exact e
 cases c:aY l[i-1] a with
 | true =>
  have:=(zgs l[i-1] a).2 c;rw [decide_eq_false (show ¬ (0:Int)<=cmpS l[i-1] a by omega),zJ];refine H3.rend (k:=1) rfl fun h4 H4 => ?_;exact hj _ _ _ ⟨by rw [ho,hd,c];simp,rfl⟩ H4.drop
 | false =>
  have:¬ cmpS l[i-1] a<0:=fun q=>by rw [(zgs _ _).1 q] at c;cases c
  rw [decide_eq_true (show (0:Int)<=cmpS l[i-1] a by omega),zH];refine H3.store (k:=4) rfl (by simp) rfl fun h4 H4 => ?_;refine H4.store (k:=3) rfl (by simp) rfl fun h5 H5 => ?_;refine H5.store (k:=2) rfl (by simp) rfl fun h6 H6 => ?_;refine H6.rend (k:=1) rfl fun h7 H7 => ?_;exact hs _ _ _ ⟨by rw [ho,hd,c];rfl,_,rfl⟩ H7
theorem zup {h0 h:T Blk} {nx p:Pa} {K:Kw Prop} {L:List Ob} {n:Int} {G:List Sym} (hG:G.length<=100000) (hw:∀ g∈G,g.1.length<=100000) (H:Hp h0 h nx L)
  (hbad:∀ h' nx',jI G n≠0->Hp h0 h' nx' L->K (.tup [.wz,.zf,I (jI G n)]) h' nx'=.ok True)
  (hok:∀ (n':Nat) (u q:List Sym) g o h' nx',n=n'->aN G n'->jI G n=0->(∀ c∈u,c∈G)->CloS n' u q->q.Nodup->(∀ a,a∈q↔a∈G)->Hp h0 h' nx' (.map g (fF q)::.gro o 2 u.length (jF u)::L)->K (.tup [.map g,qx o 2 u.length,I 0]) h' nx'=.ok True) :
  (CS Tryz.prog B).fn 143 p [vw G,I n] h nx K=.ok True:=by
 refine jB (p:=.of 143) (K:=K) (zP zR yh 10000000 fun hf => ?_) fun _ _ _ _ q=>q;rw [jd.go];refine H.box (l:=[vw G]) rfl fun b2 h1 nx1 H1 => ?_;refine H1.alloc fun b3 h2 nx2 H2 => ?_;refine H2.alloc fun b4 h3 nx3 H3 => ?_;refine H3.alloc fun b5 h4 nx4 H4 => ?_
 have bad:∀ (v:Int) h' nx' X,v≠0->jI G n=v->Hp h0 h' nx' (X::.arr b5 [I 0]::.arr b4 [.zf]::.arr b3 [.wz]::.arr b2 [vw G]::L) ->
   (zY 1 (.ptr b3 0) .wz h' nx' fun _ h36 n37=>zY 1 (.ptr b4 0) .zf h36 n37 fun _ h39 n40=>zY 1 (.ptr b5 0) (I v) h39 n40 fun _ h42 n43=>zG (.ptr b3 0) h42 fun v44=>zG (.ptr b4 0) h42 fun v45=>zG (.ptr b5 0) h42 fun v46=>K (.tup [v44,v45,v46]) h42 n43)=.ok True:=by
  intro v h' nx' X hv hg H';refine H'.store (k:=3) rfl (by simp) rfl fun h6 H6 => ?_;refine H6.store (k:=2) rfl (by simp) rfl fun h7 H7 => ?_;refine H7.store (k:=1) rfl (by simp) rfl fun h8 H8 => ?_;rw [H8.load (k:=3) (i:=0) rfl rfl,H8.load (k:=2) (i:=0) rfl rfl,H8.load (k:=1) (i:=0) rfl rfl];have:=hbad _ _ (by rw [hg];exact hv) H8.drop.drop.drop.drop.drop;rw [hg] at this;exact this
 rw [H4.load (k:=3) (i:=0) rfl rfl,zO,rG,H4.load (k:=3) (i:=0) rfl rfl,zO,xk];refine zgq n _ _ _ _ ?_;rintro _ rfl _;rw [xk,zI,zO,zI,H4.load (k:=3) (i:=0) rfl rfl,zI,rG,zI,zO,zI,H4.load (k:=3) (i:=0) rfl rfl,zI];refine wZ _ _ _ _ _ _ ?_;rintro _ rfl _;rw [xk,zI,zO,zI,H4.load (k:=3) (i:=0) rfl rfl,zI];refine wZ _ _ _ _ _ _ ?_;rintro _ rfl _;refine H4.yj (l:=[I (if n<0\/256<n then 3 else 0),I (if decide ((G.length:Int)=0)=true then 12 else 0),I (if decide ((1536:Int)<(G.length:Int))=true then 5 else 0)]) rfl fun tb h5 nx5 H5 => ?_;refine d4 (l:=[if n<0\/256<n then 3 else 0,if decide ((G.length:Int)=0)=true then 12 else 0,if decide ((1536:Int)<(G.length:Int))=true then 5 else 0]) H5 (k:=0) rfl (fun B=>zca (by simp)) (fun v hv=>by rw [hv];exact .int _ _) ?_;rintro _ rfl;have fE:wT [if n<0\/256<n then (3:Int) else 0,if decide ((G.length:Int)=0)=true then 12 else 0,if decide ((1536:Int)<(G.length:Int))=true then 5 else 0]=if n<0\/256<n then 3 else if G.length=0 then 12 else if 1536<G.length then 5 else 0:=by
  by_cases c1:n<0\/256<n
  ·rw [if_pos c1,if_pos c1];rfl
  rw [if_neg c1,if_neg c1];by_cases c2:G.length=0
  ·rw [decide_eq_true (show (G.length:Int)=0 by omega),if_pos c2];rfl
  rw [decide_eq_false (show ¬ (G.length:Int)=0 by omega),if_neg c2];by_cases c3:1536<G.length
  ·rw [decide_eq_true (show (1536:Int)<(G.length:Int) by omega),if_pos c3];rfl
  ·rw [decide_eq_false (show ¬ (1536:Int)<(G.length:Int) by omega),if_neg c3];rfl
 rw [fE,qm];by_cases c1:n<0\/256<n
 ·rw [if_pos c1];simp only [show ¬ (3:Int)=0 by decide,decide_false,Zag,zH];exact bad 3 _ _ _ (by decide) (by rw [jI,if_pos c1]) H5
 rw [if_neg c1];by_cases c2:G.length=0
 ·rw [if_pos c2];simp only [show ¬ (12:Int)=0 by decide,decide_false,Zag,zH];exact bad 12 _ _ _ (by decide) (by rw [jI,if_neg c1,if_pos c2]) H5
 rw [if_neg c2];by_cases c3:1536<G.length
 ·rw [if_pos c3];simp only [show ¬ (5:Int)=0 by decide,decide_false,Zag,zH];exact bad 5 _ _ _ (by decide) (by rw [jI,if_neg c1,if_neg c2,if_pos c3]) H5
 rw [if_neg c3];have e0:jI G n=if jY n G≠0 then jY n G else if aC G=false then 11 else if clG G=false then 28 else 0:=by rw [jI,if_neg c1,if_neg c2,if_neg c3]
 simp only [decide_true,Zaf,zJ];rw [H5.load (k:=4) (i:=0) rfl rfl];refine zgr hG hw _ _ _ _ ?_;rintro _ rfl _;rw [qm];by_cases c4:jY n G=0
 case neg =>
  simp only [c4,decide_false,Zag,zH];exact bad _ _ _ _ c4 (by rw [e0,if_pos c4]) H5
 rw [if_neg (by simp [c4])] at e0;simp only [c4,decide_true,Zaf,zJ];have hsy:=vG c4;obtain ⟨n',rfl⟩:∃ n':Nat,n=(n':Int):=⟨n.toNat,by omega⟩;have hdp:∀ g∈G,DP n' g:=fun g hg=>by
  obtain ⟨_,q2,q3⟩:=kF (hsy g hg);exact DP.of q3 (by omega)
 rw [H5.load (k:=4) (i:=0) rfl rfl];refine ziy _ _ _ _ ?_;rintro _ rfl _;refine H5.drop.rf (g:=144) (p:=.of 144) (cap:=[.fp [vw G]]) rfl fun id h6 nx6 H6 => ?_;refine zev (jd.J n' G id b2 b3 b4 b5 L) (jd.X n' G id b2 b3 b4 b5 L) (by omega) ⟨by simp,rfl⟩ H6 (fun i a h' nx' L' K' hx hJ H' hj hs=>jd.round (by omega) (fun g hg=>by have:=hw g hg;omega) hx hJ H' hj hs) fun h' nx' L' hJX H' => ?_;rcases hJX with ⟨ho,rfl⟩ | ⟨ho,O1,rfl⟩
 case inr =>
  have Q:=H'.front (k:=1) rfl;refine Q.tq fun h15 H15 => ?_;show Ev.tq _ _ .done .ret _ h15 nx'=_;rw [bL];have e:∀ E0,(((fnO jd.res K).blk 0 E0).rt (jd.tm n' G b2 b3 b4 b5) h15 nx')=(zG (.ptr b3 0) h15 fun v1=>zG (.ptr b4 0) h15 fun v2=>zG (.ptr b5 0) h15 fun v3=>K (.tup [v1,v2,v3]) h15 nx'):=fun E0=>by kernel_rfl
  rw [e,H15.load (k:=3) (i:=0) rfl rfl,H15.load (k:=2) (i:=0) rfl rfl,H15.load (k:=1) (i:=0) rfl rfl];have hg:jI G n'=11:=by rw [e0,if_pos ho]
  have:=hbad _ _ (by rw [hg];decide) H15.drop.drop.drop.drop.drop;rw [hg] at this;exact this
 have hord:aC G=true:=by rw [ho];exact zgd (by omega)
 rw [if_neg (by simp [hord])] at e0;have hnd:=zcb hord;have hG0:G≠[]:=by rintro rfl;exact c2 rfl
 refine H'.tq fun h15 H15 => ?_;rw [mL,jd.k8,H15.load (k:=3) (i:=0) rfl rfl,H15.load (k:=3) (i:=0) rfl rfl,zO];refine ziz (n:=n') (limit:=G.length) (by omega) (by omega) (by omega) (fun g hg=>(hdp g hg).1) (by omega) H15 (fun h16 nx16 hT H16 => ?_) fun u q g o h16 nx16 hu hin hqn hC hql H16 => ?_
 ·obtain ⟨u,q,i,x,k,b,hu,hB,hb,hnot,hq⟩:=hT;have hnc:=hB.many (pX n') hb hnot hq hdp hnd hG0 hu;have hcl:clG G=false:=by
   cases c:clG G with
   | false=>rfl
   | true=>exact absurd (zak.1 c) hnc
  rw [jK,jL,gZ,yV];simp only [Zag,yY,zZ,zH];refine H16.store (k:=2) rfl (by simp) rfl fun h7 H7 => ?_;refine H7.store (k:=1) rfl (by simp) rfl fun h8 H8 => ?_;refine H8.store (k:=0) rfl (by simp) rfl fun h9 H9 => ?_;rw [H9.load (k:=2) (i:=0) rfl rfl,H9.load (k:=1) (i:=0) rfl rfl,H9.load (k:=0) (i:=0) rfl rfl];have hg:jI G n'=28:=by rw [e0,if_pos hcl]
  have:=hbad _ _ (by rw [hg];decide) H9.drop.drop.drop.drop;rw [hg] at this;exact this
 ·rw [jK,jL,gZ,yV];simp only [Zaf,yQ];rw [H16.zww (k:=0) rfl,H16.load (k:=5) (i:=0) rfl rfl,zO,qm,zW];have hiff:=zmc (pX n') hC hqn hdp hnd hG0 hu hin;by_cases c:q.length=G.length
  case neg =>
   have hcl:clG G=false:=by
    cases c':clG G with
    | false=>rfl
    | true=>exact absurd (hiff.2 (zak.1 c')) c
   simp only [show ¬ (q.length:Int)=(G.length:Int) by omega,decide_false,Zag,zH];refine H16.store (k:=4) rfl (by simp) rfl fun h7 H7 => ?_;refine H7.store (k:=3) rfl (by simp) rfl fun h8 H8 => ?_;refine H8.store (k:=2) rfl (by simp) rfl fun h9 H9 => ?_;rw [H9.load (k:=4) (i:=0) rfl rfl,H9.load (k:=3) (i:=0) rfl rfl,H9.load (k:=2) (i:=0) rfl rfl];have hg:jI G n'=28:=by rw [e0,if_pos hcl]
   have:=hbad _ _ (by rw [hg];decide) H9.drop.drop.drop.drop.drop.drop;rw [hg] at this;exact this
  ·have hcl:=zak.2 (hiff.1 c);have hg:jI G n'=0:=by rw [e0,hcl];rfl
   simp only [show (q.length:Int)=(G.length:Int) by omega,decide_true,Zaf,zJ];rw [jd.k9];refine H16.store (k:=4) rfl (by simp) rfl fun h7 H7 => ?_;refine H7.store (k:=3) rfl (by simp) (uO _ _ _) fun h8 H8 => ?_;refine H8.store (k:=2) rfl (by simp) rfl fun h9 H9 => ?_;rw [H9.load (k:=4) (i:=0) rfl rfl,H9.load (k:=3) (i:=0) rfl rfl,H9.load (k:=2) (i:=0) rfl rfl];have hok':aN G n':=⟨by omega,hG0,by omega,hdp,hord,hiff.1 c⟩;have hsub:∀ x∈q,x∈G:=hC.sub hok'.one hok'.cl hu;have P:Hp h0 h9 nx16 (.map g (fF q)::.gro o 2 u.length (jF u)::L):=by
    have e1:∀ (A M B1 B2 B3 B4:Ob),(A::M::B1::B2::B3::B4::L).Perm (B1::B2::B3::B4::A::M::L):=fun A M B1 B2 B3 B4 =>
     (List.Perm.cons A (Zby (l₁:=[B1,B2,B3,B4]) (a:=M) (l₂:=L)).symm).trans (Zby (l₁:=[B1,B2,B3,B4]) (a:=A) (l₂:=M::L)).symm
    exact (H9.perm (e1 _ _ _ _ _ _)).drop.drop.drop.drop
   exact hok n' u q g o _ _ rfl hok' hg hu hC hqn (fun a=>⟨hsub a,hin a⟩) P
theorem zct {G:List Sym} {n:Int} (hG:G.length<=100000) (hw:∀ g∈G,g.1.length<=100000):Pure Tryz.prog B 84 [vw G,I n] (· = I (jI G n)):=by
 refine yE fun h nx K H0 hK=>zP zR yh 1000 fun hf => ?_;rw [F84.go];refine zup hG hw H0 (fun h' nx' hg H' => ?_) fun n' u q g o h' nx' hn hok hg hu hC hqn hq H' => ?_
 ·rw [jK,jL,gZ];exact hK _ _ _ _ _ H' (zL rfl) rfl
 ·rw [jK,jL,gZ];exact hK _ _ _ _ _ H' (zL rfl) (by rw [hg])
end Go.Ev
namespace Go.Ev
open Go Go.Proofs Go.RowKit Go.Sort
def aO (h:T Blk) (id0:Pa) (a:AV) (l:List Int):Prop :=
 a=encI l\/∃ id off o op m t,id≠id0/\a=.sl id off l.length o 1/\T.get .no id h=.cells op m t/\off+l.length<=m/\yD t off l.length=l.map I
theorem aO.jc {h:T Blk} {id0:Pa} {a:AV} {l:List Int} (R:aO h id0 a l):jc a=true:=by
 rcases R with rfl | ⟨_,_,_,_,_,_,_,rfl,_⟩ <;> rfl
theorem aO.set {h:T Blk} {id0:Pa} {a:AV} {l:List Int} {b:Blk} (R:aO h id0 a l):aO (T.set .no b id0 h) id0 a l:=by
 rcases R with rfl | ⟨id,off,o,op,m,t,h1,h2,h3,h4,h5⟩
 ·exact .inl rfl
 ·exact .inr ⟨id,off,o,op,m,t,h1,h2,by rw [T.zy (h:=h1)];exact h3,h4,h5⟩
theorem aO.cells {P:Program} {B:Nat} {E:Env} {h:T Blk} {nx:Pa} {w:World} {id0:Pa} {a:AV} {l:List Int} {v:Value} (H:HR P B E h nx w) (R:aO h id0 a l) (hv:VR E a v) :
  ∃ p c,v=.slice p l.length c/\(l.length=0\/∃ b o,p=some ⟨b,o,none⟩/\∀ j,j<l.length->w.cell? ⟨b,o+j,none⟩=some (.int .i64 l[j]!)):=by
 rcases R with rfl | ⟨id,off,o,op,m,t,h1,rfl,h3,h4,h5⟩
 ·obtain ⟨_,_,p,c,rfl,hh⟩:=hv.oJ;refine ⟨p,c,rfl,?_⟩;rcases hh with h0 | ⟨b,off,rfl,_,hf⟩
  ·exact .inl h0
  ·refine .inr ⟨b,off,rfl,fun j hj => ?_⟩;obtain ⟨v,hv1,hv2⟩:=VRF.get hf (i:=j) (a:=I l[j]) (by rw [List.getElem?_map,List.getElem?_eq_getElem hj];rfl);simp only [VR] at hv2;subst hv2;obtain ⟨⟨c,ty,fr,q1,q2⟩,_⟩:=H.frz _ _ _ hv1;rw [getElem!_pos l j hj];simp [World.cell?,q1,q2]
 ·obtain ⟨b,n,c,hE,rfl,hcap⟩:=hv.rZ;refine ⟨_,c,rfl,.inr ⟨b,off,rfl,fun j hj => ?_⟩⟩;obtain ⟨b',n',ob,q1,q2,q3⟩:=H.blk id (by rw [h3];intro e;cases e);rw [hE] at q1;cases q1;rw [h3] at q3;obtain ⟨cs,ty,fr,rfl,g1,g2,g3,g4,hc⟩:=q3;obtain ⟨_,v',k1,k2⟩:=hc (off+j) (by omega);have he:T.get .u (.of (off+j)) t=I l[j]:=by
   have e1:=yC t off l.length j (by omega);rw [h5,List.getElem?_map,List.getElem?_eq_getElem hj] at e1;exact (Option.some.inj e1).symm
  rw [he] at k2;simp only [VR] at k2;subst k2;rw [getElem!_pos l j hj];simp [World.cell?,q2,k1]
theorem qV {β γ:Type} {f:β->γ}:∀ {l:List β},(l.map f).Nodup->∀ {a b:β},a∈l->b∈l->f a=f b->a=b
 | [],_,_,_,h,_,_=>by cases h
 | x::l,hn,a,b,ha,hb,e=>by
  rw [Zcm,Zbw] at hn;rcases List.mem_cons.1 ha with ea | ha'
  ·rcases List.mem_cons.1 hb with eb | hb'
   ·exact ea.trans eb.symm
   ·exact (hn.1 (List.mem_map.2 ⟨b,hb',(ea ▸ e).symm⟩)).elim
  ·rcases List.mem_cons.1 hb with eb | hb'
   ·exact (hn.1 (List.mem_map.2 ⟨a,ha',(eb ▸ e)⟩)).elim
   ·exact qV hn.2 ha' hb' e
end Go.Ev
namespace Go.Proofs
open Go.Shelf Go.Lib Go.RowKit Go.Sort
def rX (a b:List Int×Bool):Int:=if jm a.1 b.1≠0\/a.2=b.2 then jm a.1 b.1 else if a.2 then 1 else -1
theorem drew_grow (w:World) (X Y:Obj) (q:Nat):((w.alloc X).alloc Y).drewN q=grow (w.drewN q) #[X,Y]:=by
 have e:(w.heap.push X).push Y=w.heap ++ #[X,Y]:=by apply Array.ext';simp
 unfold World.drewN World.alloc grow
 dsimp only
 rw [e]
theorem vN {w:World} {X:Obj} {a:Addr} {v:Value} (h:w.cell? a=some v):(w.alloc X).cell? a=some v:=by
 unfold World.cell? World.alloc at *
 cases e:w.heap[a.block]? with
 | none=>rw [e] at h;cases h
 | some o =>
  have hl:a.block<w.heap.size:=(Array.getElem?_eq_some_iff.1 e).1;have:(w.heap.push X)[a.block]? = w.heap[a.block]? := by rw [Array.getElem?_push,if_neg (by omega)]
  simp only [this,e] at *
  exact h
set_option maxHeartbeats 2000000 in
set_option maxRecDepth 100000 in
theorem zgy (p1 p2:Option Addr) (n c m d:Nat) (xs ys:List Int) (a b:Bool) (w:World) (hn:n=xs.length) (hm:m=ys.length) (hbig:n<=1000000) (hbig2:m<=1000000)
  (hc1:n=0\/∃ b1 o1,p1=some ⟨b1,o1,none⟩/\∀ j,j<n->w.cell? ⟨b1,o1+j,none⟩=some (.int .i64 xs[j]!)) (hc2:m=0\/∃ b2 o2,p2=some ⟨b2,o2,none⟩/\∀ j,j<m->w.cell? ⟨b2,o2+j,none⟩=some (.int .i64 ys[j]!)) :
  Calls Tryz.prog 114 #[.agg #[.slice p1 n c,.bool a],.agg #[.slice p2 m d,.bool b]] w fun e w'=>e=.returned (.int .i64 (rX (xs,a) (ys,b)))/\∃ q os',w'=grow (w.drewN q) os':=by
 have H1:Aside (n=0\/∃ b1 o1,p1=some ⟨b1,o1,none⟩/\∀ j,j<n->w.cell? ⟨b1,o1+j,none⟩=some (.int .i64 xs[j]!)):=hc1;have H2:Aside (m=0\/∃ b2 o2,p2=some ⟨b2,o2,none⟩/\∀ j,j<m->w.cell? ⟨b2,o2+j,none⟩=some (.int .i64 ys[j]!)):=hc2
 clear hc1 hc2
 have mixed:Tryz.prog.follows .mixedOrders=true:=by kernel_rfl
 have t0:=Tryz.underlying0;have a0:=Tryz.isAgg0;have z0:=Tryz.sizeOf0;have v0:=Tryz.zeroValue0;have t3:=Tryz.underlying3;have a3:=Tryz.isAgg3;have z3:=Tryz.sizeOf3;have v3:=Tryz.zeroValue3;have t4:=Tryz.underlying4;have a4:=Tryz.isAgg4;have z4:=Tryz.sizeOf4;have v4:=Tryz.zeroValue4;have t35:=Tryz.underlying38;have a35:=Tryz.isAgg38;have z35:=Tryz.sizeOf38;have v35:=Tryz.zeroValue38;have t112:=Tryz.underlying115;have a112:=Tryz.isAgg115;have z112:=Tryz.sizeOf115;have v112:=Tryz.zeroValue115;have S0:Aside (n=xs.length/\m=ys.length):=⟨hn,hm⟩
 have hcall:∃ r,Aside (jm xs ys=r)/\∀ X Y,Calls Tryz.prog 161 #[.slice p1 n c,.slice p2 m d] ((w.alloc X).alloc Y) fun e w'=>e=.returned (.int .i64 r)/\∃ q,w'=((w.alloc X).alloc Y).drewN q :=
  ⟨jm xs ys,rfl,fun X Y=>zb7 p1 p2 n c m d xs ys _ hn hm hbig hbig2
   (H1.out.imp id fun ⟨b1,o1,e,f⟩=>⟨b1,o1,e,fun j hj=>vN (vN (f j hj))⟩)
   (H2.out.imp id fun ⟨b1,o1,e,f⟩=>⟨b1,o1,e,fun j hj=>vN (vN (f j hj))⟩)⟩
 obtain ⟨r,hr,hcall⟩:=hcall
 clear H1 H2
 have fin:∀ v:Int,Aside (v=if r≠0\/a=b then r else if a then 1 else -1)->Aside (v=rX (xs,a) (ys,b)):=fun v e=>by
  unfold Aside at *
  rw [e,<- hr];rfl
 clear hn hm hr
 by_cases h0:r=0
 ·subst h0;have h0:(0:Int)=0:=rfl;cases a <;> cases b
  all_goals
   go_enter Tryz.func114,Tryz.ntmps114
   go_wp2_with (go_at_call 161;refine (hcall _ _).mono ?_;rintro e w' ⟨rfl,q,rfl⟩)
   all_goals (go_ret;exact ⟨congrArg (fun v=>Ending.returned (.int .i64 v)) (fin _ (by unfold Aside;simp [h0])).out,q,_,drew_grow _ _ _ _⟩)
 ·cases a <;> cases b
  all_goals
   go_enter Tryz.func114,Tryz.ntmps114
   go_wp2_with (go_at_call 161;refine (hcall _ _).mono ?_;rintro e w' ⟨rfl,q,rfl⟩)
   all_goals (go_ret;exact ⟨congrArg (fun v=>Ending.returned (.int .i64 v)) (fin _ (by unfold Aside;simp [h0])).out,q,_,drew_grow _ _ _ _⟩)
end Go.Proofs
namespace Go.Proofs
theorem zdi {a b:List Int} (h:a≠b):jm a b≠0:=fun e=>h (kV e)
theorem dA (a b:List Int×Bool):rX a b=if a.1=b.1 then (if a.2=b.2 then 0 else if a.2 then 1 else -1) else jm a.1 b.1:=by
 unfold rX;by_cases h:a.1=b.1
 ·rw [if_pos h,h,kG];by_cases g:a.2=b.2
  ·rw [if_pos (.inr g),if_pos g]
  ·rw [if_neg (by simp [g]),if_neg g]
 ·rw [if_neg h,if_pos (.inl (zdi h))]
theorem kU (a b:List Int×Bool):rX b a = - rX a b:=by
 rw [dA,dA];by_cases h:a.1=b.1
 ·rw [if_pos h,if_pos h.symm];cases a.2 <;> cases b.2 <;> rfl
 ·rw [if_neg h,if_neg (fun e=>h e.symm)];exact gM _ _
theorem zmd (a:List Int×Bool):rX a a=0:=by rw [dA,if_pos rfl,if_pos rfl]
theorem zew {a b:List Int×Bool} (e:rX a b=0):a=b:=by
 rw [dA] at e;by_cases h:a.1=b.1
 ·rw [if_pos h] at e;refine Prod.ext h ?_;by_cases g:a.2=b.2
  ·exact g
  ·rw [if_neg g] at e
   revert e;cases a.2 <;> simp
 ·rw [if_neg h] at e;exact absurd e (zdi h)
theorem pG {a b c:List Int×Bool} (h1:rX a b<0) (h2:rX b c<0):rX a c<0:=by
 rw [dA] at h1 h2 ⊢;by_cases e1:a.1=b.1
 ·rw [if_pos e1] at h1;by_cases e2:b.1=c.1
  ·rw [if_pos e2] at h2;rw [if_pos (e1.trans e2)]
   revert h1 h2
   cases a.2 <;> cases b.2 <;> cases c.2 <;> simp
  ·rw [if_neg e2] at h2;rw [if_neg (fun e=>e2 (e1.symm.trans e)),e1];exact h2
 ·rw [if_neg e1] at h1;by_cases e2:b.1=c.1
  ·rw [if_neg (fun e=>e1 (e.trans e2.symm)),<- e2];exact h1
  ·rw [if_neg e2] at h2;have:=j7 h1 h2;rw [if_neg (fun e=>by rw [e,kG] at this;omega)];exact this
theorem pH {a b c:List Int×Bool} (h1:0<=rX a b) (h2:0<=rX b c):0<=rX a c:=by
 by_cases e1:rX a b=0
 ·rw [zew e1];exact h2
 by_cases e2:rX b c=0
 ·rw [<- zew e2];exact h1
 have n1:=kU a b;have n2:=kU b c;have n3:=kU a c;have:=pG (a:=c) (b:=b) (c:=a) (by omega) (by omega);omega
end Go.Proofs
namespace Go.Ev
open Go Go.Proofs Go.RowKit Go.Sort
theorem HR.zuq {P:Program} {B:Nat} {E:Env} {h:T Blk} {nx:Pa} {w:World} {A:List AV} {F:Array Value} (hA:A.length=F.size) (hva:∀ i,i<F.size->jc (A.getD i .u)=true/\VR E (A.getD i .u) F[i]!)
  (H:HR P B E h nx w) {id:Pa} {op:Bool} {m off b n k:Nat} {t:T AV} {os:Array Obj} (hb:T.get .no id h=.cells op m t) (hE:E id=some (b,n)) (hm:off+F.size<=m) :
  HR P B (E) (T.set .no (.cells op m (yS A t off)) id h) nx (grow (putRow (fun v:Value=>v) (Sort.ahead w k) b off F) os)/\Ex E E w (grow (putRow (fun v:Value=>v) (Sort.ahead w k) b off F) os):=by
 have hid:T.get .no id h≠.no:=by rw [hb];intro e;cases e
 obtain ⟨b',n',o,h1,h2,h3⟩:=H.blk id hid;rw [hE] at h1;cases h1;rw [hb] at h3;obtain ⟨c,ty,fr,rfl,q1,q2,q3,q4,q5⟩:=h3;have hcs:(putCells (fun v:Value=>v) off F c).size=c.size:=by simp [putCells]
 have hbr:BR P E n (.cells op m (yS A t off)) (.cells (putCells (fun v:Value=>v) off F c) ty fr):=by
  refine ⟨_,ty,fr,rfl,by rw [hcs];exact q1,by rw [hcs];exact q2,q3,q4,fun i hi => ?_⟩;rw [uA];have hic:i<c.size:=by omega
  have hce:(putCells (fun v:Value=>v) off F c)[i]? = some (if off<=i/\i<off+F.size then F[i-off]! else c[i]):=by
   simp [putCells,Array.getElem?_eq_getElem hic]
  rw [hA];by_cases hr:off<=i/\i<off+F.size
  ·rw [if_pos hr];rw [if_pos hr] at hce;obtain ⟨r1,r2⟩:=hva (i-off) (by omega);exact ⟨r1,_,hce,r2⟩
  ·rw [if_neg hr];rw [if_neg hr] at hce;obtain ⟨r1,v,r2,r3⟩:=q5 i hi;rw [Array.getElem?_eq_getElem hic] at r2;exact ⟨r1,_,hce,by rw [Option.some.inj r2];exact r3⟩
 have H1:=H.put hid hE hbr;have X1:Ex E E w (w.putObj b (.cells (putCells (fun v:Value=>v) off F c) ty fr)):=Ex.put hE h2 fun L hL=>by cases hL
 have hbl:b<w.heap.size:=(Array.getElem?_eq_some_iff.1 h2).1;have hBel:Below (w.putObj b (.cells (putCells (fun v:Value=>v) off F c) ty fr)).heap.size (w.putObj b (.cells (putCells (fun v:Value=>v) off F c) ty fr)) (grow (putRow (fun v:Value=>v) (Sort.ahead w k) b off F) os):=by
  refine ⟨rfl,rfl,rfl,?_,fun j hj => ?_⟩
  ·rw [World.putObj_size];simp [grow,putRow,mapBlock,Sort.ahead]
  ·rw [World.putObj_size] at hj;have e1:(grow (putRow (fun v:Value=>v) (Sort.ahead w k) b off F) os).heap[j]? = (w.heap.modify b (onCells (putCells (fun v:Value=>v) off F)))[j]? := by
    show (w.heap.modify b (onCells (putCells (fun v:Value=>v) off F))++os)[j]? = _;rw [Array.getElem?_append_left (by simpa using hj)]
   rw [e1,Array.getElem?_modify];by_cases e:b=j
   ·subst e;rw [if_pos rfl,h2,gO _ hbl];rfl
   ·rw [if_neg e,yN _ (fun q=>e q.symm)]
 obtain ⟨r1,r2⟩:=H1.below hBel;exact ⟨r1,X1.trans r2⟩
def jZ (ps:List (AV×Sym)):List AV:=ps.flatMap fun p=>[p.1,.bool p.2.2]
theorem d8:∀ (ps:List (AV×Sym)) (i:Nat),(jZ ps)[i]? = (ps[i / 2]?).map fun p=>if i%2=0 then p.1 else .bool p.2.2
 | [],i=>by simp [jZ]
 | p::ps,0=>rfl
 | p::ps,1=>rfl
 | p::ps,i+2=>by
  rw [show (i+2) / 2=i / 2+1 by omega,show (i+2)%2=i%2 by omega,List.getElem?_cons_succ,<- d8 ps i]
  rfl
theorem vA:∀ (ps:List (AV×Sym)),(jZ ps).length=ps.length*2
 | []=>rfl
 | p::ps=>by
  show (jZ ps).length+2=_;rw [vA ps,Zbr];omega
theorem zme {B:Nat} {h:T Blk} {id:Pa} {op:Bool} {m off n:Nat} {o:Option Nat} {t:T AV} {ps qs:List (AV×Sym)} (hb:T.get .no id h=.cells op m t) (hm:off+n*2<=m) (hn:n<=1000000) (hl:ps.length=n) (hp:yD t off (n*2)=jZ ps)
  (hr:∀ p∈ps,aO h id p.1 p.2.1/\p.2.1.length<=1000000) (hnd:(ps.map (·.2)).Nodup) (hq:qs.Perm ps) (hqs:qs.Pairwise fun a b=>rX a.2 b.2<=0) :
  JOk Tryz.prog B (fun f a h'=>open Classical in if f=113/\a=[.sl id off n o 2,.fn 114 (.of 114) []]/\h'=h then some (.tup [],T.set .no (.cells op m (yS (jZ qs) t off)) id h) else none):=by
 intro E h' nx w f args vs v h2 H hv hj
 dsimp only at hj
 by_cases hc:f=113/\args=[AV.sl id off n o 2,.fn 114 (.of 114) []]/\h'=h
 case neg=>rw [if_neg hc] at hj;cases hj
 rw [if_pos hc] at hj;obtain ⟨rfl,rfl,rfl⟩:=hc;simp only [Option.some.injEq,Prod.mk.injEq] at hj;obtain ⟨rfl,rfl⟩:=hj;refine ⟨_,Tryz.func113,by kernel_rfl,by kernel_rfl,fun nn=>callsIn_wide.2 ?_⟩;obtain ⟨l⟩:=vs;simp only [VRL] at hv;obtain ⟨u,_,rfl,hu,u2,_,rfl,hu2,rfl⟩:=hv;simp only [VR,VRL] at hu2;obtain ⟨_,vs2,rfl,hvs2⟩:=hu2;obtain rfl:vs2 = #[]:=by cases vs2;simpa using hvs2
 obtain ⟨b,bn,c,hE,rfl,hcap⟩:=hu.rZ;obtain ⟨b',n',ob,h1,h2,h3⟩:=H.blk id (by rw [hb];intro e;cases e);rw [hE] at h1;cases h1;have h3':=h3;rw [hb] at h3;obtain ⟨cs,ty,fr,rfl,g1,g2,g3,g4,hc⟩:=h3
 let α:={x:(AV×Sym)×Value // aO h' id x.1.1 x.1.2.1/\x.1.2.1.length<=1000000/\VR E x.1.1 x.2}
 haveI:Inhabited α:=⟨⟨((encI [],([],false)),.slice none 0 0),.inl rfl,by simp,by simp only [VR];exact ⟨rfl,rfl,none,0,rfl,.inl ⟨rfl,fun _=>rfl⟩⟩⟩⟩
 let enc:α->List Value:=fun x=>[x.1.2,.bool x.1.1.2.2]
 let cf:α->α->Int:=fun x y=>rX x.1.1.2 y.1.1.2
 have hk:∀ x,(enc x).length=2:=fun _=>rfl;have hone:∀ x,∀ v∈enc x,v.oneCell'=true:=fun x v hv=>by
  obtain ⟨p,c,e,_⟩:=x.2.1.cells H x.2.2.2;simp only [enc,Zah,List.not_mem_nil,or_false] at hv;rcases hv with rfl | rfl
  ·rw [e];rfl
  ·rfl
 have hO:SWO (ltOf cf):={
  irrefl:=fun x=>by show decide (rX _ _<0)=false;rw [zmd];rfl
  trans:=fun x y z p q=>by
   have p:=of_decide_eq_true p;have q:=of_decide_eq_true q;exact decide_eq_true (pG p q)
  ntrans:=fun x y z p q=>by
   have p:=of_decide_eq_false p;have q:=of_decide_eq_false q;exact decide_eq_false (Int.not_lt.2 (pH (Int.not_lt.1 p) (Int.not_lt.1 q))) }
 have rd:∀ i,i<n*2->∃ p,ps[i / 2]? = some p/\T.get .u (.of (off+i)) t=(if i%2=0 then p.1 else .bool p.2.2)/\∃ v',cs[off+i]? = some v'/\VR E (if i%2=0 then p.1 else .bool p.2.2) v'/\w.frozen? ⟨b,off+i,none⟩=false:=by
  intro i hi;have hjp:i / 2<ps.length:=by omega
  have e1:=yC t off (n*2) i hi;rw [hp,d8,List.getElem?_eq_getElem hjp] at e1;have he:=(Option.some.inj e1).symm;obtain ⟨_,v',k1,k2⟩:=hc (off+i) (by omega);rw [he] at k2;refine ⟨_,List.getElem?_eq_getElem hjp,he,v',k1,k2,?_⟩;have:=g1 (off+i) (Array.getElem?_eq_some_iff.1 k1).1;simp only [World.frozen?,h2];obtain ⟨lo,hi⟩:=fr;simp only [Bool.and_eq_false_iff,decide_eq_false_iff_not];simp only at this;omega
 have each:∀ j,j<n->∃ x:α,ps[j]? = some x.1.1/\w.cell? ⟨b,off+j*2,none⟩=some x.1.2/\w.cell? ⟨b,off+(j*2+1),none⟩=some (.bool x.1.1.2.2):=by
  intro j hj;obtain ⟨p,a1,a2,v1,a3,a4,a5⟩:=rd (j*2) (by omega);obtain ⟨p',b1,b2,v2,b3,b4,b5⟩:=rd (j*2+1) (by omega);rw [show j*2 / 2=j by omega] at a1;rw [show (j*2+1) / 2=j by omega,a1] at b1;cases b1
  rw [if_pos (by omega)] at a4;rw [if_neg (by omega)] at b4;simp only [VR] at b4;subst b4;obtain ⟨r1,r2⟩:=hr _ (Zab a1);exact ⟨⟨(p,v1),r1,r2,a4⟩,a1,by simp [World.cell?,h2,a3],by simp [World.cell?,h2,b3]⟩
 obtain ⟨D,hD⟩:=Go.Deep.choose_lt each;have hsz:((List.range n).map D).toArray.size=n:=by simp
 have hget:∀ j,j<n->((List.range n).map D).toArray[j]! = D j:=fun j hj=>by simp [getElem!_pos,hj]
 have hH:HoldsK enc 2 w b off ((List.range n).map D).toArray:=by
  intro i hi;rw [size_flatK,hsz] at hi;rw [get_flatK _ _ _ _ (by rw [hsz];exact hi),hget _ (by omega)];obtain ⟨_,d1,d2⟩:=hD (i / 2) (by omega);obtain ⟨_,_,_,_,_,_,fz⟩:=rd i hi;refine ⟨?_,fz⟩;rcases Nat.mod_two_eq_zero_or_one i with e | e
  ·rw [e];rw [show i / 2*2=i by omega] at d1;exact d1
  ·rw [e];rw [show i / 2*2+1=i by omega] at d2;exact d2
 have hsort:∀ (k:Nat) (os:Array Obj) (dk:Array α),dk.size=n->HR Tryz.prog B E (T.set .no (.cells op m (yS (jZ (dk.toList.map fun x=>x.1.1)) t off)) id h') nx (sortWorldK enc 2 w b off k dk os)/\Ex E E w (sortWorldK enc 2 w b off k dk os):=by
  intro k os dk hs;have hfs:(flatK enc 2 dk).size=n*2:=by rw [size_flatK,hs]
  refine H.zuq (F:=flatK enc 2 dk) (by rw [vA,hfs,Zas,Array.length_toList,hs]) (fun i hi => ?_) hb hE (by rw [hfs];exact hm);rw [hfs] at hi;have hlt:i / 2<dk.size:=by omega
  rw [get_flatK _ _ _ _ (by rw [hs];exact hi),Zaa,d8,List.getElem?_map,Array.getElem?_toList,Array.getElem?_eq_getElem hlt,getElem!_pos dk _ hlt];simp only [Zcb,Option.getD_some];rcases Nat.mod_two_eq_zero_or_one i with e | e
  ·rw [e,if_pos rfl];exact ⟨dk[i / 2].2.1.jc,dk[i / 2].2.2.2⟩
  ·rw [e,if_neg (by decide)];exact ⟨rfl,by show VR E (.bool _) (.bool _);simp only [VR]⟩
 have hcmp:CmpLays Tryz.prog 114 #[] enc 2 cf b off ((List.range n).map D).toArray.size w:=by
  intro k os dk hs x y;rw [hsz] at hs;obtain ⟨H',_⟩:=hsort k os dk hs;obtain ⟨p1,c1,e1,m1⟩:=(x.2.1.set (b:=.cells op m (yS (jZ (dk.toList.map fun x=>x.1.1)) t off))).cells H' x.2.2.2;obtain ⟨p2,c2,e2,m2⟩:=(y.2.1.set (b:=.cells op m (yS (jZ (dk.toList.map fun x=>x.1.1)) t off))).cells H' y.2.2.2;have:=zgy p1 p2 _ c1 _ c2 x.1.1.2.1 y.1.1.2.1 x.1.1.2.2 y.1.1.2.2 (sortWorldK enc 2 w b off k dk os) rfl rfl x.2.2.1 y.2.2.1 m1 m2;show Go.Calls Tryz.prog 114 #[.agg #[x.1.2,.bool x.1.1.2.2],.agg #[y.1.2,.bool y.1.1.2.2]] _ _;rw [e1,e2];exact this
 have key:=AnyQ.slices_SortFunc Tryz.sortS 2 Tryz.isAgg115 Tryz.sizeOf115 enc hk hone cf hO 114 #[] b off c ((List.range n).map D).toArray w (enters_of Tryz.func114 (by kernel_rfl) rfl) hcmp hH (H.lt _ _ _ hE).2 (by rw [hsz];omega);rw [hsz] at key;refine key.mono ?_;rintro e w' ⟨rfl,d',k,os,hP,hS,rfl⟩;obtain ⟨hd1,_,hperm⟩:=hP;rw [hsz] at hd1;have e1:d'.extract 0 n=d':=by rw [<- hd1];exact Array.extract_size
 have e2:((List.range n).map D).toArray.extract 0 n=((List.range n).map D).toArray:=by
  have := @Array.extract_size _ ((List.range n).map D).toArray
  rwa [hsz] at this
 rw [e1,e2] at hperm;have hps:((List.range n).map D).map (fun x:α=>x.1.1)=ps:=by
  refine Zau fun j => ?_;rw [List.getElem?_map,List.getElem?_map];by_cases hj:j<n
  ·rw [List.getElem?_range hj,(hD j hj).1];rfl
  ·rw [List.getElem?_eq_none (by simp;omega),List.getElem?_eq_none (by omega)];rfl
 have hpm:(d'.toList.map fun x:α=>x.1.1).Perm ps:=by rw [<- hps];exact hperm.map _
 have hqe:(d'.toList.map fun x:α=>x.1.1)=qs:=by
  refine List.Perm.eq_of_pairwise (le:=fun a b=>rX a.2 b.2<=0) ?_ ?_ hqs (hpm.trans hq.symm)
  ·intro a a' ha ha' p q;have e:a.2=a'.2:=zew (by have:=kU a.2 a'.2;omega);have ma:=hpm.mem_iff.1 ha;have ma':=hq.mem_iff.1 ha';exact qV hnd ma ma' e
  ·rw [Zbp,Zbz];intro i j hi hj hij;have hi':i<d'.size:=by simpa using hi
   have hj':j<d'.size:=by simpa using hj
   have:=hS i j (Nat.zero_le _) hij (by omega);rw [getElem!_pos d' j hj',getElem!_pos d' i hi'] at this;have:=of_decide_eq_false this;have e:rX d'[j].1.1.2 d'[i].1.1.2 = - rX d'[i].1.1.2 d'[j].1.1.2:=kU _ _;have f:¬ rX d'[j].1.1.2 d'[i].1.1.2<0:=this;simp only [Array.getElem_toList];omega
 obtain ⟨r1,r2⟩:=hsort k os d' hd1;rw [hqe] at r1;exact ⟨_,E,rfl,by simp only [VR,VRL];exact ⟨_,rfl,rfl⟩,r1,r2⟩
end Go.Ev
