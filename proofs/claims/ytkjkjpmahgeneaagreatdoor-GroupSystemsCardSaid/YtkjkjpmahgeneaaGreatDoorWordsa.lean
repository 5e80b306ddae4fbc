import Derived.Test.YtkjkjpmahgeneaaGreatDoorCodea
import Derived.Test.YtkjkjpmahgeneaaGreatDoorEvD
import GoSem.Core.Next
import Derived.Lib.Small
import Derived.Lib.Walk
import Derived.Deep.Draws
import Derived.Lib.Agree
import Derived.Shelf.SlLaysF
import Derived.Shelf.RegionOpenPlain
import Derived.WalkKit
import Derived.Deep.LoopGhost
import Derived.Test.YtkjkjpmahgeneaaGreatDoorProg
import Derived.KernelRfl
import Derived.Shelf.SlSortCmp.InsertionK
import Derived.Sort.Grow
import Derived.Sort.Row
import Derived.Test.YtkjkjpmahgeneaaGreatDoorLaws
import Derived.Shelf.SlSortCmp.WholeK
import Derived.Deep.Slices
set_option linter.unusedSimpArgs false
set_option linter.unusedVariables false
namespace Go.Ev
open Go Go.Proofs
theorem yt {B:Nat}:pW Tryz.prog B Prop:=ze9 mixed
variable {B:Nat}
theorem dD {a b:List Int} (ha:a.length<=1000000000):Pure Tryz.prog B 82 [encI a,encI b] (· = .bool (decide (a=b))):=by
 intro p h nx K hK;refine zS zW yt (a.length+2) fun hf => ?_;rw [F82.go];simp (disch:=omega) only [jr,bg,cO,dw,gy,je,bP,qy,xw,zR,zM,zD,zC,yT,yG,yQ,jF,yA,yM,yO,yV,jD,jC,jB,zG,yL,zY,zB,decide_true,decide_false,Zad,Zae,yP];by_cases hl:a.length=b.length
 ·simp only [hl,decide_true,Zad,zC];refine F82.L2 (fun m z3 h' nx'=>∃ i:Nat,z3=I i/\m=a.length-i/\i<=a.length/\h'=h/\nx'=nx/\a.take i=b.take i) (m:=a.length) (by omega) ⟨0,rfl,by simp,by omega,rfl,rfl,by simp⟩ ?_;rintro m z2 z3 z5 z6 _ _ R ⟨i,rfl,rfl,hi,rfl,rfl,htk⟩ hR;simp (disch:=omega) only [jr,bg,cO,dw,gy,je,bP,qy,xw,zR,zM,zD,zC,yT,yG,yQ,jF,yA,yM,yO,yV,jD,jC,jB,zG,yL,zY,zB,decide_true,decide_false,Zad,Zae,yP];by_cases hlt:i<a.length
  ·have h1:(i:Int)<a.length:=by omega
   have hb:i<b.length:=by omega
   simp only [h1,decide_true,zD];rw [xg rfl hlt,ldL (cZ (List.getElem?_eq_getElem hlt)),xg rfl hb,ldL (cZ (List.getElem?_eq_getElem hb))];simp (disch:=omega) only [jr,bg,cO,dw,gy,je,bP,qy,xw,zR,zM,zD,zC,yT,yG,yQ,jF,yA,yM,yO,yV,jD,jC,jB,zG,yL,zY,zB,decide_true,decide_false,Zad,Zae,yP];by_cases he:a[i]=b[i]
   ·simp only [he,decide_true,Zad,zC];refine hR (a.length-(i+1)) _ _ _ _ _ _ (by omega) ⟨i+1,rfl,rfl,by omega,rfl,rfl,?_⟩;rw [Zam,Zam,htk,List.getElem?_eq_getElem hlt,List.getElem?_eq_getElem hb,he]
   ·simp only [he,decide_false,Zae,zD];refine hK _ ?_ hf;rw [decide_eq_false];rintro rfl;exact he rfl
  ·have h1:¬ (i:Int)<a.length:=by omega
   simp only [h1,decide_false,zC];rw [F82.k9];refine hK _ ?_ hf;rw [Zal (by omega),Zal (by omega)] at htk;rw [decide_eq_true htk]
 ·have h1:¬ (a.length:Int)=b.length:=by omega
  simp only [h1,decide_false,Zae,zD];refine hK _ ?_ hf;rw [decide_eq_false];rintro rfl;exact hl rfl
end Go.Ev
namespace Go.Ev
open Go Go.Proofs
variable {B:Nat}
theorem dS (b:Bool) (e:Int):Pure Tryz.prog B 167 [.bool b,I e] (· = I (if b then e else 0)):=by
 intro p h nx K hK;refine zS zW yt 9 fun hf => ?_;rw [tu.go];cases b <;> simp (disch:=omega) only [jr,bg,cO,dw,gy,je,bP,qy,xw,zR,zM,zD,zC,yT,yG,yQ,jF,yA,yM,yO,yV,jD,jC,jB,zG,yL,zY,zB,decide_true,decide_false,Zad,Zae,yP] <;> exact hK _ rfl hf
def gY:List Int->Int
 | []=>0
 | e::l=>if e≠0 then e else gY l
theorem kS:∀ (l:List Int) (i:Nat),(∀ e∈l.take i,e=0)->gY l=gY (l.drop i)
 | l,0,_=>rfl
 | [],_+1,_=>rfl
 | e::l,i+1,h=>by
  have h0:e=0:=h e (by simp);rw [gY,if_neg (by simp [h0]),List.drop_succ_cons];exact kS l i fun x hx=>h x (by simp [hx])
theorem zfu {l:List Int} (hl:l.length<=1000000):Pure Tryz.prog B 165 [encI l] (· = I (gY l)):=by
 intro p h nx K hK;refine zS zW yt 10000000 fun hf => ?_;rw [uj.go];simp (disch:=omega) only [jr,bg,cO,dw,gy,je,bP,qy,xw,zR,zM,zD,zC,yT,yG,yQ,jF,yA,yM,yO,yV,jD,jC,jB,zG,yL,zY,zB,decide_true,decide_false,Zad,Zae,yP];refine uj.L1 (fun m z5 h' nx'=>∃ i:Nat,z5=I i/\l.length-i=m/\i<=l.length/\h'=h/\nx'=nx/\∀ e∈l.take i,e=0) (m:=l.length) (by omega) ⟨0,rfl,rfl,by omega,rfl,rfl,by simp⟩ ?_;rintro m z1 z2 z5 z6 z7 _ _ R ⟨i,rfl,rfl,hi,rfl,rfl,htk⟩ hR;simp (disch:=omega) only [jr,bg,cO,dw,gy,je,bP,qy,xw,zR,zM,zD,zC,yT,yG,yQ,jF,yA,yM,yO,yV,jD,jC,jB,zG,yL,zY,zB,decide_true,decide_false,Zad,Zae,yP];by_cases hlt:i<l.length
 ·simp only [show (i:Int)<(l.length:Int) by omega,decide_true,zD];have hx:l[i]? = some l[i]:=List.getElem?_eq_getElem hlt;rw [xg rfl hlt,ldL (cZ hx)];simp (disch:=omega) only [jr,bg,cO,dw,gy,je,bP,qy,xw,zR,zM,zD,zC,yT,yG,yQ,jF,yA,yM,yO,yV,jD,jC,jB,zG,yL,zY,zB,decide_true,decide_false,Zad,Zae,yP];have hd:l.drop i=l[i]::l.drop (i+1):=Zan hlt;by_cases h0:l[i]=0
  ·simp only [h0,decide_true,Zad,zC];refine hR _ _ _ _ _ _ _ _ (by omega) ⟨i+1,rfl,rfl,by omega,rfl,rfl,fun e he => ?_⟩;rw [Zam,hx] at he;rcases List.mem_append.1 he with q | q
   ·exact htk e q
   ·simp at q;rw [q];exact h0
  ·simp only [h0,decide_false,Zae,zD];refine hK _ ?_ hf;rw [kS l i htk,hd,gY,if_pos h0]
 ·simp only [show ¬ (i:Int)<(l.length:Int) by omega,decide_false,zC];rw [uj.k8];refine hK _ ?_ hf;rw [kS l i htk,Zbg (by omega)];rfl
theorem zog {a b:List Int} (ha:a.length<=1000000000):Pure Tryz.prog B 158 [encI a,encI b] (· = .bool (decide (a=b))):=by
 intro p h nx K hK;refine zS zW yt (a.length+2) fun hf => ?_;rw [jv.go];simp (disch:=omega) only [jr,bg,cO,dw,gy,je,bP,qy,xw,zR,zM,zD,zC,yT,yG,yQ,jF,yA,yM,yO,yV,jD,jC,jB,zG,yL,zY,zB,decide_true,decide_false,Zad,Zae,yP];by_cases hl:a.length=b.length
 ·simp only [hl,decide_true,Zad,zC];refine jv.L2 (fun m z6 h' nx'=>∃ i:Nat,z6=I i/\a.length-i=m/\i<=a.length/\h'=h/\nx'=nx/\a.take i=b.take i) (m:=a.length) (by omega) ⟨0,rfl,by simp,by omega,rfl,rfl,by simp⟩ ?_;rintro m z2 z3 z6 z7 z8 _ _ R ⟨i,rfl,rfl,hi,rfl,rfl,htk⟩ hR;simp (disch:=omega) only [jr,bg,cO,dw,gy,je,bP,qy,xw,zR,zM,zD,zC,yT,yG,yQ,jF,yA,yM,yO,yV,jD,jC,jB,zG,yL,zY,zB,decide_true,decide_false,Zad,Zae,yP];by_cases hlt:i<a.length
  ·have hb:i<b.length:=by omega
   simp only [show (i:Int)<(b.length:Int) by omega,decide_true,zD];rw [xg rfl hlt,ldL (cZ (List.getElem?_eq_getElem hlt)),xg rfl hb,ldL (cZ (List.getElem?_eq_getElem hb))];simp (disch:=omega) only [jr,bg,cO,dw,gy,je,bP,qy,xw,zR,zM,zD,zC,yT,yG,yQ,jF,yA,yM,yO,yV,jD,jC,jB,zG,yL,zY,zB,decide_true,decide_false,Zad,Zae,yP];by_cases he:a[i]=b[i]
   ·simp only [he,decide_true,Zad,zC];refine hR (a.length-(i+1)) _ _ _ _ _ _ _ (by omega) ⟨i+1,rfl,rfl,by omega,rfl,rfl,?_⟩;rw [Zam,Zam,htk,List.getElem?_eq_getElem hlt,List.getElem?_eq_getElem hb,he]
   ·simp only [he,decide_false,Zae,zD];refine hK _ ?_ hf;rw [decide_eq_false];rintro rfl;exact he rfl
  ·simp only [show ¬ (i:Int)<(b.length:Int) by omega,decide_false,zC];rw [jv.k9];refine hK _ ?_ hf;rw [Zal (by omega),Zal (by omega)] at htk;rw [decide_eq_true htk]
 ·have h1:¬ (a.length:Int)=b.length:=by omega
  simp only [h1,decide_false,Zae,zD];refine hK _ ?_ hf;rw [decide_eq_false];rintro rfl;exact hl rfl
theorem zfv {h0 h:T Blk} {nx:Pa} {L:List Ob} {k:Nat} {x p:Pa} {l:List Int} {prev:List (List Int)} {K:Kw Prop} (H:Hp h0 h nx L) (hk:L[k]? = some (.arr x [encI l])) (hp:prev.length<=1000000) (hw:∀ q∈prev,q.length<=1000000)
  (hK:K (.bool (decide (l∈prev))) h nx=.ok True):(CS Tryz.prog B).fn 216 p [qg prev,.fn 217 (.of 217) [.ptr x 0]] h nx K=.ok True:=by
 refine jH (p:=.of 216) (K:=K) (zS zW yt 9 fun hf => ?_) fun _ _ _ _ q=>q;rw [aV.go];refine jH (p:=.of 259) (K:=fun v1 h2 n3=>zo .geq .int v1 (I 0) fun v4=>K v4 h2 n3) (zS zW yt 10000000 fun hf => ?_) fun _ _ _ _ q=>q;rw [ug.go];simp (disch:=omega) only [jr,bg,cO,dw,gy,je,bP,qy,xw,zR,zM,zD,zC,yT,yG,yQ,jF,yA,yM,yO,yV,jD,jC,jB,zG,yL,zY,zB,decide_true,decide_false,Zad,Zae,yP];refine ug.L1 (fun m z5 h' nx'=>∃ i:Nat,z5=I i/\prev.length-i=m/\i<=prev.length/\h'=h/\nx'=nx/\l∉prev.take i) (m:=prev.length) (by omega) ⟨0,rfl,rfl,by omega,rfl,rfl,by simp⟩ ?_;rintro m z2 z3 z5 z6 z7 _ _ R ⟨i,rfl,rfl,hi,rfl,rfl,htk⟩ hR;simp (disch:=omega) only [jr,bg,cO,dw,gy,je,bP,qy,xw,zR,zM,zD,zC,yT,yG,yQ,jF,yA,yM,yO,yV,jD,jC,jB,zG,yL,zY,zB,decide_true,decide_false,Zad,Zae,yP];by_cases hlt:i<prev.length
 ·simp only [show (i:Int)<(prev.length:Int) by omega,decide_true,zD];have hx:prev[i]? = some prev[i]:=List.getElem?_eq_getElem hlt;rw [xg rfl hlt,ldL (getT hx),xJ];refine jH (p:=.of 217) (zS zW yt 9 fun hf => ?_) fun _ _ _ _ q=>q;show zV tbl 9 _ (Pa.of 217) [encI prev[i],.ptr x 0] _ _ _=_;rw [aU.go,H.load (k:=k) (i:=0) hk rfl];refine zog (Zbl (hw _ (Zai hlt)) (by omega)) _ _ _ _ ?_;rintro _ rfl _;by_cases he:prev[i]=l
  ·simp only [he,decide_true,zD,xw,show (0:Int)<=(i:Int) by omega];rw [decide_eq_true (he ▸ Zai hlt)] at hK;exact hK
  ·simp only [he,decide_false,zC];refine hR _ _ _ _ _ _ _ _ (by omega) ⟨i+1,rfl,rfl,by omega,rfl,rfl,fun q => ?_⟩;rw [Zam,hx] at q;rcases List.mem_append.1 q with q | q
   ·exact htk q
   ·simp at q;exact he q.symm
 ·simp only [show ¬ (i:Int)<(prev.length:Int) by omega,decide_false,zC];rw [ug.k8];rw [Zal (by omega)] at htk;rw [decide_eq_false htk] at hK;simp only [xw,show ¬ (0:Int) <= -1 by omega,decide_false];exact hK
def yS (cells:Int):Option Int->List Int->Int
 | _,[]=>0
 | p,c::l=>if c<0\/cells<=c then 10 else if p.any (fun q=>decide (c<=q)) then 11 else yS cells (some c) l
def jP (cells:Int) (prev:List (List Int)) (l:List Int):Int:=if l=[] then 12 else if yS cells none l≠0 then yS cells none l else if l∈prev then 9 else 0
def gS (cells:Int):List (List Int)->List (List Int)->Int
 | _,[]=>0
 | prev,l::r=>if jP cells prev l≠0 then jP cells prev l else gS cells (prev++[l]) r
def jE (cells:Int) (lines:List (List Int)):Int:=if cells<1\/256<cells then 3 else if 128<lines.length then 5 else gS cells [] lines
def pv (l:List Int) (k:Nat):Option Int:=if k=0 then none else l[k-1]?
theorem d4 {l:List Int} {k:Nat} (h:k<l.length):pv l (k+1)=some l[k]:=by simp [pv,h]
theorem zqh {cells a b:Int} {lines:List (List Int)} (hb:b<=1000000):Pure Tryz.prog B 32 [.agg [I cells,qg lines],I a,I b] (· = .bool (decide ((lines.length:Int)<=b/\∀ l∈lines,(l.length:Int)<=a))):=by
 refine y8 fun h nx K H0 hK=>zS zW yt 10000000 fun hf => ?_;rw [F32.go];refine H0.box (l:=[I cells,qg lines]) rfl fun bx h1 nx1 H1 => ?_;rw [sFx,H1.load (k:=0) (i:=0+1) rfl rfl];simp (disch:=omega) only [jr,bg,cO,dw,gy,je,bP,qy,xw,zR,zM,zD,zC,yT,yG,yQ,jF,yA,yM,yO,yV,jD,jC,jB,zG,yL,zY,zB,decide_true,decide_false,Zad,Zae,yP];have ret:∀ v:Bool,v=decide ((lines.length:Int)<=b/\∀ l∈lines,(l.length:Int)<=a)->K (.bool v) h1 nx1=.ok True:=fun v hv=>by rw [hv];exact hK _ _ _ _ _ H1 (zJ rfl) rfl
 by_cases hlen:b<(lines.length:Int)
 ·simp only [hlen,decide_true,zD];refine ret _ ?_;rw [decide_eq_false];rintro ⟨q,_⟩;omega
 simp only [hlen,decide_false,zC];refine F32.L2 (fun m z5 h' nx'=>∃ i:Nat,z5=I i/\lines.length-i=m/\i<=lines.length/\h'=h1/\nx'=nx1/\∀ l∈lines.take i,(l.length:Int)<=a) (m:=lines.length) (by omega) ⟨0,rfl,rfl,by omega,rfl,rfl,by simp⟩ ?_;rintro m z4 z5 z7 z8 _ _ R ⟨i,rfl,rfl,hi,rfl,rfl,htk⟩ hR;rw [sFx,H1.load (k:=0) (i:=0+1) rfl rfl];simp (disch:=omega) only [jr,bg,cO,dw,gy,je,bP,qy,xw,zR,zM,zD,zC,yT,yG,yQ,jF,yA,yM,yO,yV,jD,jC,jB,zG,yL,zY,zB,decide_true,decide_false,Zad,Zae,yP];by_cases hlt:i<lines.length
 ·simp only [show (i:Int)<(lines.length:Int) by omega,decide_true,zD];have hx:lines[i]? = some lines[i]:=List.getElem?_eq_getElem hlt;rw [sFx,H1.load (k:=0) (i:=0+1) rfl rfl,xg rfl hlt,ldL (getT hx)];simp (disch:=omega) only [jr,bg,cO,dw,gy,je,bP,qy,xw,zR,zM,zD,zC,yT,yG,yQ,jF,yA,yM,yO,yV,jD,jC,jB,zG,yL,zY,zB,decide_true,decide_false,Zad,Zae,yP];by_cases hw:a<(lines[i].length:Int)
  ·simp only [hw,decide_true,zD];refine ret _ ?_;rw [decide_eq_false];rintro ⟨_,q⟩;have:=q _ (Zai hlt);omega
  ·simp only [hw,decide_false,zC];refine hR _ _ _ _ _ _ _ (by omega) ⟨i+1,rfl,rfl,by omega,rfl,rfl,fun l hl => ?_⟩;rw [Zam,hx] at hl;rcases List.mem_append.1 hl with q | q
   ·exact htk l q
   ·simp at q;rw [q];omega
 ·simp only [show ¬ (i:Int)<(lines.length:Int) by omega,decide_false,zC];rw [F32.k9];rw [Zal (by omega)] at htk;refine ret _ ?_;rw [decide_eq_true ⟨by omega,htk⟩]
theorem zku {prev:List (List Int)} {l:List Int} (hp:prev.length<=1000000) (hw:∀ q∈prev,q.length<=1000000000):Pure Tryz.prog B 102 [qg prev,encI l] (· = .bool (decide (l∈prev))):=by
 intro p h nx K hK;refine zS zW yt 10000000 fun hf => ?_;rw [uh.go];refine uh.L1 (fun m z3 h' nx'=>∃ i:Nat,z3=I i/\prev.length-i=m/\i<=prev.length/\h'=h/\nx'=nx/\l∉prev.take i) (m:=prev.length) (by omega) ⟨0,rfl,rfl,by omega,rfl,rfl,by simp⟩ ?_;rintro m z2 z3 z4 z5 _ _ R ⟨i,rfl,rfl,hi,rfl,rfl,htk⟩ hR;simp (disch:=omega) only [jr,bg,cO,dw,gy,je,bP,qy,xw,zR,zM,zD,zC,yT,yG,yQ,jF,yA,yM,yO,yV,jD,jC,jB,zG,yL,zY,zB,decide_true,decide_false,Zad,Zae,yP];by_cases hlt:i<prev.length
 ·simp only [show (i:Int)<(prev.length:Int) by omega,decide_true,zD];have hx:prev[i]? = some prev[i]:=List.getElem?_eq_getElem hlt;rw [xg rfl hlt,ldL (getT hx)];refine dD (hw _ (Zai hlt)) _ _ _ _ ?_;rintro _ rfl _;by_cases he:prev[i]=l
  ·simp only [he,decide_true,zD];refine hK _ ?_ hf;rw [decide_eq_true (he ▸ Zai hlt)]
  ·simp only [he,decide_false,zC];refine hR _ _ _ _ _ _ _ (by omega) ⟨i+1,rfl,rfl,by omega,rfl,rfl,fun q => ?_⟩;rw [Zam,hx] at q;rcases List.mem_append.1 q with q | q
   ·exact htk q
   ·simp at q;exact he q.symm
 ·simp only [show ¬ (i:Int)<(prev.length:Int) by omega,decide_false,zC];rw [uh.k8];rw [Zal (by omega)] at htk;refine hK _ ?_ hf;rw [decide_eq_false htk]
theorem zjg {n i:Nat} {l:List AV} {op:AV->OP} (hn:1<=n) (hi:i<=n):dE 1 (.lst 1 n l) none (some (I (i:Int))) none op=op (.lst 1 i (l.take i)):=by
 show (bif Nat.beq 1 1&&Nat.ble 1 n then (match bnd (some (I (i:Int))) n n with | none=>Out.no 17 | some h=>match bnd none h 0 with | none=>.no 17 | some q=>op (.lst 1 (h-q) ((l.drop (q*1)).take ((h-q)*1)))) else .no 17)=_;rw [Zab hn];have:bnd (some (I (i:Int))) n n=some i:=by
  show (bif Nat.ble i n then some i else none)=_;rw [Zab hi];rfl
 rw [this];show op (.lst 1 (i-0) ((l.drop (0*1)).take ((i-0)*1)))=_;simp
theorem zoh {cells:Int} {lines:List (List Int)} (hw:∀ q∈lines,q.length<=1000000):Pure Tryz.prog B 33 [.agg [I cells,qg lines]] (· = I (jE cells lines)):=by
 refine y8 fun h nx K H0 hK=>zS zW yt 10000000 fun hf => ?_;rw [F33.go];refine H0.box (l:=[I cells,qg lines]) rfl fun bx h1 nx1 H1 => ?_;rw [sFx,H1.load (k:=0) (i:=0) rfl rfl];have ret:∀ v:Int,v=jE cells lines->K (I v) h1 nx1=.ok True:=fun v hv=>by rw [hv];exact hK _ _ _ _ _ H1 (zJ rfl) rfl
 by_cases hc:cells<1\/256<cells
 ·have hv:(3:Int)=jE cells lines:=by rw [jE,if_pos hc]
  by_cases c1:cells<1
  ·simp only [je,c1,decide_true,yQ,zR,zD];exact ret 3 hv
  ·simp only [je,c1,decide_false,yG];rw [sFx,H1.load (k:=0) (i:=0) rfl rfl];simp only [qy,show (256:Int)<cells by omega,decide_true,zM,zD];exact ret 3 hv
 simp only [je,show ¬ cells<1 by omega,decide_false,yG];rw [sFx,H1.load (k:=0) (i:=0) rfl rfl];simp only [qy,show ¬ (256:Int)<cells by omega,decide_false,zM,zC];rw [sFx,H1.load (k:=0) (i:=0+1) rfl rfl];simp (disch:=omega) only [jr,bg,cO,dw,gy,je,bP,qy,xw,zR,zM,zD,zC,yT,yG,yQ,jF,yA,yM,yO,yV,jD,jC,jB,zG,yL,zY,zB,decide_true,decide_false,Zad,Zae,yP];by_cases hm:128<lines.length
 ·simp only [show (128:Int)<(lines.length:Int) by omega,decide_true,zD];exact ret 5 (by rw [jE,if_neg hc,if_pos hm])
 simp only [show ¬ (128:Int)<(lines.length:Int) by omega,decide_false,zC];have hs:jE cells lines=gS cells [] lines:=by rw [jE,if_neg hc,if_neg hm]
 refine F33.L3 (fun m z3 h' nx'=>∃ i:Nat,z3=I i/\lines.length-i=m/\i<=lines.length/\h'=h1/\nx'=nx1/\jE cells lines=gS cells (lines.take i) (lines.drop i)) (m:=lines.length) (by omega) ⟨0,rfl,rfl,by omega,rfl,rfl,by simpa using hs⟩ ?_;rintro m z2 z3 z4 z5 z8 z9 z10 z11 z12 z13 h1 nx1 R ⟨i,rfl,rfl,hi,rfl,rfl,he⟩ hR;rw [sFx,H1.load (k:=0) (i:=0+1) rfl rfl];simp (disch:=omega) only [jr,bg,cO,dw,gy,je,bP,qy,xw,zR,zM,zD,zC,yT,yG,yQ,jF,yA,yM,yO,yV,jD,jC,jB,zG,yL,zY,zB,decide_true,decide_false,Zad,Zae,yP];by_cases hlt:i<lines.length
 case neg =>
  simp only [show ¬ (i:Int)<(lines.length:Int) by omega,decide_false,zC];rw [F33.k20];exact ret 0 (by rw [he,Zbg (by omega)];rfl)
 simp only [show (i:Int)<(lines.length:Int) by omega,decide_true,zD];obtain ⟨l,hx⟩:∃ l,lines[i]? = some l:=⟨_,List.getElem?_eq_getElem hlt⟩;have hmem:=Zaa hx;have hd:lines.drop i=l::lines.drop (i+1):=by
  rw [Zan hlt];rw [List.getElem?_eq_getElem hlt] at hx;rw [Option.some.inj hx]
 have htake:lines.take (i+1)=lines.take i++[l]:=by rw [Zam,hx];rfl
 rw [sFx,H1.load (k:=0) (i:=0+1) rfl rfl,xg rfl hlt,ldL (getT hx)];simp (disch:=omega) only [jr,bg,cO,dw,gy,je,bP,qy,xw,zR,zM,zD,zC,yT,yG,yQ,jF,yA,yM,yO,yV,jD,jC,jB,zG,yL,zY,zB,decide_true,decide_false,Zad,Zae,yP];have hlw:=hw l hmem;have zoi:jP cells (lines.take i) l≠0->jE cells lines=jP cells (lines.take i) l:=fun h=>by rw [he,hd,gS,if_pos h]
 by_cases h0:l.length=0
 ·simp only [show (l.length:Int)=0 by omega,decide_true,zD];have hl0:l=[]:=Zau h0;have e12:jP cells (lines.take i) l=12:=by rw [jP,if_pos hl0]
  exact ret 12 (by rw [zoi (by rw [e12];decide),e12])
 simp only [show ¬ (l.length:Int)=0 by omega,decide_false,zC];have hl0:l≠[]:=fun q=>h0 (by rw [q];rfl);have hcell:yS cells none l≠0->jE cells lines=yS cells none l:=fun h=>by
  have e:jP cells (lines.take i) l=yS cells none l:=by rw [jP,if_neg hl0,if_pos h]
  rw [zoi (by rw [e];exact h),e]
 refine F33.L10 (fun m z5 h' nx'=>∃ k:Nat,z5=I k/\l.length-k=m/\k<=l.length/\h'=h1/\nx'=nx1/\yS cells none l=yS cells (pv l k) (l.drop k)) (m:=l.length) (by omega) ⟨0,rfl,rfl,by omega,rfl,rfl,rfl⟩ ?_;rintro m y2 y5 y10 y11 y12 h1 nx1 R2 ⟨k,rfl,rfl,hk,rfl,rfl,hce⟩ hR2;simp (disch:=omega) only [jr,bg,cO,dw,gy,je,bP,qy,xw,zR,zM,zD,zC,yT,yG,yQ,jF,yA,yM,yO,yV,jD,jC,jB,zG,yL,zY,zB,decide_true,decide_false,Zad,Zae,yP];by_cases hkt:k<l.length
 case neg =>
  simp only [show ¬ (k:Int)<(l.length:Int) by omega,decide_false,zC];have hz:yS cells none l=0:=by rw [hce,Zbg (by omega)];rfl
  rw [F33.k18,sFx,H1.load (k:=0) (i:=0+1) rfl rfl,zjg (by omega) (by omega)];have ep:AV.lst 1 i ((lines.map encI).take i)=qg (lines.take i):=by
   rw [<- List.map_take];simp [qg,Nat.min_eq_left (Nat.le_of_lt hlt)]
  rw [ep];refine zku (by rw [Zba];omega) (fun q hq=>Zbl (hw q (Zcc hq)) (by omega)) _ _ _ _ ?_;rintro _ rfl _;by_cases hin:l∈lines.take i
  ·simp only [hin,decide_true,zD];have e9:jP cells (lines.take i) l=9:=by rw [jP,if_neg hl0,if_neg (by rw [hz];simp),if_pos hin]
   exact ret 9 (by rw [zoi (by rw [e9];decide),e9])
  ·simp only [hin,decide_false,zC];rw [F33.k19,jr (by omega)];have e0:jP cells (lines.take i) l=0:=by rw [jP,if_neg hl0,if_neg (by rw [hz];simp),if_neg hin]
   refine hR _ _ _ _ _ _ _ _ _ _ _ _ _ (by omega) ⟨i+1,rfl,rfl,by omega,rfl,rfl,?_⟩;rw [he,hd,gS,if_neg (by rw [e0];simp),htake]
 simp only [show (k:Int)<(l.length:Int) by omega,decide_true,zD];have hxk:l[k]? = some l[k]:=List.getElem?_eq_getElem hkt;have hdk:l.drop k=l[k]::l.drop (k+1):=Zan hkt;rw [xg rfl hkt,ldL (cZ hxk)];by_cases hbad:l[k]<0\/cells<=l[k]
 ·have e10:yS cells none l=10:=by rw [hce,hdk,yS,if_pos hbad]
  have fin:=ret 10 (by rw [hcell (by rw [e10];decide),e10]);by_cases hneg:l[k]<0
  ·simp only [je,hneg,decide_true,yQ,zR,zD];exact fin
  ·simp only [je,hneg,decide_false,yG];rw [xg rfl hkt,ldL (cZ hxk),sFx,H1.load (k:=0) (i:=0) rfl rfl];simp only [xw,show cells<=l[k] by omega,decide_true,zM,zD];exact fin
 simp only [je,show ¬ l[k]<0 by omega,decide_false,yG];rw [xg rfl hkt,ldL (cZ hxk),sFx,H1.load (k:=0) (i:=0) rfl rfl];simp only [xw,show ¬ cells<=l[k] by omega,decide_false,zM,zC];rw [F33.k16];have next:∀ z12,(pv l k).any (fun q=>decide (l[k]<=q))=false->R2 (F33.fr (.agg [I cells,qg lines]) (.ptr bx 0) y2 (I i) (encI l) (I ((k:Int)+1)) (.bool false) (.bool false) (.bool true) (.bool false) (.bool true) (.bool false) z12 z13) h1 nx1=.ok True:=fun z12 hany=>by
  refine hR2 _ _ _ _ _ _ _ _ (by omega) ⟨k+1,rfl,rfl,by omega,rfl,rfl,?_⟩;rw [hce,hdk,yS,if_neg hbad,hany];simp [d4 hkt]
 by_cases hk0:0<k
 ·obtain ⟨k,rfl⟩:∃ j,k=j+1:=⟨k-1,by omega⟩;have hk1:k<l.length:=by omega
  have hxk1:l[k]? = some l[k]:=List.getElem?_eq_getElem hk1;simp only [qy,show (0:Int)<((k+1:Nat):Int) by omega,decide_true,yT];rw [xg rfl hkt,ldL (cZ hxk),bg (by omega),xg (i:=k) (by omega) hk1,ldL (cZ hxk1)];rw [d4 hk1] at next;by_cases hle:l[k+1]<=l[k]
  ·simp only [bP,hle,decide_true,zR,zD];have e11:yS cells none l=11:=by rw [hce,hdk,yS,if_neg hbad,d4 hk1,if_pos (by simp [hle])]
   exact ret 11 (by rw [hcell (by rw [e11];decide),e11])
  ·simp only [bP,hle,decide_false,zR,zC];rw [F33.k17,jr (by omega)];exact next _ (by simp [hle])
 ·obtain rfl:k=0:=by omega
  simp only [qy,show ¬ (0:Int)<((0:Nat):Int) by omega,decide_false,jF,zM,zC];rw [F33.k17,jr (by omega)];exact next _ (by simp [pv])
theorem kK {P:Program} {f:Nat} {p id:Pa} {h0 h:T Blk} {nx:Pa} {L:List Ob} {k:Nat} {l:List Int} {K:Kw Prop} {Q:AV->Prop} (H:Hp h0 h nx L) (hk:L[k]? = some (.arr id (l.map I))) (hq:∀ B,Pure P B f [encI l] Q) (hpl:∀ v,Q v->Plain v)
  (hK:∀ v,Q v->K v h nx=.ok True):(CS P B).fn f p [.sl id 0 l.length (some l.length) 1] h nx K=.ok True :=
 zbe (.cons (jc.frz (H.own _ (Zaa hk)) (T.bV _ id) (Zak _) (by simp) fun v hv=>by obtain ⟨x,_,rfl⟩:=List.mem_map.1 hv;rfl) .nil) (by
  have:=wP l;simp only [nns,fO.nn this,Bool.and_self]) hq hpl fun v hv _=>hK v hv
theorem zoj {h:T Blk} {nx:Pa} {l:List Int} {g:Nat} {p q:Pa} {cap:List AV} {pr:Int->Bool} {K:Kw Prop} (hl:l.length<=1000000) (hcl:∀ x∈l,∀ K:Kw Prop,K (.bool (pr x)) h nx=.ok True->(CS Tryz.prog B).fn g q (I x::cap) h nx K=.ok True)
  (hK:K (.bool (l.any pr)) h nx=.ok True):(CS Tryz.prog B).fn 136 p [encI l,.fn g q cap] h nx K=.ok True:=by
 refine jH (p:=.of 136) (K:=K) (zS zW yt 9 fun hf => ?_) fun _ _ _ _ q=>q;rw [aY.go];refine jH (p:=.of 197) (K:=fun v1 h2 n3=>zo .geq .int v1 (I 0) fun v4=>K v4 h2 n3) (zS zW yt 10000000 fun hf => ?_) fun _ _ _ _ q=>q;rw [uo.go];simp (disch:=omega) only [jr,bg,cO,dw,gy,je,bP,qy,xw,zR,zM,zD,zC,yT,yG,yQ,jF,yA,yM,yO,yV,jD,jC,jB,zG,yL,zY,zB,decide_true,decide_false,Zad,Zae,yP];refine uo.L1 (fun m z5 h' nx'=>∃ i:Nat,z5=I i/\l.length-i=m/\i<=l.length/\h'=h/\nx'=nx/\(l.take i).any pr=false) (m:=l.length) (by omega) ⟨0,rfl,rfl,by omega,rfl,rfl,by simp⟩ ?_;rintro m z2 z3 z5 z6 z7 _ _ R ⟨i,rfl,rfl,hi,rfl,rfl,htk⟩ hR;simp (disch:=omega) only [jr,bg,cO,dw,gy,je,bP,qy,xw,zR,zM,zD,zC,yT,yG,yQ,jF,yA,yM,yO,yV,jD,jC,jB,zG,yL,zY,zB,decide_true,decide_false,Zad,Zae,yP];by_cases hlt:i<l.length
 ·simp only [show (i:Int)<(l.length:Int) by omega,decide_true,zD];have hx:l[i]? = some l[i]:=List.getElem?_eq_getElem hlt;rw [xg rfl hlt,ldL (cZ hx),xJ];refine hcl _ (Zai hlt) _ ?_;cases he:pr l[i] with
  | true =>
   simp only [zD,xw,show (0:Int)<=(i:Int) by omega,decide_true];rw [List.any_eq_true.2 ⟨_,Zai hlt,he⟩] at hK;exact hK
  | false =>
   simp only [zC];refine hR _ _ _ _ _ _ _ _ (by omega) ⟨i+1,rfl,rfl,by omega,rfl,rfl,?_⟩;rw [Zam,hx,List.any_append,htk];simp [he]
 ·simp only [show ¬ (i:Int)<(l.length:Int) by omega,decide_false,zC];rw [uo.k8];rw [Zal (by omega)] at htk;rw [htk] at hK;simp only [xw,show ¬ (0:Int) <= -1 by omega,decide_false];exact hK
theorem zqi {a b:Int} {l:List Int} (hl:l.length<=1000000):Pure Tryz.prog B 166 [I a,I b,encI l] (· = I (if l.any (fun x=>decide (x<a)||decide (b<x)) then 3 else 0)):=by
 refine y8 fun h nx K H0 hK=>zS zW yt 1000 fun hf => ?_;rw [aW.go];refine H0.box (l:=[I a]) rfl fun x1 h1 nx1 H1 => ?_;refine H1.box (l:=[I b]) rfl fun x2 h2 nx2 H2 => ?_;refine zoj (pr:=fun x=>decide (x<a)||decide (b<x)) hl (fun x _ K hK => ?_) ?_
 ·refine jH (p:=.of 215) (K:=K) (zS zW yt 9 fun hf => ?_) fun _ _ _ _ q=>q;show zV tbl 9 _ (Pa.of 215) [I x,.ptr x1 0,.ptr x2 0] _ _ _=_;rw [aX.go,H2.load (k:=1) (i:=0) rfl rfl];by_cases c:x<a
  ·simp only [je,c,decide_true,yQ,zR];simpa [c] using hK
  ·simp only [je,c,decide_false,yG];rw [H2.load (k:=0) (i:=0) rfl rfl];simp only [qy,zM];simpa [c] using hK
 ·refine dS _ _ _ _ _ _ ?_;rintro _ rfl _;exact hK _ _ _ _ _ H2 (zJ rfl) rfl
theorem zqj {cells:Int} {lines:List (List Int)} {i:Nat} {l:List Int} (hi:lines[i]? = some l) (hn:lines.length<=1000000) (hw:∀ q∈lines,q.length<=1000000):Pure Tryz.prog B 168 [.agg [I cells,qg lines],I i] (· = I (jP cells (lines.take i) l)):=by
 refine y8 fun h nx K H0 hK=>zS zW yt 10000000 fun hf => ?_;have hlt:i<lines.length:=(List.getElem?_eq_some_iff.1 hi).1;have hlw:=hw l (Zaa hi);rw [jo.go];refine H0.box (l:=[I cells,qg lines]) rfl fun bx h1 nx1 H1 => ?_;rw [sFx,H1.load (k:=0) (i:=0+1) rfl rfl,xg rfl hlt,ldL (getT hi)];refine H1.alloc fun x h2 nx2 H2 => ?_;refine H2.store (k:=0) rfl (by decide) rfl fun h3 H3 => ?_;rw [H3.load (k:=0) (i:=0) rfl rfl];simp (disch:=omega) only [jr,bg,cO,dw,gy,je,bP,qy,xw,zR,zM,zD,zC,yT,yG,yQ,jF,yA,yM,yO,yV,jD,jC,jB,zG,yL,zY,zB,decide_true,decide_false,Zad,Zae,yP];have ret:∀ (v:Int) h' nx' L,v=jP cells (lines.take i) l->Hp h h' nx' L->K (I v) h' nx'=.ok True:=fun v h' nx' L hv H'=>by rw [hv];exact hK _ _ _ _ _ H' (zJ rfl) rfl
 by_cases h0:l.length=0
 ·simp only [show (l.length:Int)=0 by omega,decide_true,zD];have hl0:l=[]:=Zau h0;exact ret 12 _ _ _ (by rw [jP,if_pos hl0]) H3
 simp only [show ¬ (l.length:Int)=0 by omega,decide_false,zC];have hl0:l≠[]:=fun q=>h0 (by rw [q];rfl);have hcell:yS cells none l≠0->yS cells none l=jP cells (lines.take i) l:=fun h=>by rw [jP,if_neg hl0,if_pos h]
 rw [H3.load (k:=0) (i:=0) rfl rfl];simp (disch:=omega) only [jr,bg,cO,dw,gy,je,bP,qy,xw,zR,zM,zD,zC,yT,yG,yQ,jF,yA,yM,yO,yV,jD,jC,jB,zG,yL,zY,zB,decide_true,decide_false,Zad,Zae,yP];refine jo.L2 (fun m z11 h' nx'=>∃ k:Nat,z11=I k/\l.length-k=m/\k<=l.length/\Hp h h' nx' [.arr x [encI l],.arr bx [I cells,qg lines]]/\yS cells none l=yS cells (pv l k) (l.drop k)) (m:=l.length) (by omega) ⟨0,rfl,rfl,by omega,H3,rfl⟩ ?_;rintro m z3 z5 z6 z7 z11 z12 z13 h1 nx1 R ⟨k,rfl,rfl,hk,H1,hce⟩ hR;simp (disch:=omega) only [jr,bg,cO,dw,gy,je,bP,qy,xw,zR,zM,zD,zC,yT,yG,yQ,jF,yA,yM,yO,yV,jD,jC,jB,zG,yL,zY,zB,decide_true,decide_false,Zad,Zae,yP];by_cases hkt:k<l.length
 case neg =>
  simp only [show ¬ (k:Int)<(l.length:Int) by omega,decide_false,zC];have hz:yS cells none l=0:=by rw [hce,Zbg (by omega)];rfl
  rw [jo.k9,sFx,H1.load (k:=1) (i:=0+1) rfl rfl,zjg (by omega) (by omega)];have ep:AV.lst 1 i ((lines.map encI).take i)=qg (lines.take i):=by
   rw [<- List.map_take];simp [qg,Nat.min_eq_left (Nat.le_of_lt hlt)]
  rw [ep];refine zfv H1 (k:=0) rfl (by rw [Zba];omega) (fun q hq=>hw q (Zcc hq)) ?_;refine dS _ _ _ _ _ _ ?_;rintro _ rfl _;refine ret _ _ _ _ ?_ H1;have e9:jP cells (lines.take i) l=if l∈lines.take i then 9 else 0:=by rw [jP,if_neg hl0,if_neg (by rw [hz];simp)]
  rw [e9];by_cases hin:l∈lines.take i <;> simp [hin]
 simp only [show (k:Int)<(l.length:Int) by omega,decide_true,zD];have hxk:l[k]? = some l[k]:=List.getElem?_eq_getElem hkt;have hdk:l.drop k=l[k]::l.drop (k+1):=Zan hkt;rw [xg rfl hkt,ldL (cZ hxk)]
 have tail:∀ (b1 b2:Bool) (z:AV) (z':AV) (Z:AV->T Blk->Pa->Out Prop),b1=(decide (l[k]<0\/cells<=l[k]))->b2=(pv l k).any (fun q=>decide (l[k]<=q)) ->
   (∀ (e:Int) h' nx',e=(if l[k]<0\/cells<=l[k] then 10 else if (pv l k).any (fun q=>decide (l[k]<=q)) then 11 else 0)->Hp h h' nx' [.arr x [encI l],.arr bx [I cells,qg lines]]->Z (I e) h' nx'=.ok True) ->
   (CS Tryz.prog B).fn 167 (.of 167) [.bool b2,I 11] h1 nx1 (fun v22 h23 n24=>yY 1 2 [(I 0)] [(0,1,I (if b1 then 10 else 0)),(1,1,v22)] h23 n24 fun v25 h26 n27=>(CS Tryz.prog B).fn 165 (.of 165) [v25] h26 n27 Z)=.ok True:=by
  intro b1 b2 z z' Z e1 e2 hZ;refine dS _ _ _ _ _ _ ?_;rintro _ rfl _;refine H1.yc (l:=[I (if b1 then 10 else 0),I (if b2 then 11 else 0)]) rfl fun id h4 nx4 H4 => ?_;refine kK (l:=[if b1 then 10 else 0,if b2 then 11 else 0]) H4 (k:=0) rfl (fun B=>zfu (by simp)) (fun v hv=>by rw [hv];exact .int _ _) ?_;rintro _ rfl;refine hZ _ _ _ ?_ H4.drop;subst e1 e2;by_cases c1:l[k]<0\/cells<=l[k]
  ·simp [c1,gY]
  ·cases c2:(pv l k).any (fun q=>decide (l[k]<=q)) <;> simp [c1,gY]
 have fin:∀ (e:Int) h' nx',e=(if l[k]<0\/cells<=l[k] then 10 else if (pv l k).any (fun q=>decide (l[k]<=q)) then 11 else 0)->Hp h h' nx' [.arr x [encI l],.arr bx [I cells,qg lines]] ->
   (zo .neq .int (I e) (I 0) fun v31=>zT v31 (K (I e) h' nx') (R (jo.fr (.agg [I cells,qg lines]) (I i) (.ptr bx 0) z3 (.ptr x 0) (I k) (I l[k]) (I e) (.bool false) (encI l) (I l.length) (I ((k:Int)+1)) (.bool true) v31) h' nx'))=.ok True:=by
  intro e h' nx' he H';have hstep:yS cells none l=if e≠0 then e else yS cells (some l[k]) (l.drop (k+1)):=by
   rw [hce,hdk,yS,he];by_cases c1:l[k]<0\/cells<=l[k]
   ·simp [c1]
   ·cases c2:(pv l k).any (fun q=>decide (l[k]<=q)) <;> simp [c1]
  simp (disch:=omega) only [jr,bg,cO,dw,gy,je,bP,qy,xw,zR,zM,zD,zC,yT,yG,yQ,jF,yA,yM,yO,yV,jD,jC,jB,zG,yL,zY,zB,decide_true,decide_false,Zad,Zae,yP];by_cases c:e=0
  ·simp only [c,decide_true,Zad,zC];refine hR _ _ _ _ _ _ _ _ _ _ (by omega) ⟨k+1,rfl,rfl,by omega,H',?_⟩;rw [hstep,if_neg (by simp [c]),d4 hkt]
  ·simp only [c,decide_false,Zae,zD];rw [if_pos c] at hstep;exact ret _ _ _ _ (by rw [<- hcell (by rw [hstep];exact c),hstep]) H'
 have mid:∀ b1:Bool,b1=decide (l[k]<0\/cells<=l[k]) ->
   (CS Tryz.prog B).fn 167 (.of 167) [.bool b1,I 10] h1 nx1 (fun v10 h11 n12 =>
    sG (.bool (decide (0<(k:Int)))) true (fun k=>zE (.ptr x 0) h11 k) fun v14=>sG (.bool (decide (0<(k:Int)))) true (fun q=>q (I (k:Int))) fun v15=>sG (.bool (decide (0<(k:Int)))) true (fun k=>zo .sub .int v15 (I 1) k) fun v16=>sG (.bool (decide (0<(k:Int)))) true (fun k=>zO 1 v14 v16 k) fun v17=>sG (.bool (decide (0<(k:Int)))) true (fun k=>zE v17 h11 k) fun v18 =>
    sG (.bool (decide (0<(k:Int)))) true (fun q=>q (I l[k])) fun v19=>sG (.bool (decide (0<(k:Int)))) true (fun k=>zo .geq .int v18 v19 k) fun v20=>jR (.bool (decide (0<(k:Int)))) v20 (.bool false) fun v21 =>
    (CS Tryz.prog B).fn 167 (.of 167) [v21,I 11] h11 n12 fun v22 h23 n24=>yY 1 2 [(I 0)] [(0,1,v10),(1,1,v22)] h23 n24 fun v25 h26 n27=>(CS Tryz.prog B).fn 165 (.of 165) [v25] h26 n27 fun v28 h29 n30 =>
    zo .neq .int v28 (I 0) fun v31=>zT v31 (K v28 h29 n30) (R (jo.fr (.agg [I cells,qg lines]) (I i) (.ptr bx 0) z3 (.ptr x 0) (I k) (I l[k]) v28 (.bool false) (encI l) (I l.length) (I ((k:Int)+1)) (.bool true) v31) h29 n30))=.ok True:=by
  intro b1 e1;refine dS _ _ _ _ _ _ ?_;rintro _ rfl _;by_cases ck:0<k
  ·obtain ⟨k,rfl⟩:∃ j,k=j+1:=⟨k-1,by omega⟩;have hk1:k<l.length:=by omega
   have hxk1:l[k]? = some l[k]:=List.getElem?_eq_getElem hk1;simp only [show (0:Int)<((k+1:Nat):Int) by omega,decide_true,yT,zR];rw [H1.load (k:=0) (i:=0) rfl rfl,bg (by omega),xg (i:=k) (by omega) hk1,ldL (cZ hxk1)];simp only [xw];exact tail _ _ .undef .undef _ e1 (by rw [d4 hk1];rfl) fin
  ·obtain rfl:k=0:=by omega
   simp only [show ¬ (0:Int)<((0:Nat):Int) by omega,decide_false,jF,zM];exact tail _ _ .undef .undef _ e1 rfl fin
 by_cases c:l[k]<0
 ·simp only [je,c,decide_true,yQ,zR];exact mid true (by simp [c])
 ·simp only [je,c,decide_false,yG,sFx];rw [H1.load (k:=1) (i:=0) rfl rfl];simp only [xw,zM];exact mid _ (by simp [c])
theorem zrq {cells:Int} {lines:List (List Int)} (hw:∀ q∈lines,q.length<=1000000):Pure Tryz.prog B 103 [.agg [I cells,qg lines]] (· = I (jE cells lines)):=by
 refine y8 fun h nx K H0 hK=>zS zW yt 10000000 fun hf => ?_;rw [jy.go];refine H0.box (l:=[I cells,qg lines]) rfl fun bx h1 nx1 H1 => ?_;rw [sFx,H1.load (k:=0) (i:=0) rfl rfl,sFx,H1.load (k:=0) (i:=0+1) rfl rfl];simp only [zG,qy];refine H1.yc (l:=[I cells]) rfl fun id h2 nx2 H2 => ?_;simp only [zB,zG];rw [H2.load (k:=1) (i:=0+1) rfl rfl];simp only [zB,sFx];refine zbe (args':=[I 1,I 256,encI [cells]]) (.cons (.int _ _) (.cons (.int _ _) (.cons (jc.frz (H2.own (.arr id [I cells]) (by simp)) (T.bV _ id) (Zak _) rfl (fun v hv=>by simp at hv;subst hv;rfl)) .nil))) rfl (fun B=>zqi (l:=[cells]) (by simp)) (fun v hv=>by rw [hv];exact .int _ _) ?_;rintro _ rfl _;rw [H2.load (k:=1) (i:=0+1) rfl rfl];simp only [zB,zG];refine dS _ _ _ _ _ _ ?_;rintro _ rfl _;refine H2.yc (l:=[I (if [cells].any (fun x=>decide (x<1)||decide (256<x)) then 3 else 0),I (if decide (128<(lines.length:Int)) then 5 else 0)]) rfl fun id3 h3 nx3 H3 => ?_;refine kK (l:=[if [cells].any (fun x=>decide (x<1)||decide (256<x)) then 3 else 0,if decide (128<(lines.length:Int)) then 5 else 0]) H3 (k:=0) rfl (fun B=>zfu (by simp)) (fun v hv=>by rw [hv];exact .int _ _) ?_;rintro _ rfl;have ret:∀ (v:Int) h' nx' L,v=jE cells lines->Hp h h' nx' L->K (I v) h' nx'=.ok True:=fun v h' nx' L hv H'=>by rw [hv];exact hK _ _ _ _ _ H' (zJ rfl) rfl
 have ef:gY [if [cells].any (fun x=>decide (x<1)||decide (256<x)) then 3 else 0,if decide (128<(lines.length:Int)) then 5 else 0]=if cells<1\/256<cells then 3 else if 128<lines.length then 5 else 0:=by
  by_cases c:cells<1\/256<cells
  ·simp [gY,c]
  ·by_cases c2:128<lines.length
   ·have:(128:Int)<(lines.length:Int):=by omega
    simp [gY,c,c2,this]
   ·have:¬ (128:Int)<(lines.length:Int):=by omega
    simp [gY,c,c2,this]
 rw [ef];simp only [gy];by_cases hc:cells<1\/256<cells
 ·simp only [hc,if_true];simp only [show ¬ (3:Int)=0 by omega,decide_false,Zae,zD];exact ret 3 _ _ _ (by rw [jE,if_pos hc]) H3
 simp only [hc,if_false];by_cases hm:128<lines.length
 ·simp only [hm,if_true];simp only [show ¬ (5:Int)=0 by omega,decide_false,Zae,zD];exact ret 5 _ _ _ (by rw [jE,if_neg hc,if_pos hm]) H3
 simp only [hm,if_false,decide_true,Zad,zC];rw [H3.load (k:=2) (i:=0+1) rfl rfl];simp only [zG];have hs:jE cells lines=gS cells [] lines:=by rw [jE,if_neg hc,if_neg hm]
 refine jy.L2 (fun m z8 h' nx'=>∃ i:Nat,z8=I i/\lines.length-i=m/\i<=lines.length/\Hp h h' nx' [.arr bx [I cells,qg lines]]/\jE cells lines=gS cells (lines.take i) (lines.drop i)) (m:=lines.length) (by omega) ⟨0,rfl,rfl,by omega,H3.drop.drop,by simpa using hs⟩ ?_;rintro m z2 z4 z5 z8 z9 z10 h4 nx4 R ⟨i,rfl,rfl,hi,H4,he⟩ hR;simp (disch:=omega) only [jr,bg,cO,dw,gy,je,bP,qy,xw,zR,zM,zD,zC,yT,yG,yQ,jF,yA,yM,yO,yV,jD,jC,jB,zG,yL,zY,zB,decide_true,decide_false,Zad,Zae,yP];by_cases hlt:i<lines.length
 case neg =>
  simp only [show ¬ (i:Int)<(lines.length:Int) by omega,decide_false,zC];rw [jy.k9];exact ret 0 _ _ _ (by rw [he,Zbg (by omega)];rfl) H4
 simp only [show (i:Int)<(lines.length:Int) by omega,decide_true,zD];obtain ⟨l,hx⟩:∃ l,lines[i]? = some l:=⟨_,List.getElem?_eq_getElem hlt⟩;have hd:lines.drop i=l::lines.drop (i+1):=by
  rw [Zan hlt];rw [List.getElem?_eq_getElem hlt] at hx;rw [Option.some.inj hx]
 have htake:lines.take (i+1)=lines.take i++[l]:=by rw [Zam,hx];rfl
 rw [H4.zi (k:=0) (n:=2) rfl rfl];refine zqj hx (by omega) hw _ _ _ _ ?_;rintro _ rfl _;simp only [gy];by_cases c:jP cells (lines.take i) l=0
 ·simp only [c,decide_true,Zad,zC];refine hR _ _ _ _ _ _ _ _ _ (by omega) ⟨i+1,rfl,rfl,by omega,H4,?_⟩;rw [he,hd,gS,if_neg (by rw [c];simp),htake]
 ·simp only [c,decide_false,Zae,zD];exact ret _ _ _ _ (by rw [he,hd,gS,if_pos c]) H4
theorem zv9 {l:List Int}:∀ v∈l.map I,fO v=true:=fun v hv=>by obtain ⟨x,_,rfl⟩:=List.mem_map.1 hv;rfl
theorem zok (op:KW3->OP) (h:T Blk) (nx:Pa) (k:KW3):sGW (.bool true) false op h nx k=k .undef h nx:=nr rfl
theorem zjh (op:KW3->OP) (h:T Blk) (nx:Pa) (k:KW3):sGW (.bool false) false op h nx k=op k:=nr rfl
theorem zji (op:KW3->OP) (h:T Blk) (nx:Pa) (k:KW3):sGW (.bool true) true op h nx k=op k:=nr rfl
theorem zjj (op:KW3->OP) (h:T Blk) (nx:Pa) (k:KW3):sGW (.bool false) true op h nx k=k .undef h nx:=nr rfl
theorem zfw (n:Int):Pure Tryz.prog B 25 [I n] (· = I (if n<0\/256<n then 3 else 0)):=by
 intro p h nx K hK;refine zS zW yt 10 fun hf => ?_;rw [F25.go];simp only [je];by_cases c:n<0
 ·simp only [c,decide_true,yQ,zR,zD];exact hK _ (by rw [if_pos (.inl c)]) hf
 ·simp only [c,decide_false,yG,qy,zM];by_cases c2:256<n
  ·simp only [c2,decide_true,zD];exact hK _ (by rw [if_pos (.inr c2)]) hf
  ·simp only [c2,decide_false,zC];exact hK _ (by rw [if_neg (by omega)]) hf
def fA (l:List Int):Prop:=l.Nodup/\∀ x∈l,0<=x/\x<(l.length:Int)
def oh (n:Nat) (l:List Int):List Bool:=l.foldl (fun s x=>s.set x.toNat true) (List.replicate n false)
theorem zfx:∀ (l:List Int) (s:List Bool) (k:Nat),(∀ x∈l,0<=x)->k<s.length->(l.foldl (fun s x=>s.set x.toNat true) s)[k]? = some (s.getD k false||decide ((k:Int)∈l))
 | [],s,k,_,h=>by
  rw [List.foldl_nil,List.getElem?_eq_getElem h,Zac,List.getElem?_eq_getElem h];simp
 | x::l,s,k,hl,h=>by
  rw [List.foldl_cons,zfx l _ k (fun y hy=>hl y (Zao _ hy)) (by simpa using h)];have h0:=hl x (Zaj ..)
  congr 1
  rw [Zac,Zac,List.getElem?_set];by_cases e:x.toNat=k
  ·have:(k:Int)=x:=by omega
   rw [if_pos e,if_pos (by omega)];simp [this]
  ·have:¬ (k:Int)=x:=by omega
   rw [if_neg e];simp [this]
theorem mV (n:Nat) (l:List Int):(oh n l).length=n:=by
 have:∀ (l:List Int) (s:List Bool),(l.foldl (fun s x=>s.set x.toNat true) s).length=s.length:=by
  intro l
  induction l with
  | nil=>intro s;rfl
  | cons x l ih=>intro s;rw [List.foldl_cons,ih];simp
 rw [oh,this];simp
theorem zfy {n:Nat} {l:List Int} {k:Nat} (hl:∀ x∈l,0<=x) (hk:k<n):(oh n l)[k]? = some (decide ((k:Int)∈l)):=by
 rw [oh,zfx l _ k hl (by simpa using hk)]
 congr 1
 rw [Zac,List.getElem?_replicate,if_pos hk];simp
theorem zc0 (n:Nat) (l:List Int) (x:Int):oh n (l++[x])=(oh n l).set x.toNat true:=by simp [oh]
def xOf (n:Nat) (c:Bool) (x:Int):Int:=if c then (n:Int)+1-x else x
def kX (n:Nat) (c:Bool) (g f:List Int) (i:Nat):List Int:=(List.range i).foldl (fun o k=>o.set (g.getD k 0).toNat (xOf n c (f.getD k 0))) (List.replicate n 0)
theorem xZ (n:Nat) (c:Bool) (g f:List Int) (i:Nat):kX n c g f (i+1)=(kX n c g f i).set (g.getD i 0).toNat (xOf n c (f.getD i 0)):=by
 simp [kX,List.range_succ]
theorem uU (n:Nat) (c:Bool) (g f:List Int):∀ i,(kX n c g f i).length=n
 | 0=>by simp [kX]
 | i+1=>by rw [xZ];simp [uU n c g f i]
def zbr (c:Bool) (g f:List Int):List Int:=kX f.length c g f f.length
end Go.Ev
namespace Go.Ev
open Go
theorem sAx0 {K:AV->OP} {id:Pa} {off:Nat}:dF 1 2 (.ptr id off) (I 0) K=K (.ptr id off):=by
 show (bif Nat.ble (0+1) 2 then qo (off+0*1) (fun o=>K (.ptr id o)) else .no 14)=_;rw [Zab (by omega),yD];simp
theorem sAx1 {K:AV->OP} {id:Pa} {off:Nat}:dF 1 2 (.ptr id off) (I 1) K=K (.ptr id (off+1)):=by
 show (bif Nat.ble (1+1) 2 then qo (off+1*1) (fun o=>K (.ptr id o)) else .no 14)=_;rw [Zab (by omega),yD];simp
theorem uV {a b:AV} {l:List AV} {h:T Blk} {K:AV->OP}:zH 2 (.fp (a::b::l)) h K=K (.agg [a,b]):=nr rfl
end Go.Ev
namespace Go.Ev
abbrev srt (l:List Int):List Int:=l.mergeSort fun x y=>decide (x<=y)
theorem zbs {l l':List Int} (hp:l'.Perm l) (hs:l'.Pairwise (· <= ·)):l'=srt l:=by
 refine (hp.trans (List.mergeSort_perm l _).symm).eq_of_pairwise (le:=(· <= ·)) ?_ hs ?_
 ·intro a b _ _ h1 h2;omega
 ·have:=List.pairwise_mergeSort (le:=fun x y:Int=>decide (x<=y)) (by intro a b c;simp;omega) (by intro a b;simp;omega) l;exact this.imp (by intro a b h;simpa using h)
theorem uQ (l:List Int):(srt l).Perm l:=List.mergeSort_perm l _
structure Ins (l out:List Int) (i k:Nat):Prop where
 perm:out.Perm l
 ex:∃ (A:List Int) (x:Int) (B R:List Int),out=A++x::(B++R)/\A.length=k/\A.length+B.length=i/\(A++B).Pairwise (· <= ·)/\∀ b∈B,x<b
theorem Ins.start {l out:List Int} {i:Nat} (hp:out.Perm l) (hi:i<out.length) (hs:(out.take i).Pairwise (· <= ·)):Ins l out i i :=
 ⟨hp,out.take i,out[i],[],out.drop (i+1),by simp,by simp;omega,by simp;omega,by simpa using hs,by simp⟩
theorem Ins.swap {l out:List Int} {i k:Nat} (H:Ins l out i (k+1)) {a x:Int} (ha:out[k]? = some a) (hx:out[k+1]? = some x) (hlt:x<a):Ins l ((out.set (k+1) a).set k x) i k:=by
 obtain ⟨hp,A,x',B,R,rfl,hA,hi,hs,hb⟩:=H;obtain ⟨A,a',rfl⟩:∃ A' a',A=A'++[a']:=⟨A.dropLast,A.getLast (by intro q;rw [q] at hA;simp at hA),(List.dropLast_concat_getLast _).symm⟩;have hA':A.length=k:=by simpa using hA
 have e1:a'=a:=by
  rw [Zbn,List.getElem?_append_right (by omega),hA',Nat.sub_self] at ha;simpa using ha
 have e2:x'=x:=by
  rw [List.getElem?_append_right (by simp;omega)] at hx;simp [hA'] at hx;exact hx
 subst e1 e2;have e3:((A++[a']++x'::(B++R)).set (k+1) a').set k x'=A++x'::((a'::B)++R):=by
  have h1:(A++[a']++x'::(B++R)).set (k+1) a'=A++a'::a'::(B++R):=by
   rw [Zbn,List.set_append_right _ _ (by omega),hA',show k+1-k=1 by omega];rfl
  rw [h1,List.set_append_right _ _ (by omega),hA',Nat.sub_self];rfl
 rw [e3];refine ⟨List.Perm.trans ?_ hp,A,x',a'::B,R,rfl,hA',by simp at hi ⊢;omega,by simpa [Zbn] using hs,?_⟩
 ·rw [Zbn];refine List.Perm.append_left A ?_;exact List.Perm.swap _ _ _
 ·intro b hb';rcases List.mem_cons.1 hb' with rfl | q
  ·exact hlt
  ·exact hb b q
theorem Ins.done {l out:List Int} {i k:Nat} (H:Ins l out i k) (h:k=0\/∃ j a x,k=j+1/\out[j]? = some a/\out[k]? = some x/\¬ x<a):out.Perm l/\(out.take (i+1)).Pairwise (· <= ·):=by
 obtain ⟨hp,A,x,B,R,rfl,hA,hi,hs,hb⟩:=H;refine ⟨hp,?_⟩;have e:(A++x::(B++R)).take (i+1)=A++x::B:=by
  rw [show A++x::(B++R)=(A++x::B)++R by simp];exact List.take_left' (by simp;omega)
 rw [e];have hs':=List.pairwise_append.1 hs;refine List.pairwise_append.2 ⟨hs'.1,List.pairwise_cons.2 ⟨fun b hb'=>by have:=hb b hb';omega,hs'.2.1⟩,?_⟩;have key:∀ a∈A,a<=x:=by
  rcases h with rfl | ⟨j,a0,x0,rfl,h1,h2,h3⟩
  ·obtain rfl:A=[]:=Zau hA;simp
  ·obtain ⟨A,a',rfl⟩:∃ A' a',A=A'++[a']:=⟨A.dropLast,A.getLast (by intro q;rw [q] at hA;simp at hA),(List.dropLast_concat_getLast _).symm⟩;have hA':A.length=j:=by simpa using hA
   have e1:a'=a0:=by
    rw [Zbn,List.getElem?_append_right (by omega),hA',Nat.sub_self] at h1;simpa using h1
   have e2:x=x0:=by
    rw [List.getElem?_append_right (by simp;omega)] at h2;simp [hA'] at h2;exact h2
   subst e1 e2;intro a ha;rcases List.mem_append.1 ha with q | q
   ·have:=(List.pairwise_append.1 hs'.1).2.2 a q a' (by simp);omega
   ·simp at q;omega
 intro a ha b hb';rcases List.mem_cons.1 hb' with rfl | q
 ·exact key a ha
 ·exact hs'.2.2 a ha b q
def incr (d:List Int) (c:Int):List Int:=d.set c.toNat (d.getD c.toNat 0+1)
@[simp] theorem zrr (d:List Int) (c:Int):(incr d c).length=d.length:=by simp [incr]
def Bd (d:List Int) (M:Nat):Prop:=∀ v∈d,0<=v/\v<=(M:Int)
theorem Bd.incr {d:List Int} {M:Nat} (h:Bd d M) {c:Int} (hc:c.toNat<d.length):Bd (incr d c) (M+1):=by
 intro v hv;rcases List.mem_or_eq_of_mem_set hv with q | rfl
 ·have:=h v q;omega
 ·rw [Zac,List.getElem?_eq_getElem hc];have:=h _ (Zai hc);simp only [Option.getD_some];omega
theorem Bd.mono {d:List Int} {M N:Nat} (h:Bd d M) (hm:M<=N):Bd d N:=fun v hv=>by have:=h v hv;omega
theorem Bd.srt {d:List Int} {M:Nat} (h:Bd d M):Bd (Ev.srt d) M:=fun v hv=>h v ((uQ d).mem_iff.1 hv)
@[simp] theorem ztm (d:List Int):(Ev.srt d).length=d.length:=(uQ d).length_eq
def jV:List Int->List Int->Bool
 | _,[]=>false
 | [],_::_=>true
 | a::xs,b::ys=>if a=b then jV xs ys else decide (a<b)
theorem dI:∀ (i:Nat) (a b:List Int),a.take i=b.take i->i<=a.length->i<=b.length->jV a b=jV (a.drop i) (b.drop i)
 | 0,a,b,_,_,_=>rfl
 | i+1,a::xs,b::ys,h,h1,h2=>by
  simp only [List.take_succ_cons,List.cons.injEq] at h;rw [jV,if_pos h.1,List.drop_succ_cons,List.drop_succ_cons];exact dI i xs ys h.2 (by simpa using h1) (by simpa using h2)
 | i+1,[],_,_,h1,_=>by simp at h1
 | i+1,_::_,[],_,_,h2=>by simp at h2
def cmpL (a b:List Int):Int:=if jV a b then -1 else if a=b then 0 else 1
theorem zfz:∀ (l r:List Int),l.Nodup->(∀ x∈l,x∈r)->∃ s,r.Perm (l++s)
 | [],r,_,_=>⟨r,.refl _⟩
 | a::l,r,hn,hs=>by
  obtain ⟨h1,h2⟩:=List.nodup_cons.1 hn;have ha:=hs a (by simp);obtain ⟨s,hp⟩:=zfz l (r.erase a) h2 fun x hx=>(List.mem_erase_of_ne (by rintro rfl;exact h1 hx)).2 (hs x (by simp [hx]));exact ⟨s,(List.perm_cons_erase ha).trans (.cons a hp)⟩
def Rv (l cur:List Int) (i:Nat):Prop:=cur.length=l.length/\∀ t,t<l.length->cur[t]? = if t<i\/l.length<=t+i then l[l.length-1-t]? else l[t]?
theorem Rv.start (l:List Int):Rv l l 0:=⟨rfl,fun t ht=>by rw [if_neg (by omega)]⟩
theorem Rv.done {l cur:List Int} {i:Nat} (h:Rv l cur i) (hi:l.length<=2*i+1):cur=l.reverse:=by
 refine Zay fun t => ?_;by_cases ht:t<l.length
 ·rw [h.2 t ht,List.getElem?_reverse ht];by_cases c:t<i\/l.length<=t+i
  ·rw [if_pos c]
  ·rw [if_neg c,show l.length-1-t=t by omega]
 ·rw [List.getElem?_eq_none (by rw [h.1];omega),List.getElem?_eq_none (by simp;omega)]
theorem Rv.step {l cur:List Int} {i j:Nat} {a b:Int} (h:Rv l cur i) (hij:i<j) (hs:i+j+1=l.length) (ha:cur[i]? = some a) (hb:cur[j]? = some b):Rv l ((cur.set i b).set j a) (i+1):=by
 obtain ⟨hl,hg⟩:=h;refine ⟨by simp [hl],fun t ht => ?_⟩;have e1:=hg i (by omega);have e2:=hg j (by omega);rw [if_neg (by omega),ha] at e1;rw [if_neg (by omega),hb] at e2;rw [List.getElem?_set,List.getElem?_set,List.length_set];by_cases c1:j=t
 ·subst c1;rw [if_pos rfl,if_pos (by omega),if_pos (by omega),show l.length-1-j=i by omega];exact e1
 ·rw [if_neg c1];by_cases c2:i=t
  ·subst c2;rw [if_pos rfl,if_pos (by omega),if_pos (by omega),show l.length-1-i=j by omega];exact e2
  ·rw [if_neg c2,hg t ht];by_cases c3:t<i\/l.length<=t+i
   ·rw [if_pos c3,if_pos (by omega)]
   ·rw [if_neg c3,if_neg (by omega)]
end Go.Ev
namespace Go.Ev
open Go Go.Proofs
variable {B:Nat}
theorem Hp.zol {h0 h:T Blk} {nx:Pa} {L:List Ob} {K:AV->T Blk->Pa->OP} {z w:AV} {new:List AV} {c bytes:Nat} (H:Hp h0 h nx L) (hr:∀ e h1 n1,Hp h0 h1 n1 (.arr e []::L)->∀ (no:OP) (K':List AV->Nat->OP),kI w h1 no K'=K' new c) (hl:new.length=c) (hs:new.all jf=true) (hb:bytes*1000000<=70368744177664) (hc:c<=1000000)
  (hK:∀ id cap h' nx',pL c cap->Hp h0 h' nx' (.arr id new::L)->K (.sl id 0 c cap 1) h' nx'=.ok True) :
  (yY 1 0 [z] [] h nx fun v1 h1 n1=>tq 1 bytes v1 w h1 n1 K)=.ok True:=by
 refine H.yc (l:=[]) rfl fun e h1 n1 H1 => ?_;unfold tq eP;rw [hr _ _ _ H1];have hcc:(Nat.ble (bytes*1000000) 70368744177664&&Nat.beq new.length (c*1)&&Nat.ble 1 1&&new.all jf)=true:=by
  simp only [Zag,hs,and_true];exact ⟨⟨Zab hb,by rw [hl,Zce];exact Zbd _⟩,rfl⟩
 rw [hcc,cond_true];obtain ⟨op,t,g1,g2⟩:jc h1 e []:=H1.own _ (Zaj ..);show (bif Nat.beq 1 1&&Nat.ble (0+c) 1000000 then jg (T.get .no e h1) _ (.no 35) else .no 36)=_;rw [g1,Zab (by omega)];show (bif Nat.ble (0+c) 0 then (bif Nat.ble (0+(0+c)*1) 0 then kF e 0 0 (some 0) 1 op 0 t new c h1 n1 _ else .no 32) else uP 0 0 1 t new c h1 n1 _)=_;by_cases hc0:c=0
 ·subst hc0;obtain rfl:new=[]:=Zau hl;rw [show Nat.ble (0+0) 0=true from rfl,cond_true,cond_true];unfold kF;rw [yW,T.yu,yD];exact hK e (some 0) _ _ (Zak _) (H1.upd (k:=0) (x':=.arr e []) rfl (by simp [Ob.names]) rfl ⟨op,_,T.get_set_same _ _ _ _,rfl⟩)
 ·rw [bleF (by omega),cond_false];unfold uP;rw [yH,yD];rw [Zaw]
  have H2:Hp h0 (T.set .no (.cells true new.length (jI new .e 0)) n1 h1) n1.succ (.arr n1 new::L) :=
   Hp.new (x:=.arr n1 new) H1.drop rfl fun h' q=>⟨_,_,q,kH new⟩
  exact hK n1 none _ _ trivial H2
theorem pA (x:Int):Pure Tryz.prog B 250 [I x] (· = .bool false):=by
 intro p h nx K hK;refine zS zW yt 9 fun hf => ?_;rw [aZ.go];simp only [gy,decide_true,Zad];exact hK _ rfl hf
theorem ztn (x y:Int):Pure Tryz.prog B 244 [I x,I y] (· = I (if x<y then -1 else if x=y then 0 else 1)):=by
 intro p h nx K hK;refine zS zW yt 9 fun hf => ?_;rw [fD.go];refine pA x _ _ _ _ ?_;rintro _ rfl _;refine pA y _ _ _ _ ?_;rintro _ rfl _;simp only [zC,je];by_cases c1:x<y
 ·simp only [c1,decide_true,zD];exact hK _ (by rw [if_pos c1]) hf
 ·simp only [c1,decide_false,zC,qy];by_cases c2:y<x
  ·simp only [c2,decide_true,zD];exact hK _ (by rw [if_neg c1,if_neg (by omega)]) hf
  ·simp only [c2,decide_false,zC];exact hK _ (by rw [if_neg c1,if_pos (by omega)]) hf
theorem zkv {a b:List Int} (ha:a.length<=1000000) (hb:b.length<=1000000):Pure Tryz.prog B 201 [encI a,encI b] (· = I (cmpL a b)):=by
 intro p h nx K hK;refine zS zW yt 10000000 fun hf => ?_;rw [ji.go];simp (disch:=omega) only [jr,bg,cO,dw,gy,je,bP,qy,xw,zR,zM,zD,zC,yT,yG,yQ,jF,yA,yM,yO,yV,jD,jC,jB,zG,yL,zY,zB,decide_true,decide_false,Zad,Zae,yP];refine ji.L1 (fun m z9 h' nx'=>∃ i:Nat,z9=I i/\a.length-i=m/\i<=a.length/\i<=b.length/\h'=h/\nx'=nx/\a.take i=b.take i) (m:=a.length) (by omega) ⟨0,rfl,rfl,by omega,by omega,rfl,rfl,rfl⟩ ?_;rintro m z2 z3 z4 z5 z6 z9 z10 z11 z12 _ _ R ⟨i,rfl,rfl,hi,hib,rfl,rfl,htk⟩ hR;have hsk:=dI i a b htk hi hib;simp (disch:=omega) only [jr,bg,cO,dw,gy,je,bP,qy,xw,zR,zM,zD,zC,yT,yG,yQ,jF,yA,yM,yO,yV,jD,jC,jB,zG,yL,zY,zB,decide_true,decide_false,Zad,Zae,yP];by_cases hlt:i<a.length
 ·simp only [show (i:Int)<(a.length:Int) by omega,decide_true,zD];have hx:a[i]? = some a[i]:=List.getElem?_eq_getElem hlt;have hda:a.drop i=a[i]::a.drop (i+1):=Zan hlt;rw [xg rfl hlt,ldL (cZ hx)];by_cases hb2:b.length<=i
  ·simp only [zG,xw,show (b.length:Int)<=(i:Int) by omega,decide_true,zD];refine hK _ ?_ hf;rw [hda,Zbg hb2,jV] at hsk;rw [cmpL,hsk,if_neg (by simp),if_neg (by rintro rfl;omega)]
  ·simp only [zG,xw,show ¬ (b.length:Int)<=(i:Int) by omega,decide_false,zC];have hxb:b[i]? = some b[i]:=List.getElem?_eq_getElem (by omega);have hdb:b.drop i=b[i]::b.drop (i+1):=Zan (by omega);rw [xg rfl (by omega),ldL (cZ hxb)];refine ztn _ _ _ _ _ _ ?_;rintro _ rfl _;rw [hda,hdb,jV] at hsk;simp only [gy];by_cases c1:a[i]=b[i]
   ·have e0:(if a[i]<b[i] then (-1:Int) else if a[i]=b[i] then 0 else 1)=0:=by rw [if_neg (by omega),if_pos c1]
    rw [e0];simp only [decide_true,Zad,zC]
    try rw [jr (by omega)]
    refine hR _ _ _ _ _ _ _ _ _ _ _ _ (by omega) ⟨i+1,rfl,rfl,by omega,by omega,rfl,rfl,?_⟩;rw [Zam,Zam,htk,hx,hxb,c1]
   ·have e1:¬ (if a[i]<b[i] then (-1:Int) else if a[i]=b[i] then 0 else 1)=0:=by
     by_cases c:a[i]<b[i]
     ·rw [if_pos c];omega
     ·rw [if_neg c,if_neg c1];omega
    simp only [e1,decide_false,Zae,zD];refine hK _ ?_ hf;rw [if_neg c1] at hsk;rw [cmpL,hsk];by_cases c:a[i]<b[i]
    ·simp [c]
    ·rw [if_neg c,if_neg c1,if_neg (by simp [c]),if_neg (by rintro rfl;exact c1 rfl)]
 ·simp only [show ¬ (i:Int)<(a.length:Int) by omega,decide_false,zC];rw [ji.k9];simp (disch:=omega) only [jr,bg,cO,dw,gy,je,bP,qy,xw,zR,zM,zD,zC,yT,yG,yQ,jF,yA,yM,yO,yV,jD,jC,jB,zG,yL,zY,zB,decide_true,decide_false,Zad,Zae,yP];rw [Zbg (show a.length<=i by omega)] at hsk;by_cases c:a.length<b.length
  ·simp only [show (a.length:Int)<(b.length:Int) by omega,decide_true,zD];refine hK _ ?_ hf;have hd:b.drop i=b[i]::b.drop (i+1):=Zan (by omega);rw [hd,jV] at hsk;rw [cmpL,hsk,if_pos rfl]
  ·simp only [show ¬ (a.length:Int)<(b.length:Int) by omega,decide_false,zC];refine hK _ ?_ hf;rw [Zbg (show b.length<=i by omega),jV] at hsk;have:a=b:=by
    rw [Zal (by omega),Zal (by omega)] at htk;exact htk
   rw [cmpL,hsk,if_neg (by simp),if_pos this]
theorem zom {a b:List Int} (ha:a.length<=1000000) (hb:b.length<=1000000):Pure Tryz.prog B 88 [encI a,encI b] (· = .bool (jV a b)):=by
 intro p h nx K hK;refine zS zW yt 10000000 fun hf => ?_;rw [F88.go];refine F88.L1 (fun m z3 h' nx'=>∃ i:Nat,z3=I i/\a.length-i=m/\i<=a.length/\i<=b.length/\h'=h/\nx'=nx/\a.take i=b.take i) (m:=a.length) (by omega) ⟨0,rfl,rfl,by omega,by omega,rfl,rfl,rfl⟩ ?_;rintro m z2 z3 z4 z5 h1 nx1 R ⟨i,rfl,rfl,hi,hib,rfl,rfl,htk⟩ hR;have hsk:=dI i a b htk hi hib;simp (disch:=omega) only [jr,bg,cO,dw,gy,je,bP,qy,xw,zR,zM,zD,zC,yT,yG,yQ,jF,yA,yM,yO,yV,jD,jC,jB,zG,yL,zY,zB,decide_true,decide_false,Zad,Zae,yP];have out:(a.length<=i\/b.length<=i)->∀ w4,IR.run F88.b8 (CS Tryz.prog B) 10000000 (fnO F88.res K) (wu F88.res K) (F88.fr (encI a) (encI b) z2 (I i) w4 z5) h1 nx1=.ok True:=by
  intro ho w4;rw [F88.k8];simp (disch:=omega) only [jr,bg,cO,dw,gy,je,bP,qy,xw,zR,zM,zD,zC,yT,yG,yQ,jF,yA,yM,yO,yV,jD,jC,jB,zG,yL,zY,zB,decide_true,decide_false,Zad,Zae,yP];refine hK _ ?_ hf;rw [hsk];by_cases c1:b.length<=i
  ·rw [Zbg c1];have:jV (a.drop i) []=false:=by cases a.drop i <;> rfl
   rw [this,decide_eq_false (by omega)]
  ·rw [Zbg (show a.length<=i by omega),Zan (show i<b.length by omega),jV,decide_eq_true (by omega)]
 by_cases hla:i<a.length
 case neg =>
  simp only [show ¬ (i:Int)<(a.length:Int) by omega,decide_false,jF,zM,zC];exact out (.inl (by omega)) _
 simp only [show (i:Int)<(a.length:Int) by omega,decide_true,yT,zG,je,zR];by_cases hlb:i<b.length
 case neg =>
  simp only [show ¬ (i:Int)<(b.length:Int) by omega,decide_false,zC];exact out (.inr (by omega)) _
 simp only [show (i:Int)<(b.length:Int) by omega,decide_true,zD];have hx:a[i]? = some a[i]:=List.getElem?_eq_getElem hla;have hxb:b[i]? = some b[i]:=List.getElem?_eq_getElem hlb;rw [Zan hla,Zan hlb,jV] at hsk;rw [F88.k4,xg rfl hla,ldL (cZ hx),xg rfl hlb,ldL (cZ hxb)];simp only [gy];by_cases c:a[i]=b[i]
 ·simp only [c,decide_true,Zad,zC]
  try rw [jr (by omega)]
  refine hR _ _ _ _ _ _ _ (by omega) ⟨i+1,rfl,rfl,by omega,by omega,rfl,rfl,?_⟩;rw [Zam,Zam,htk,hx,hxb,c]
 ·simp only [c,decide_false,Zae,zD];rw [xg rfl hla,ldL (cZ hx),xg rfl hlb,ldL (cZ hxb)];simp only [je];exact hK _ (by rw [hsk,if_neg c]) hf
theorem zkw {h:T Blk} (a:AV) (l:List AV) (K:AV->OP):zE (.fp (a::l)) h K=K a:=nr rfl
theorem zkx {P:Program} {id:Pa} {args:List AV} {h:T Blk} {nx:Pa} {K:Kw Prop}:vQ (CS P B) (.yld id) args h nx K=(CS P B).yld id args h nx K:=nr rfl
theorem Hp.aG {h0 h:T Blk} {nx:Pa} {L:List Ob} (H:Hp h0 h nx L) (e:Nat):Hp h0 h nx (.gro none e 0 []::L) :=
  ⟨H.keep,fun x hx=>by rcases List.mem_cons.1 hx with rfl | q;· exact ⟨rfl,rfl⟩
                       · exact H.own x q,fun n hn=>H.off n (by simpa [Ob.names] using hn),by have:=H.nd;simpa [Ob.names] using this,H.fr⟩
theorem vJ {h0 h:T Blk} {nx:Pa} {L:List Ob} {id:Pa} {b:Blk} {k:Nat} (H:Hp h0 h nx L) (hk:L[k]? = some (.raw id b)):T.get .no id h=b:=(H.own _ (Zaa hk)).1
theorem Hp.zhx {h0 h:T Blk} {nx:Pa} {L:List Ob} {id:Pa} {b b':Blk} {k:Nat} (H:Hp h0 h nx L) (hk:L[k]? = some (.raw id b)) (hb:b'≠.no):Hp h0 (T.set .no b' id h) nx (L.set k (.raw id b')) :=
 H.upd hk (by simp [Ob.names]) rfl ⟨T.get_set_same _ _ _ _,hb⟩
theorem zon {k:IntKind} {x:Nat} {K:AV->OP}:zll .u8 (.int k (x:Int)) K=K (u8 (x%256)):=by
 show dh (wE .u8 (x:Int)) (fun z=>K (.int .u8 z))=_;rw [pB,zbm,IntKind.wrap_u8];have:u8 (x%256)=.int .u8 ((x:Int)%256):=by unfold u8;congr 1
 rw [this]
theorem zqk {N:Pa->Prop} {O:AV->Prop} {hh:T Blk} {l:List AV} (h:∀ v∈l,fO v=true):Frz True N O hh (.agg l) (.agg l) :=
 .agg _ _ rfl (List.all_eq_true.2 fun v hv=>fO.jf (h v hv)) fun i v v' h1 h2=>by rw [h1] at h2;cases h2;exact zJ (h v (Zaa h1))
abbrev Sym:=List Int×Bool
abbrev encS (g:Sym):AV:=.agg [encI g.1,.bool g.2]
def yN (G:List Sym):List AV:=G.flatMap fun g=>[encI g.1,.bool g.2]
abbrev jd (G:List Sym):AV:=.lst 2 G.length (yN G)
theorem dL:∀ (q:List Sym) (i:Nat),(yN q).drop (i*2)=yN (q.drop i)
 | q,0=>by simp
 | [],i+1=>by simp [yN]
 | p::q,i+1=>by
  rw [List.drop_succ_cons,<- dL q i,show (i+1)*2=i*2+1+1 by omega]
  rfl
theorem jU {q:List Sym} {i:Nat} (h:i<q.length):(yN q).drop (i*2)=encI q[i].1::.bool q[i].2::(yN q).drop ((i+1)*2):=by
 rw [dL,dL,Zan h];rfl
instance (l:List Int):Decidable (fA l):=by unfold fA;infer_instance
def uB (l:List Int):Int:=if 256<l.length then 5 else if fA l then 0 else 14
theorem zql {l:List Int} (hl:l.length<=100000):Pure Tryz.prog B 93 [encI l] (· = I (uB l)):=by
 refine y8 fun h nx K H0 hK=>zS zW yt 1000000 fun hf => ?_;rw [F93.go];simp only [zG,qy];by_cases c:(256:Int)<(l.length:Int)
 ·simp only [c,decide_true,zD];exact hK _ _ _ _ _ H0 (zJ rfl) (by rw [uB,if_pos (by omega)])
 have hpe:uB l=if fA l then 0 else 14:=by rw [uB,if_neg (by omega)]
 simp only [c,decide_false,zC];refine H0.mk1 l.length rfl rfl (by omega) (by decide) fun tb h1 nx1 H1 => ?_;have e0:List.replicate l.length (AV.bool false)=(oh l.length []).map AV.bool:=by simp [oh]
 rw [e0] at H1
 refine F93.L2 (fun m x3 h' nx'=>∃ i:Nat,x3=I i/\m=l.length-i/\i<=l.length/\(l.take i).Nodup/\(∀ x∈l.take i,0<=x/\x<(l.length:Int))/\Hp h h' nx' [.arr tb ((oh l.length (l.take i)).map AV.bool)]) (m:=l.length) (by omega)
  ⟨0,rfl,by omega,by omega,by simp,by simp,by simpa using H1⟩ ?_
 rintro m x1 x3 x5 x6 h2 nx2 R ⟨i,rfl,rfl,hi,hnd,hrg,H2⟩ hR;simp only [zG,je];by_cases hlt:i<l.length
 case neg =>
  simp only [show ¬ (i:Int)<(l.length:Int) by omega,decide_false,zC];rw [F93.k10];rw [Zal (by omega)] at hnd hrg;exact hK _ _ _ _ _ H2 (zJ rfl) (by rw [hpe,if_pos ⟨hnd,hrg⟩])
 simp only [show (i:Int)<(l.length:Int) by omega,decide_true,zD];have hx:l[i]? = some l[i]:=List.getElem?_eq_getElem hlt;have bad:¬ fA l->K (I 14) h2 nx2=.ok True:=fun q=>hK _ _ _ _ _ H2 (zJ rfl) (by rw [hpe,if_neg q]);have hrange:fA l->0<=l[i]/\l[i]<(l.length:Int):=fun q=>q.2 _ (Zai hlt);rw [xg rfl hlt,ldL (cZ hx)];by_cases c1:l[i]<0
 ·simp only [je,c1,decide_true,yQ,zR,zD];exact bad fun q=>by have:=hrange q;omega
 simp only [je,c1,decide_false,yG];rw [xg rfl hlt,ldL (cZ hx)];simp only [zG,xw,zM];by_cases c2:(l.length:Int)<=l[i]
 ·simp only [c2,decide_true,yQ,zR,zD];exact bad fun q=>by have:=hrange q;omega
 simp only [c2,decide_false,yG];have hk:(l[i]).toNat<l.length:=by omega
 have hg:((oh l.length (l.take i)).map AV.bool)[(l[i]).toNat]? = some (.bool (decide (l[i]∈l.take i))):=by
  rw [List.getElem?_map,zfy (fun x hx=>(hrg x hx).1) hk,show (((l[i]).toNat:Nat):Int)=l[i] by omega];rfl
 rw [xg rfl hlt,ldL (cZ hx),sIx (i:=(l[i]).toNat) (by omega) hk,H2.load (k:=0) rfl hg];simp only [zM];by_cases c3:l[i]∈l.take i
 ·simp only [c3,decide_true,zD];refine bad fun q => ?_;obtain ⟨j,hj⟩:=List.mem_iff_getElem?.1 c3;have hjl:=(List.getElem?_eq_some_iff.1 hj).1;rw [Zba] at hjl;rw [List.getElem?_take_of_lt (by omega)] at hj;obtain ⟨a1,a2⟩:=List.getElem?_eq_some_iff.1 hj;exact List.pairwise_iff_getElem.1 q.1 j i a1 hlt (by omega) a2
 simp only [c3,decide_false,zC];rw [F93.k8,xg rfl hlt,ldL (cZ hx),sIx (i:=(l[i]).toNat) (by omega) hk];refine H2.store (k:=0) rfl (by rw [Zaq,mV];exact hk) rfl fun h3 H3 => ?_;rw [F93.k9,jr (by omega)];have htk:l.take (i+1)=l.take i++[l[i]]:=by rw [Zam,hx];rfl
 refine hR _ _ _ _ _ _ _ (by omega) ⟨i+1,rfl,rfl,by omega,?_,?_,H3.cast ?_⟩
 ·rw [htk];exact List.nodup_append.2 ⟨hnd,by simp,fun a ha b hb=>by simp at hb;subst hb;rintro rfl;exact c3 ha⟩
 ·intro x hm;rw [htk] at hm;rcases List.mem_append.1 hm with q | q
  ·exact hrg x q
  ·simp at q;subst q;omega
 ·rw [htk,zc0];simp [List.map_set]
def jM (g:List Int) (n:Int):Int:=if n<0\/256<n then 3 else if (g.length:Int)≠n then 2 else if fA g then 0 else 14
theorem zhy {g:List Int} {c:Bool} {n:Int}:Pure Tryz.prog B 26 [.agg [encI g,.bool c],I n] (· = I (jM g n)):=by
 refine y8 fun h nx K H0 hK=>zS zW yt 1000 fun hf => ?_;rw [F26.go];refine H0.box (l:=[encI g,.bool c]) rfl fun bx h1 nx1 H1 => ?_;refine zfw n _ _ _ _ ?_;rintro _ rfl _;simp only [gy];by_cases c1:n<0\/256<n
 ·simp only [if_pos c1];exact hK _ _ _ _ _ H1 (zJ rfl) (by rw [jM,if_pos c1])
 simp only [if_neg c1,decide_true,Zad,zC,sFx];rw [H1.load (k:=0) (i:=0) rfl rfl];simp only [zG,gy];by_cases c2:(g.length:Int)=n
 case neg =>
  simp only [c2,decide_false,Zae,zD];exact hK _ _ _ _ _ H1 (zJ rfl) (by rw [jM,if_neg c1,if_pos c2])
 simp only [c2,decide_true,Zad,zC];rw [H1.load (k:=0) (i:=0) rfl rfl];refine zql (by omega) _ _ _ _ ?_;rintro _ rfl _;exact hK _ _ _ _ _ H1 (zJ rfl) (by rw [jM,if_neg c1,if_neg (by simp [c2]),uB,if_neg (by omega)])
def uD (p q:List Int):List Int:=q.map fun c=>p.getD c.toNat 0
def zP (a b:Sym):Sym:=(uD a.1 b.1,a.2 != b.2)
theorem zbt {p q:List Int} {i:Nat} {x:Int} (h:q[i]? = some x):uD p (q.take (i+1))=uD p (q.take i)++[p.getD x.toNat 0]:=by
 rw [uD,Zam,h,Zbz];rfl
theorem zhz {p q:List Int} (hq:∀ x∈q,0<=x/\x<(p.length:Int)) (hl:q.length<=100000):Pure Tryz.prog B 144 [encI p,encI q] (· = .lst 1 q.length ((uD p q).map I)):=by
 refine y8 fun h nx K H0 hK=>zS zW yt 1000000 fun hf => ?_;rw [uq.go];refine uq.L1 (fun m x3 x4 h' nx'=>∃ (i:Nat) (o:Option Pa),x4=I i/\x3=ku o 1 i/\q.length-i=m/\i<=q.length/\Hp h h' nx' [.gro o 1 i ((uD p (q.take i)).map I)]) (m:=q.length) (by omega) ⟨0,none,rfl,rfl,rfl,by omega,H0.aG 1⟩ ?_;rintro m z3 z4 z5 h1 nx1 R ⟨i,o,rfl,rfl,rfl,hi,H1⟩ hR;simp only [zG,je];by_cases hlt:i<q.length
 ·simp only [show (i:Int)<(q.length:Int) by omega,decide_true,zD];have hx:q[i]? = some q[i]:=List.getElem?_eq_getElem hlt;have hb:=hq _ (Zai hlt);have hy:p[q[i].toNat]? = some (p.getD q[i].toNat 0):=by
   rw [Zac,List.getElem?_eq_getElem (show q[i].toNat<p.length by omega)];rfl
  rw [xg rfl hlt,ldL (cZ hx),xg (i:=q[i].toNat) (by omega) (by omega),ldL (cZ hy)];refine H1.yc (l:=[I (p.getD q[i].toNat 0)]) rfl fun tb h2 nx2 H2 => ?_;refine H2.appN (k:=1) (o:=o) (c:=1) (new:=[I (p.getD q[i].toNat 0)]) rfl (jc.rd (l:=[I (p.getD q[i].toNat 0)]) (n:=1) (H2.own _ (Zaj ..)) rfl) rfl rfl (by decide) (by decide) (by omega) fun o' h3 nx3 _ H3 => ?_;rw [jr (by omega)];refine hR _ _ _ _ _ _ (by omega) ⟨i+1,o',rfl,rfl,rfl,by omega,?_⟩;rw [zbt hx,Zbz];exact H3.drop
 ·simp only [show ¬ (i:Int)<(q.length:Int) by omega,decide_false,zC];obtain rfl:i=q.length:=by omega
  rw [Zal (by omega)] at H1;rw [uq.k8];exact hK _ _ _ _ _ H1 (H1.zd8 (k:=0) rfl (by intro v hv;obtain ⟨x,_,rfl⟩:=List.mem_map.1 hv;rfl)) rfl
theorem zbu {a b:Bool} {K:AV->OP}:zo .neq .bool (.bool a) (.bool b) K=K (.bool (a != b)):=by cases a <;> cases b <;> exact nr rfl
theorem zwa {a b:Bool} {K:AV->OP}:zo .eql .bool (.bool a) (.bool b) K=K (.bool (a==b)):=by cases a <;> cases b <;> exact nr rfl
theorem zbv {a b:Sym} (hq:∀ x∈b.1,0<=x/\x<(a.1.length:Int)) (hl:b.1.length<=100000):Pure Tryz.prog B 65 [encS a,encS b] (· = encS (zP a b)):=by
 refine y8 fun h nx K H0 hK=>zS zW yt 1000 fun hf => ?_;rw [F65.go];refine H0.box (l:=[encI a.1,.bool a.2]) rfl fun b1 h1 nx1 H1 => ?_;refine H1.box (l:=[encI b.1,.bool b.2]) rfl fun b2 h2 nx2 H2 => ?_;refine H2.alloc fun r h3 nx3 H3 => ?_;simp only [sFx];rw [H3.load (k:=2) (i:=0) rfl rfl,H3.load (k:=1) (i:=0) rfl rfl,H3.load (k:=2) (i:=0+1) rfl rfl,H3.load (k:=1) (i:=0+1) rfl rfl,zbu];refine zhz hq hl _ _ _ _ ?_;rintro _ rfl _;rw [zbu];simp only [zB];rw [H3.load (k:=1) (i:=0+1) rfl rfl];simp only [zB];rw [H3.load (k:=2) (i:=0+1) rfl rfl];simp only [zB];have eb:∀ K:AV->OP,gI [.zh,(.bool false)] [(0,1,.lst 1 b.1.length ((uD a.1 b.1).map I)),(1,1,.bool (a.2 != b.2))] K=K (.agg [.lst 1 b.1.length ((uD a.1 b.1).map I),.bool (a.2 != b.2)]):=fun K=>nr rfl;rw [eb];refine H3.qm (k:=0) (n:=2) rfl rfl rfl fun h4 H4 => ?_;rw [H4.zi (k:=0) (n:=2) rfl rfl];have e:AV.lst 1 b.1.length ((uD a.1 b.1).map I)=encI (uD a.1 b.1):=by simp [encI,uD]
 rw [e];refine hK _ _ _ _ _ H4 (zqk fun v hv => ?_) rfl;simp only [Zah,List.not_mem_nil,or_false] at hv;rcases hv with rfl | rfl
 ·exact wP _
 ·rfl
theorem zqm {a b:Sym} (ha:a.1.length<=1000000):Pure Tryz.prog B 30 [encS a,encS b] (· = .bool (decide (a=b))):=by
 refine y8 fun h nx K H0 hK=>zS zW yt 1000 fun hf => ?_;rw [F30.go];refine H0.box (l:=[encI a.1,.bool a.2]) rfl fun b1 h1 nx1 H1 => ?_;refine H1.box (l:=[encI b.1,.bool b.2]) rfl fun b2 h2 nx2 H2 => ?_;simp only [sFx];rw [H2.load (k:=1) (i:=0+1) rfl rfl,H2.load (k:=0) (i:=0+1) rfl rfl,zwa];by_cases c:a.2=b.2
 ·simp only [c,beq_self_eq_true,yT];rw [H2.load (k:=1) (i:=0) rfl rfl,H2.load (k:=0) (i:=0) rfl rfl,zji];refine dD (by omega) _ _ _ _ ?_;rintro _ rfl _;rw [zR];refine hK _ _ _ _ _ H2 (zJ rfl) ?_
  congr 1
  refine decide_eq_decide.2 ⟨fun q=>Prod.ext q c,fun q=>by rw [q]⟩
 ·have e:(a.2==b.2)=false:=by simpa using c
  rw [e];simp only [jF,zjj,zM];refine hK _ _ _ _ _ H2 (zJ rfl) ?_;rw [decide_eq_false fun q=>c (by rw [q])]
theorem zbw {G:List Sym} {a:Sym} (hG:G.length<=1000000) (hw:∀ g∈G,g.1.length<=1000000):Pure Tryz.prog B 84 [jd G,encS a] (fun v=>∃ r:Int,v=I r/\(r<0↔a∉G)):=by
 refine y8 fun h nx K H0 hK=>zS zW yt 10000000 fun hf => ?_;rw [F84.go];refine H0.box (l:=[encI a.1,.bool a.2]) rfl fun b1 h1 nx1 H1 => ?_;refine F84.L1 (fun m x4 h' nx'=>∃ i:Nat,x4=I i/\G.length-i=m/\i<=G.length/\h'=h1/\nx'=nx1/\a∉G.take i) (m:=G.length) (by omega) ⟨0,rfl,rfl,by omega,rfl,rfl,by simp⟩ ?_;rintro m z3 z4 z5 z6 h1 nx1 R ⟨i,rfl,rfl,hi,rfl,rfl,hn⟩ hR;simp only [zG,je];by_cases hlt:i<G.length
 case neg =>
  simp only [show ¬ (i:Int)<(G.length:Int) by omega,decide_false,zC];rw [F84.k8];rw [Zal (by omega)] at hn;exact hK _ _ _ _ _ H1 (zJ rfl) ⟨-1,rfl,by simp [hn]⟩
 simp only [show (i:Int)<(G.length:Int) by omega,decide_true,zD];have hx:G[i]? = some G[i]:=List.getElem?_eq_getElem hlt;rw [xg rfl hlt,jU hlt,uV,H1.zi (k:=0) (n:=2) rfl rfl];refine zqm (a:=G[i]) (b:=a) (hw _ (Zai hlt)) _ _ _ _ ?_;rintro _ rfl _;by_cases c:G[i]=a
 ·rw [decide_eq_true c,zD];refine hK _ _ _ _ _ H1 (zJ rfl) ⟨i,rfl,?_⟩;have:a∈G:=c ▸ Zai hlt;exact ⟨fun q=>by omega,fun q=>absurd this q⟩
 ·rw [decide_eq_false c,zC,jr (by omega)];refine hR _ _ _ _ _ _ _ (by omega) ⟨i+1,rfl,rfl,by omega,rfl,rfl,fun q => ?_⟩;rw [Zam,hx] at q;rcases List.mem_append.1 q with q | q
  ·exact hn q
  ·simp at q;exact c q.symm
def fJ (a b:Sym):Bool:=if a.1=b.1 then !a.2&&b.2 else jV a.1 b.1
theorem zc1 {a b:Sym} (ha:a.1.length<=1000000) (hb:b.1.length<=1000000):Pure Tryz.prog B 85 [encS a,encS b] (· = .bool (fJ a b)):=by
 refine y8 fun h nx K H0 hK=>zS zW yt 1000 fun hf => ?_;rw [F85.go];refine H0.box (l:=[encI a.1,.bool a.2]) rfl fun b1 h1 nx1 H1 => ?_;refine H1.box (l:=[encI b.1,.bool b.2]) rfl fun b2 h2 nx2 H2 => ?_;simp only [sFx];rw [H2.load (k:=1) (i:=0) rfl rfl,H2.load (k:=0) (i:=0) rfl rfl];refine dD (by omega) _ _ _ _ ?_;rintro _ rfl _;by_cases c:a.1=b.1
 ·rw [decide_eq_true c,zD,H2.load (k:=1) (i:=0+1) rfl rfl];have e:fJ a b=(!a.2&&b.2):=if_pos c;rw [yA];cases h2':a.2 with
  | true =>
   simp only [Zad,jF,zM];exact hK _ _ _ _ _ H2 (zJ rfl) (by rw [e,h2'];rfl)
  | false =>
   simp only [Zae,yT];rw [H2.load (k:=0) (i:=0+1) rfl rfl,zR];exact hK _ _ _ _ _ H2 (zJ rfl) (by rw [e,h2'];rfl)
 ·rw [decide_eq_false c,zC,H2.load (k:=1) (i:=0) rfl rfl,H2.load (k:=0) (i:=0) rfl rfl];refine zom ha hb _ _ _ _ ?_;rintro _ rfl _;exact hK _ _ _ _ _ H2 (zJ rfl) (by rw [fJ,if_neg c])
def jL (n:Int):List Sym->Int
 | []=>0
 | g::G=>if jM g.1 n≠0 then jM g.1 n else jL n G
def rU:List Sym->Bool
 | []=>true
 | [_]=>true
 | a::b::G=>fJ a b&&rU (b::G)
def clG (G:List Sym):Bool:=G.all fun a=>G.all fun b=>decide (zP a b∈G)
def jK (G:List Sym) (n:Int):Int:=if n<0\/256<n then 3 else if G.length=0 then 12 else if 1536<G.length then 5 else if jL n G≠0 then jL n G else if rU G=false then 11 else if clG G=false then 28 else 0
theorem dV {n:Int} {G:List Sym} {i:Nat} (h:i<G.length):jL n (G.drop i)=if jM G[i].1 n≠0 then jM G[i].1 n else jL n (G.drop (i+1)):=by
 rw [Zan h];rfl
theorem qL {n:Int}:∀ {G:List Sym},jL n G=0->∀ g∈G,jM g.1 n=0
 | [],_,g,h=>by simp at h
 | a::G,h,g,hg=>by
  rw [jL] at h;by_cases c:jM a.1 n=0
  ·rw [if_neg (by simp [c])] at h;rcases List.mem_cons.1 hg with rfl | q
   ·exact c
   ·exact qL h g q
  ·rw [if_pos c] at h;exact absurd h c
theorem gG {g:List Int} {n:Int} (h:jM g n=0):(0<=n/\n<=256)/\(g.length:Int)=n/\fA g:=by
 rw [jM] at h;by_cases c1:n<0\/256<n
 ·rw [if_pos c1] at h;cases h
 rw [if_neg c1] at h;by_cases c2:(g.length:Int)=n
 ·rw [if_neg (by simp [c2])] at h;by_cases c3:fA g
  ·exact ⟨by omega,c2,c3⟩
  ·rw [if_neg c3] at h;cases h
 ·rw [if_pos c2] at h;cases h
theorem zc2 {G:List Sym} {i:Nat} (h:i+1<G.length):rU (G.drop i)=(fJ G[i] G[i+1]&&rU (G.drop (i+1))):=by
 rw [Zan (show i<G.length by omega),Zan h,rU]
theorem zf0 {G:List Sym} {i:Nat} (h:G.length<=i+1):rU (G.drop i)=true:=by
 have:(G.drop i).length<=1:=by rw [List.length_drop];omega
 cases hd:G.drop i with
 | nil=>rfl
 | cons a l =>
  rw [hd] at this;cases l with
  | nil=>rfl
  | cons b l=>simp at this
theorem zf1 {G:List Sym} {n:Int} (hG:G.length<=100000):Pure Tryz.prog B 20 [jd G,I n] (· = I (jK G n)):=by
 refine y8 fun h nx K H0 hK=>zS zW yt 10000000 fun hf => ?_;have ret:∀ v:Int,v=jK G n->K (I v) h nx=.ok True:=fun v hv=>by rw [hv];exact hK _ _ _ _ _ H0 (zJ rfl) rfl
 rw [F20.go];refine zfw n _ _ _ _ ?_;rintro _ rfl _;by_cases c1:n<0\/256<n
 ·simp only [if_pos c1,gy,show ¬ (3:Int)=0 by decide,decide_false,Zae,zD];exact ret 3 (by rw [jK,if_pos c1])
 simp only [if_neg c1,gy,decide_true,Zad,zC,zG,dw];by_cases c2:G.length=0
 ·simp only [show (G.length:Int)=0 by omega,decide_true,zD];exact ret 12 (by rw [jK,if_neg c1,if_pos c2])
 simp only [show ¬ (G.length:Int)=0 by omega,decide_false,zC,zG,qy];by_cases c3:1536<G.length
 ·simp only [show (1536:Int)<(G.length:Int) by omega,decide_true,zD];exact ret 5 (by rw [jK,if_neg c1,if_neg c2,if_pos c3])
 simp only [show ¬ (1536:Int)<(G.length:Int) by omega,decide_false,zC];have e0:jK G n=if jL n G≠0 then jL n G else if rU G=false then 11 else if clG G=false then 28 else 0:=by rw [jK,if_neg c1,if_neg c2,if_neg c3]
 refine F20.L4 (fun m x3 h' nx'=>∃ i:Nat,x3=I i/\G.length-i=m/\i<=G.length/\h'=h/\nx'=nx/\jL n G=jL n (G.drop i)) (m:=G.length) (by omega) ⟨0,rfl,rfl,by omega,rfl,rfl,rfl⟩ ?_;rintro m z2 z3 z4 z11 z12 h nx R ⟨i,rfl,rfl,hi,rfl,rfl,hs⟩ hR;simp only [zG,je];by_cases hlt:i<G.length
 ·simp only [show (i:Int)<(G.length:Int) by omega,decide_true,zD];rw [xg rfl hlt,jU hlt,uV];refine zhy _ _ _ _ ?_;rintro _ rfl _;rw [dV hlt] at hs;simp only [gy];by_cases c:jM G[i].1 n=0
  ·simp only [c,decide_true,Zad,zC];rw [if_neg (by simp [c])] at hs;rw [jr (by omega)];exact hR _ _ _ _ _ _ _ _ (by omega) ⟨i+1,rfl,rfl,by omega,rfl,rfl,hs⟩
  ·simp only [c,decide_false,Zae,zD];rw [if_pos c] at hs;exact ret _ (by rw [e0,hs,if_pos c])
 simp only [show ¬ (i:Int)<(G.length:Int) by omega,decide_false,zC];rw [Zbg (by omega)] at hs;have hs:jL n G=0:=hs;rw [if_neg (by simp [hs])] at e0;have hok:=qL hs
 clear hR
 rw [F20.k11];refine F20.L12 (fun m x5 h' nx'=>∃ i:Nat,x5=I (i+1:Nat)/\G.length-i=m/\i<=G.length/\h'=h/\nx'=nx/\rU G=rU (G.drop i)) (m:=G.length) (by omega) ⟨0,rfl,rfl,by omega,rfl,rfl,rfl⟩ ?_;rintro m z2 z5 z13 z14 h nx R ⟨i,rfl,rfl,hi,rfl,rfl,ho⟩ hR;simp only [zG,je];by_cases hlt:i+1<G.length
 ·simp only [show ((i+1:Nat):Int)<(G.length:Int) by omega,decide_true,zD];rw [bg (by omega),xg (i:=i) (by omega) (by omega),jU (show i<G.length by omega),uV,xg rfl hlt,jU hlt,uV];have w1:=(gG (hok _ (Zai (show i<G.length by omega)))).2.1;have w2:=(gG (hok _ (Zai hlt))).2.1;refine zc1 (a:=G[i]) (b:=G[i+1]) (by omega) (by omega) _ _ _ _ ?_;rintro _ rfl _;rw [zc2 hlt] at ho;rw [yA];cases c:fJ G[i] G[i+1] with
  | true =>
   rw [c,Bool.true_and] at ho;simp only [Zad,zC];rw [jr (by omega)];exact hR _ _ _ _ _ _ _ (by omega) ⟨i+1,rfl,rfl,by omega,rfl,rfl,ho⟩
  | false =>
   rw [c,Bool.false_and] at ho;simp only [Zae,zD];exact ret 11 (by rw [e0,if_pos ho])
 simp only [show ¬ ((i+1:Nat):Int)<(G.length:Int) by omega,decide_false,zC];rw [zf0 (by omega)] at ho;rw [if_neg (by simp [ho])] at e0
 clear hR
 rw [F20.k19];refine F20.L20 (fun m x6 h' nx'=>∃ i:Nat,x6=I i/\G.length-i=m/\i<=G.length/\h'=h/\nx'=nx/\∀ a∈G.take i,∀ b∈G,zP a b∈G) (m:=G.length) (by omega) ⟨0,rfl,rfl,by omega,rfl,rfl,by simp⟩ ?_;rintro m z2 z6 z7 z15 z16 z17 h nx R ⟨i,rfl,rfl,hi,rfl,rfl,hcl⟩ hR;simp only [zG,je];by_cases hlt:i<G.length
 case neg =>
  simp only [show ¬ (i:Int)<(G.length:Int) by omega,decide_false,zC];rw [Zal (by omega)] at hcl;rw [F20.k34];have:clG G=true:=by
   rw [clG,Zaf];intro a ha;rw [Zaf];exact fun b hb=>decide_eq_true (hcl a ha b hb)
  exact ret 0 (by rw [e0,if_neg (by simp [this])])
 simp only [show (i:Int)<(G.length:Int) by omega,decide_true,zD];have hx:G[i]? = some G[i]:=List.getElem?_eq_getElem hlt;refine F20.L26 (fun m x7 h' nx'=>∃ k:Nat,x7=I k/\G.length-k=m/\k<=G.length/\h'=h/\nx'=nx/\∀ b∈G.take k,zP G[i] b∈G) (m:=G.length) (by omega) ⟨0,rfl,rfl,by omega,rfl,rfl,by simp⟩ ?_;rintro m y2 y7 y16 y17 h nx R2 ⟨k,rfl,rfl,hk,rfl,rfl,hck⟩ hR2;simp only [zG,je];by_cases hkt:k<G.length
 case neg =>
  simp only [show ¬ (k:Int)<(G.length:Int) by omega,decide_false,zC];rw [Zal (by omega)] at hck;rw [F20.k33,jr (by omega)];refine hR _ _ _ _ _ _ _ _ _ (by omega) ⟨i+1,rfl,rfl,by omega,rfl,rfl,fun a ha b hb => ?_⟩;rw [Zam,hx] at ha;rcases List.mem_append.1 ha with q | q
  ·exact hcl a q b hb
  ·simp at q;rw [q];exact hck b hb
 simp only [show (k:Int)<(G.length:Int) by omega,decide_true,zD];have hy:G[k]? = some G[k]:=List.getElem?_eq_getElem hkt;obtain ⟨i1,i2,i3⟩:=gG (hok _ (Zai hlt));obtain ⟨k1,k2,k3⟩:=gG (hok _ (Zai hkt));rw [xg rfl hlt,jU hlt,uV,xg rfl hkt,jU hkt,uV];refine zbv (a:=G[i]) (b:=G[k]) (fun x hx'=>by have:=k3.2 x hx';omega) (by omega) _ _ _ _ ?_;rintro _ rfl _;simp only [zB];refine zbw (a:=zP G[i] G[k]) (by omega) (fun g hg=>by have:=(gG (hok g hg)).2.1;omega) _ _ _ _ ?_;rintro _ ⟨r,rfl,hr⟩ _;simp only [je];by_cases c:r<0
 ·simp only [c,decide_true,zD];have hn:=hr.1 c;refine ret 28 ?_;have:clG G=false:=by
   cases q:clG G with
   | false=>rfl
   | true =>
    rw [clG,Zaf] at q;have q1:=q _ (Zai hlt);rw [Zaf] at q1;exact absurd (of_decide_eq_true (q1 _ (Zai hkt))) hn
  rw [e0,if_pos this]
 ·simp only [c,decide_false,zC];have hin:zP G[i] G[k]∈G:=by
   by_cases q:zP G[i] G[k]∈G
   ·exact q
   ·exact absurd (hr.2 q) c
  rw [jr (by omega)];refine hR2 _ _ _ _ _ _ _ (by omega) ⟨k+1,rfl,rfl,by omega,rfl,rfl,fun b hb => ?_⟩;rw [Zam,hy] at hb;rcases List.mem_append.1 hb with q | q
  ·exact hck b q
  ·simp at q;rw [q];exact hin
end Go.Ev
namespace Go.Proofs
open Go.Shelf Go.Lib
def qj:List Int->List Int->Int
 | [],[]=>0
 | [],_::_ => -1
 | _::_,[]=>1
 | x::xs,y::ys=>if x<y then -1 else if y<x then 1 else qj xs ys
theorem pA (x:Int) (w:World):Calls Tryz.prog 250 #[.int .i64 x] w fun e w'=>e=.returned (.bool false)/\w'=w:=by
 have t3:=Tryz.underlying3;have a3:=Tryz.isAgg3;have z3:=Tryz.sizeOf3;have v3:=Tryz.zeroValue3;have t4:=Tryz.underlying4;have a4:=Tryz.isAgg4;have z4:=Tryz.sizeOf4;have v4:=Tryz.zeroValue4
 go_enter Tryz.func250,Tryz.ntmps250
 go_wp2
 go_ret
 exact ⟨by simp,rfl⟩
set_option maxHeartbeats 2000000 in
set_option maxRecDepth 100000 in
theorem zh0 (x y:Int) (w:World):Calls Tryz.prog 244 #[.int .i64 x,.int .i64 y] w fun e w'=>e=.returned (.int .i64 (Lib.compareInt x y))/\w'=w:=by
 have t3:=Tryz.underlying3;have a3:=Tryz.isAgg3;have z3:=Tryz.sizeOf3;have v3:=Tryz.zeroValue3;have t4:=Tryz.underlying4;have a4:=Tryz.isAgg4;have z4:=Tryz.sizeOf4;have v4:=Tryz.zeroValue4
 go_enter Tryz.func244,Tryz.ntmps244
 go_wp2_with (go_at_call 250;refine (pA _ _).mono ?_;rintro e w' ⟨rfl,hw⟩;rw [hw])
 all_goals (go_ret;refine ⟨?_,rfl⟩;unfold Lib.compareInt;(repeat' split) <;> first | rfl | (exfalso;omega))
end Go.Proofs
namespace Go.Proofs
open Go.Shelf Go.Lib Go.RowKit
theorem zky {xs ys:List Int} {k:Nat} {x y:Int} (hx:k<xs.length) (hy:k<ys.length) (ex:xs[k]! = x) (ey:ys[k]! = y):qj (xs.drop k) (ys.drop k)=if x<y then -1 else if y<x then 1 else qj (xs.drop (k+1)) (ys.drop (k+1)):=by
 rw [List.drop_eq_getElem_cons hx,List.drop_eq_getElem_cons hy];rw [getElem!_pos xs k hx] at ex;rw [getElem!_pos ys k hy] at ey;rw [ex,ey,qj]
theorem zkz {xs ys:List Int} {k:Nat} (hx:xs.length<=k):qj (xs.drop k) (ys.drop k)=if ys.length<=k then 0 else -1:=by
 rw [List.drop_eq_nil_of_le hx];by_cases h:ys.length<=k
 ·rw [if_pos h,List.drop_eq_nil_of_le h,qj]
 ·rw [if_neg h,List.drop_eq_getElem_cons (by omega),qj]
theorem zk0 {xs ys:List Int} {k:Nat} (hx:k<xs.length) (hy:ys.length<=k):qj (xs.drop k) (ys.drop k)=1:=by
 rw [List.drop_eq_nil_of_le hy,List.drop_eq_getElem_cons hx,qj]
set_option maxHeartbeats 2000000 in
set_option maxRecDepth 100000 in
theorem zh1 (p1 p2:Option Addr) (n c m d:Nat) (xs ys:List Int) (w:World) (hn:n=xs.length) (hm:m=ys.length) (hbig:n<=1000000) (hbig2:m<=1000000)
  (hc1:n=0\/∃ b1 o1,p1=some ⟨b1,o1,none⟩/\∀ j,j<n->w.cell? ⟨b1,o1+j,none⟩=some (.int .i64 xs[j]!)) (hc2:m=0\/∃ b2 o2,p2=some ⟨b2,o2,none⟩/\∀ j,j<m->w.cell? ⟨b2,o2+j,none⟩=some (.int .i64 ys[j]!)) :
  Calls Tryz.prog 201 #[.slice p1 n c,.slice p2 m d] w fun e w'=>e=.returned (.int .i64 (qj xs ys))/\∃ q,w'=w.drewN q:=by
 have H1:Aside (n=0\/∃ b1 o1,p1=some ⟨b1,o1,none⟩/\∀ j,j<n->w.cell? ⟨b1,o1+j,none⟩=some (.int .i64 xs[j]!)):=hc1;have H2:Aside (m=0\/∃ b2 o2,p2=some ⟨b2,o2,none⟩/\∀ j,j<m->w.cell? ⟨b2,o2+j,none⟩=some (.int .i64 ys[j]!)):=hc2
 clear hc1 hc2
 have mixed:Tryz.prog.follows .mixedOrders=true:=by kernel_rfl
 have t0:=Tryz.underlying0;have a0:=Tryz.isAgg0;have z0:=Tryz.sizeOf0;have v0:=Tryz.zeroValue0;have t3:=Tryz.underlying3;have a3:=Tryz.isAgg3;have z3:=Tryz.sizeOf3;have v3:=Tryz.zeroValue3;have t4:=Tryz.underlying4;have a4:=Tryz.isAgg4;have z4:=Tryz.sizeOf4;have v4:=Tryz.zeroValue4;have t35:=Tryz.underlying35;have a35:=Tryz.isAgg35;have z35:=Tryz.sizeOf35;have v35:=Tryz.zeroValue35;have A0:Aside (n=xs.length/\m=ys.length):=⟨hn,hm⟩
 clear hn hm
 go_enter Tryz.func201,Tryz.ntmps201
 go_wp2
 go_loopg [11] n (fun g s11 wr=>∃ k q:Nat,k<=n/\k<=m/\n-k<=g/\s11=.int .i64 k/\wr=w.drewN q/\Aside (qj (xs.drop k) (ys.drop k)=qj xs ys))
 case atStart=>exact ⟨0,0,Nat.zero_le _,Nat.zero_le _,by omega,rfl,rfl,rfl⟩
 case round =>
  obtain ⟨k,q,hk,hkm,hg,rfl,rfl,A⟩:=hrel;by_cases hlt:k<n
  ·by_cases hlm:k<m
   ·obtain ⟨b1,o1,rfl,hc1⟩:=H1.out.resolve_left (by omega);obtain ⟨b2,o2,rfl,hc2⟩:=H2.out.resolve_left (by omega)
    clear H1 H2
    have g1:w.cell? ⟨b1,o1+k,none⟩=some (.int .i64 xs[k]!):=hc1 k hlt;have g2:w.cell? ⟨b2,o2+k,none⟩=some (.int .i64 ys[k]!):=hc2 k hlm
    clear hc1 hc2
    generalize hxk:xs[k]! = x at g1
    generalize hyk:ys[k]! = y at g2
    have B:Aside (xs[k]! = x/\ys[k]! = y):=⟨hxk,hyk⟩
    clear hxk hyk
    obtain ⟨r,C,hcon⟩:∃ r,Aside (r = -1/\x<y\/r=1/\y<x\/r=0/\x=y)/\∀ w,Calls Tryz.prog 244 #[.int .i64 x,.int .i64 y] w fun e w'=>e=.returned (.int .i64 r)/\w'=w :=
     ⟨Lib.compareInt x y,(show Aside _ from by
      unfold Aside Lib.compareInt;by_cases c1:x<y
      ·rw [if_pos c1];exact .inl ⟨rfl,c1⟩
      ·rw [if_neg c1];by_cases c2:y<x
       ·simp [c2]
       ·have:x=y:=by omega
        simp [this]),fun w=>zh0 x y w⟩
    have D:=zky (A0.out.1 ▸ hlt) (A0.out.2 ▸ hlm) B.out.1 B.out.2;have D':Aside (qj (xs.drop k) (ys.drop k)=if x<y then -1 else if y<x then 1 else qj (xs.drop (k+1)) (ys.drop (k+1))):=D
    clear D
    by_cases hr:r=0
    ·subst hr
     go_wp2_with (go_at_call 244;refine (hcon _).mono ?_;rintro e w' ⟨rfl,hw⟩;rw [hw])
     go_roundg (n-(k+1))
     case measure=>omega
     case rel =>
      refine ⟨k+1,q,by omega,by omega,by omega,by go_num,rfl,(show Aside _ from ?_)⟩;rcases C.out with ⟨c,_⟩ | ⟨c,_⟩ | ⟨_,rfl⟩
      ·omega
      ·omega
      ·have:=D'.out;rw [if_neg (by omega),if_neg (by omega)] at this;exact this.symm.trans A.out
    ·go_wp2_with (go_at_call 244;refine (hcon _).mono ?_;rintro e w' ⟨rfl,hw⟩;rw [hw])
     go_ret
     refine ⟨?_,q,rfl⟩;rw [<- A.out,D'.out];rcases C.out with ⟨rfl,c⟩ | ⟨rfl,c⟩ | ⟨c,_⟩
     ·rw [if_pos c];rfl
     ·rw [if_neg (show ¬ x<y by omega),if_pos c];rfl
     ·exact absurd c hr
   ·have D:Aside (qj (xs.drop k) (ys.drop k)=1):=zk0 (A0.out.1 ▸ hlt) (by have:=A0.out.2;omega);obtain ⟨b1,o1,rfl,hc1⟩:=H1.out.resolve_left (by omega)
    clear H1 H2
    have g1:w.cell? ⟨b1,o1+k,none⟩=some (.int .i64 xs[k]!):=hc1 k hlt
    clear hc1
    generalize hxk:xs[k]! = x at g1
    have hmk:m<=k:=by omega
    go_wp2
    go_ret
    refine ⟨?_,q,rfl⟩;rw [<- A.out,D.out];rfl
  ·have hkn:k=n:=by omega
   have D:Aside (qj (xs.drop k) (ys.drop k)=if ys.length<=k then 0 else -1):=zkz (by have:=A0.out.1;omega)
   clear H1 H2
   by_cases hlm:k<m
   ·have D':Aside (qj (xs.drop k) (ys.drop k) = -1):=D.out.trans (if_neg (by have:=A0.out.2;omega))
    go_wp2
    go_ret
    refine ⟨?_,q,rfl⟩;rw [<- A.out,D'.out];rfl
   ·have D':Aside (qj (xs.drop k) (ys.drop k)=0):=D.out.trans (if_pos (by have:=A0.out.2;omega))
    go_wp2
    go_ret
    refine ⟨?_,q,rfl⟩;rw [<- A.out,D'.out];rfl
end Go.Proofs
namespace Go.Proofs
theorem wK (x:Int) (xs:List Int) (y:Int) (ys:List Int):qj (x::xs) (y::ys)=if x<y then -1 else if y<x then 1 else qj xs ys:=by rw [qj]
theorem xM:∀ a b:List Int,qj b a = - qj a b
 | [],[]=>by rw [qj];rfl
 | [],_::_=>by rw [qj,qj];rfl
 | _::_,[]=>by rw [qj,qj]
 | x::xs,y::ys=>by
  rw [wK,wK,xM xs ys];by_cases h:x<y
  ·simp only [if_pos h,if_neg (show ¬ y<x by omega)];rfl
  ·rw [if_neg h];by_cases g:y<x
   ·simp only [if_pos g,if_neg h]
   ·simp only [if_neg g,if_neg h]
theorem q8:∀ {a b:List Int},qj a b=0->a=b
 | [],[],_=>rfl
 | [],_::_,h=>by rw [qj] at h;omega
 | _::_,[],h=>by rw [qj] at h;omega
 | x::xs,y::ys,h=>by
  rw [wK] at h;by_cases c:x<y
  ·rw [if_pos c] at h;omega
  ·rw [if_neg c] at h;by_cases g:y<x
   ·rw [if_pos g] at h;omega
   ·rw [if_neg g] at h;rw [q8 h,show x=y by omega]
theorem qF (a:List Int):qj a a=0:=by have:=xM a a;omega
theorem wB:∀ {a b c:List Int},qj a b<=0->qj b c<=0->qj a c<=0
 | [],_,[],_,_=>by rw [qj];omega
 | [],_,_::_,_,_=>by rw [qj];omega
 | _::_,[],_,h,_=>by rw [qj] at h;omega
 | x::xs,y::ys,[],_,h=>by rw [qj] at h;omega
 | x::xs,y::ys,z::zs,h,g=>by
  rw [wK] at h g ⊢;by_cases c1:x<y
  ·by_cases c2:y<z
   ·rw [if_pos (by omega)];omega
   ·rw [if_neg c2] at g;by_cases c3:z<y
    ·rw [if_pos c3] at g;omega
    ·rw [if_pos (by omega)];omega
  ·rw [if_neg c1] at h;by_cases c4:y<x
   ·rw [if_pos c4] at h;omega
   ·rw [if_neg c4] at h;by_cases c2:y<z
    ·rw [if_pos (by omega)];omega
    ·rw [if_neg c2] at g;by_cases c3:z<y
     ·rw [if_pos c3] at g;omega
     ·rw [if_neg c3] at g;rw [if_neg (by omega),if_neg (by omega)];exact wB h g
theorem uS {a b c:List Int} (h:qj a b<0) (g:qj b c<0):qj a c<0:=by
 have:=wB (Int.le_of_lt h) (Int.le_of_lt g);by_cases e:qj a c=0
 ·have:=q8 e;subst this;have:=xM a b;omega
 ·omega
end Go.Proofs
namespace Go.Ev
open Go.Proofs
structure zf2 (A:List (List Int×Nat)) (M:List (List Int)):Prop where
 srt:A.Pairwise fun a b=>qj a.1 b.1<0
 cnt:∀ p∈A,p.2=M.count p.1/\0<p.2
 all:∀ y∈M,∃ p∈A,p.1=y
theorem zf2.mem {A:List (List Int×Nat)} {M:List (List Int)} (T:zf2 A M) (p:List Int×Nat):p∈A↔p.2=M.count p.1/\0<p.2:=by
 refine ⟨T.cnt p,fun ⟨h1,h2⟩ => ?_⟩;have hm:p.1∈M:=List.count_pos_iff.1 (by omega);obtain ⟨q,hq,e⟩:=T.all _ hm;have:=(T.cnt q hq).1;have:q=p:=by
  refine Prod.ext e ?_;rw [this,e,h1]
 exact this ▸ hq
theorem zf2.nil:zf2 [] []:=⟨.nil,by simp,by simp⟩
def cntT (A:List (List Int×Nat)) (y:List Int):Nat:=(A.map fun p=>if p.1=y then p.2 else 0).sum
theorem mN {y:List Int}:∀ {A:List (List Int×Nat)},(∀ q∈A,q.1≠y)->cntT A y=0
 | [],_=>rfl
 | a::A,h=>by
  have:=mN (y:=y) (A:=A) fun q hq=>h q (by simp [hq]);simp only [cntT,List.map_cons,List.sum_cons] at this ⊢;rw [if_neg (h a (by simp)),this]
theorem zf3:∀ {A:List (List Int×Nat)},A.Pairwise (fun a b=>qj a.1 b.1<0)->∀ p∈A,cntT A p.1=p.2
 | [],_,p,h=>by cases h
 | a::A,hA,p,h=>by
  rw [Zbe] at hA;simp only [cntT,List.map_cons,List.sum_cons];rcases List.mem_cons.1 h with e | e
  ·subst e;rw [if_pos rfl];have:cntT A p.1=0:=mN fun q hq e=>by
    have:=hA.1 q hq;rw [e,qF] at this;omega
   rw [cntT] at this;omega
  ·have h1:=hA.1 p e;rw [if_neg (fun e=>by rw [e,qF] at h1;omega)];have:=zf3 hA.2 p e;rw [cntT] at this;omega
theorem zoo {A:List (List Int×Nat)} {y:List Int} (h:0<cntT A y):∃ p∈A,p.1=y:=by
 by_cases c:∃ p∈A,p.1=y
 ·exact c
 ·have:=mN (A:=A) (y:=y) fun q hq e=>c ⟨q,hq,e⟩;omega
structure Tab (A:List (List Int×Nat)) (M:List (List Int)):Prop where
 srt:A.Pairwise fun a b=>qj a.1 b.1<0
 cnt:∀ y,cntT A y=M.count y
 pos:∀ p∈A,0<p.2
theorem Tab.is {A:List (List Int×Nat)} {M:List (List Int)} (T:Tab A M):zf2 A M:={
 srt:=T.srt
 cnt p hp:=⟨by rw [<- T.cnt,zf3 T.srt p hp],T.pos p hp⟩
 all y hy:=zoo (by rw [T.cnt];exact List.count_pos_iff.2 hy) }
theorem Tab.nil:Tab [] []:=⟨.nil,fun _=>rfl,by simp⟩
theorem Tab.perm {A:List (List Int×Nat)} {M M':List (List Int)} (T:Tab A M) (h:M.Perm M'):Tab A M':=⟨T.srt,fun y=>(T.cnt y).trans (h.count_eq y),T.pos⟩
theorem wL:∀ a b:List Int,jV a b=decide (qj a b<0)
 | [],[]=>by rw [jV,qj];rfl
 | [],_::_=>by rw [jV,qj];rfl
 | _::_,[]=>by rw [jV,qj];rfl
 | x::xs,y::ys=>by
  rw [jV,wK,wL xs ys];by_cases e:x=y
  ·subst e;rw [if_pos rfl,if_neg (show ¬ x<x by omega),if_neg (show ¬ x<x by omega)]
  ·rw [if_neg e];by_cases g:x<y
   ·simp only [if_pos g,g,decide_true];rfl
   ·rw [if_neg g,if_pos (show y<x by omega)];simp only [g,decide_false];rfl
end Go.Ev
namespace Go.Ev
open Go Go.Proofs
variable {B:Nat}
theorem lex_irrefl (a:List Int):jV a a=false:=by rw [wL,qF];rfl
theorem cmp_neg (a b:List Int):cmpL a b<0↔jV a b=true:=by
 unfold cmpL;cases h:jV a b with
 | true=>simp
 | false =>
  rw [if_neg (by simp)];split <;> simp
theorem zf4 (a b:List Int):cmpL a b=0↔a=b:=by
 unfold cmpL;cases h:jV a b with
 | true =>
  simp;rintro rfl;rw [lex_irrefl] at h;cases h
 | false =>
  rw [if_neg (by simp)];split
  ·simp [*]
  ·simp [*]
theorem qY (b:Bool) (e:Int):Pure Tryz.prog B 96 [.bool b,I e] (· = I (if b then e else 0)):=by
 intro p h nx K hK;refine zS zW yt 9 fun hf => ?_;rw [F96.go];cases b <;> simp (disch:=omega) only [jr,bg,cO,dw,gy,je,bP,qy,xw,zR,zM,zD,zC,yT,yG,yQ,jF,yA,yM,yO,yV,jD,jC,jB,zG,yL,zY,zB,decide_true,decide_false,Zad,Zae,yP] <;> exact hK _ rfl hf
theorem xU {l:List Int} (hl:l.length<=1000000):Pure Tryz.prog B 94 [encI l] (· = I (gY l)):=by
 intro p h nx K hK;refine zS zW yt 10000000 fun hf => ?_;rw [F94.go];simp (disch:=omega) only [jr,bg,cO,dw,gy,je,bP,qy,xw,zR,zM,zD,zC,yT,yG,yQ,jF,yA,yM,yO,yV,jD,jC,jB,zG,yL,zY,zB,decide_true,decide_false,Zad,Zae,yP];refine F94.L1 (fun m z5 h' nx'=>∃ i:Nat,z5=I i/\l.length-i=m/\i<=l.length/\h'=h/\nx'=nx/\∀ e∈l.take i,e=0) (m:=l.length) (by omega) ⟨0,rfl,rfl,by omega,rfl,rfl,by simp⟩ ?_;rintro m z1 z2 z5 z6 z7 _ _ R ⟨i,rfl,rfl,hi,rfl,rfl,htk⟩ hR;simp (disch:=omega) only [jr,bg,cO,dw,gy,je,bP,qy,xw,zR,zM,zD,zC,yT,yG,yQ,jF,yA,yM,yO,yV,jD,jC,jB,zG,yL,zY,zB,decide_true,decide_false,Zad,Zae,yP];by_cases hlt:i<l.length
 ·simp only [show (i:Int)<(l.length:Int) by omega,decide_true,zD];have hx:l[i]? = some l[i]:=List.getElem?_eq_getElem hlt;rw [xg rfl hlt,ldL (cZ hx)];simp (disch:=omega) only [jr,bg,cO,dw,gy,je,bP,qy,xw,zR,zM,zD,zC,yT,yG,yQ,jF,yA,yM,yO,yV,jD,jC,jB,zG,yL,zY,zB,decide_true,decide_false,Zad,Zae,yP];have hd:l.drop i=l[i]::l.drop (i+1):=Zan hlt;by_cases h0:l[i]=0
  ·simp only [h0,decide_true,Zad,zC];refine hR _ _ _ _ _ _ _ _ (by omega) ⟨i+1,rfl,rfl,by omega,rfl,rfl,fun e he => ?_⟩;rw [Zam,hx] at he;rcases List.mem_append.1 he with q | q
   ·exact htk e q
   ·simp at q;rw [q];exact h0
  ·simp only [h0,decide_false,Zae,zD];refine hK _ ?_ hf;rw [kS l i htk,hd,gY,if_pos h0]
 ·simp only [show ¬ (i:Int)<(l.length:Int) by omega,decide_false,zC];obtain rfl:i=l.length:=by omega
  rw [F94.k8];refine hK _ ?_ hf;have:=kS l l.length htk;rw [this,List.drop_length];rfl
theorem zbx (n:Int):Pure Tryz.prog B 95 [I n] (· = I (if n<0\/256<n then 3 else 0)):=by
 intro p h nx K hK;refine zS zW yt 9 fun hf => ?_;rw [F95.go];simp only [je];by_cases c1:n<0
 ·simp only [c1,decide_true,yQ,zR];refine qY _ _ _ _ _ _ ?_;rintro _ rfl hf2;exact hK _ (by rw [if_pos (.inl c1)];rfl) hf2
 ·simp only [c1,decide_false,yG,qy,zM];refine qY _ _ _ _ _ _ ?_;rintro _ rfl hf2;refine hK _ ?_ hf2;by_cases c2:256<n
  ·rw [if_pos (.inr c2),if_pos (decide_eq_true c2)]
  ·rw [if_neg (by omega),if_neg (by simpa using c2)]
theorem zqn {l:List Int} (hl:l.length<=100000):Pure Tryz.prog B 198 [encI l] (· = I (uB l)):=by
 refine y8 fun h nx K H0 hK=>zS zW yt 1000000 fun hf => ?_;rw [yx.go];rw [zG];simp only [qy];by_cases c:(256:Int)<(l.length:Int)
 ·simp only [c,decide_true,zD];exact hK _ _ _ _ _ H0 (zJ rfl) (by rw [uB,if_pos (by omega)])
 have hpe:uB l=if fA l then 0 else 14:=by rw [uB,if_neg (by omega)]
 simp only [c,decide_false,zC];rw [zG];refine H0.mk1 l.length rfl rfl (by omega) (by decide) fun tb h1 nx1 H1 => ?_;rw [zG];have e0:List.replicate l.length (AV.bool false)=(oh l.length []).map AV.bool:=by simp [oh]
 rw [e0] at H1
 refine yx.L2 (fun m x3 h' nx'=>∃ i:Nat,x3=I i/\m=l.length-i/\i<=l.length/\(l.take i).Nodup/\(∀ x∈l.take i,0<=x/\x<(l.length:Int))/\Hp h h' nx' [.arr tb ((oh l.length (l.take i)).map AV.bool)]) (m:=l.length) (by omega)
  ⟨0,rfl,by omega,by omega,by simp,by simp,by simpa using H1⟩ ?_
 rintro m z1 z3 z7 z8 z9 h2 nx2 R ⟨i,rfl,rfl,hi,hnd,hrg,H2⟩ hR;simp only [je];by_cases hlt:i<l.length
 case neg =>
  simp only [show ¬ (i:Int)<(l.length:Int) by omega,decide_false,zC];rw [yx.k10];rw [Zal (by omega)] at hnd hrg;exact hK _ _ _ _ _ H2 (zJ rfl) (by rw [hpe,if_pos ⟨hnd,hrg⟩])
 simp only [show (i:Int)<(l.length:Int) by omega,decide_true,zD];have hx:l[i]? = some l[i]:=List.getElem?_eq_getElem hlt;have bad:¬ fA l->K (I 14) h2 nx2=.ok True:=fun q=>hK _ _ _ _ _ H2 (zJ rfl) (by rw [hpe,if_neg q]);have hrange:fA l->0<=l[i]/\l[i]<(l.length:Int):=fun q=>q.2 _ (Zai hlt);rw [xg rfl hlt,ldL (cZ hx)];by_cases c1:l[i]<0
 ·simp only [je,c1,decide_true,yQ,zR,zD];exact bad fun q=>by have:=hrange q;omega
 simp only [je,c1,decide_false,yG];rw [zG];simp only [xw,zM];by_cases c2:(l.length:Int)<=l[i]
 ·simp only [c2,decide_true,yQ,zR,zD];exact bad fun q=>by have:=hrange q;omega
 simp only [c2,decide_false,yG];have hk:(l[i]).toNat<l.length:=by omega
 have hg:((oh l.length (l.take i)).map AV.bool)[(l[i]).toNat]? = some (.bool (decide (l[i]∈l.take i))):=by
  rw [List.getElem?_map,zfy (fun x hx=>(hrg x hx).1) hk,show (((l[i]).toNat:Nat):Int)=l[i] by omega];rfl
 rw [sIx (i:=(l[i]).toNat) (by omega) hk,H2.load (k:=0) rfl hg];simp only [zM];by_cases c3:l[i]∈l.take i
 ·simp only [c3,decide_true,zD];refine bad fun q => ?_;obtain ⟨j,hj⟩:=List.mem_iff_getElem?.1 c3;have hjl:=(List.getElem?_eq_some_iff.1 hj).1;rw [Zba] at hjl;rw [List.getElem?_take_of_lt (by omega)] at hj;obtain ⟨a1,a2⟩:=List.getElem?_eq_some_iff.1 hj;exact List.pairwise_iff_getElem.1 q.1 j i a1 hlt (by omega) a2
 simp only [c3,decide_false,zC];rw [yx.k8,sIx (i:=(l[i]).toNat) (by omega) hk];refine H2.store (k:=0) rfl (by rw [Zaq,mV];exact hk) rfl fun h3 H3 => ?_;rw [yx.k9,jr (by omega)];have htk:l.take (i+1)=l.take i++[l[i]]:=by rw [Zam,hx];rfl
 refine hR _ _ _ _ _ _ _ _ (by omega) ⟨i+1,rfl,rfl,by omega,?_,?_,H3.cast ?_⟩
 ·rw [htk];exact List.nodup_append.2 ⟨hnd,by simp,fun a ha b hb=>by simp at hb;subst hb;rintro rfl;exact c3 ha⟩
 ·intro x hm;rw [htk] at hm;rcases List.mem_append.1 hm with q | q
  ·exact hrg x q
  ·simp at q;subst q;omega
 ·rw [htk,zc0];simp [List.map_set]
theorem zk1 {l:List Int} (hl:l.length<=100000):Pure Tryz.prog B 140 [encI l] (· = .bool (decide (uB l=0))):=by
 intro p h nx K hK;refine zS zW yt 100 fun hf => ?_;rw [eG.go];refine zqn hl _ _ _ _ ?_;rintro _ rfl hf2;simp only [dw];exact hK _ rfl hf2
theorem zop {g:List Int} {c:Bool} {n:Int} (hl:g.length<=100000):Pure Tryz.prog B 56 [.agg [encI g,.bool c],I n] (· = I (jM g n)):=by
 refine y8 fun h nx K H0 hK=>zS zW yt 1000 fun hf => ?_;rw [F56.go];refine H0.box (l:=[encI g,.bool c]) rfl fun bx h1 nx1 H1 => ?_;rw [sFx,H1.load (k:=0) (i:=0+0) rfl rfl];simp only [zG,gy];rw [sFx,H1.load (k:=0) (i:=0+0) rfl rfl];refine zbx n _ _ _ _ ?_;rintro _ rfl _;rw [H1.load (k:=0) (i:=0+0) rfl rfl];simp only [zB,sFx,gy,zG];rw [H1.load (k:=0) (i:=0+0) rfl rfl];simp only [zB];refine qY _ _ _ _ _ _ ?_;rintro _ rfl _;rw [H1.load (k:=0) (i:=0+0) rfl rfl];simp only [zB];refine zk1 hl _ _ _ _ ?_;rintro _ rfl _;simp only [yA];refine qY _ _ _ _ _ _ ?_;rintro _ rfl _;refine H1.yc (l:=[I (if n<0\/256<n then 3 else 0),I (if (!decide ((g.length:Int)=n))=true then 2 else 0),I (if (!decide (uB g=0))=true then 14 else 0)]) rfl fun id h4 nx4 H4 => ?_;refine kK (l:=[if n<0\/256<n then 3 else 0,if (!decide ((g.length:Int)=n))=true then 2 else 0,if (!decide (uB g=0))=true then 14 else 0]) H4 (k:=0) rfl (fun B=>xU (by simp)) (fun v hv=>by rw [hv];exact .int _ _) ?_;rintro _ rfl;refine hK _ _ _ _ _ H4 (zJ rfl) ?_
 congr 1
 rw [jM];by_cases c1:n<0\/256<n
 ·rw [if_pos c1,if_pos c1];rfl
 rw [if_neg c1,if_neg c1];by_cases c2:(g.length:Int)=n
 case neg=>rw [if_pos (show (g.length:Int)≠n from c2),decide_eq_false c2];rfl
 rw [if_neg (show ¬ ((g.length:Int)≠n) from fun q=>q c2),decide_eq_true c2];have:uB g=if fA g then 0 else 14:=by rw [uB,if_neg (by omega)]
 rw [this];by_cases c3:fA g
 ·rw [if_pos c3];rfl
 ·rw [if_neg c3];rfl
theorem mZ {G:List Sym} {n:Int} (hG:G.length<=100000) (hw:∀ g∈G,g.1.length<=100000):Pure Tryz.prog B 97 [jd G,I n] (· = I (jL n G)):=by
 refine y8 fun h nx K H0 hK=>zS zW yt 1000000 fun hf => ?_;rw [F97.go];simp only [zG];refine F97.L1 (fun m x7 h' nx'=>∃ (i:Nat) (L:List Ob),x7=I i/\G.length-i=m/\i<=G.length/\jL n G=jL n (G.drop i)/\Hp h h' nx' L) (m:=G.length) (by omega) ⟨0,_,rfl,rfl,by omega,rfl,H0⟩ ?_;rintro m z2 z3 z4 z7 z8 z9 h2 nx2 R ⟨i,L,rfl,rfl,hi,hs,H2⟩ hR;simp only [je];by_cases hlt:i<G.length
 case neg =>
  simp only [show ¬ (i:Int)<(G.length:Int) by omega,decide_false,zC];obtain rfl:i=G.length:=by omega
  rw [F97.k8];exact hK _ _ _ _ _ H2 (zJ rfl) (by rw [hs,List.drop_length];rfl)
 simp only [show (i:Int)<(G.length:Int) by omega,decide_true,zD];rw [xg rfl hlt,jU hlt,uV];refine H2.alloc fun ab h5 nx5 H5 => ?_;refine H5.qm (k:=0) (n:=2) rfl rfl rfl fun h6 H6 => ?_;rw [H6.zi (k:=0) (n:=2) rfl rfl];refine zop (hw _ (Zai hlt)) _ _ _ _ ?_;rintro _ rfl _;have hs2:=dV hlt (n:=n);simp only [gy];by_cases c:jM G[i].1 n=0
 ·simp only [c,decide_true,Zad,zC];rw [jr (by omega)];exact hR _ _ _ _ _ _ _ _ _ (by omega) ⟨i+1,_,rfl,rfl,by omega,by rw [hs,hs2,if_neg (by simp [c])],H6⟩
 ·simp only [c,decide_false,Zae,zD];exact hK _ _ _ _ _ H6 (zJ rfl) (by rw [hs,hs2,if_pos c])
def cmpS (a b:Sym):Int:=if cmpL a.1 b.1≠0 then cmpL a.1 b.1 else if a.2=b.2 then 0 else if a.2 then 1 else -1
theorem zf5 (a b:Sym):cmpS a b<0↔fJ a b=true:=by
 rw [cmpS,fJ];by_cases c:a.1=b.1
 ·have:=(zf4 a.1 b.1).2 c;rw [if_neg (by simp [this]),if_pos c];cases a.2 <;> cases b.2 <;> decide
 ·have:¬ cmpL a.1 b.1=0:=fun q=>c ((zf4 a.1 b.1).1 q);rw [if_pos this,if_neg c];exact cmp_neg a.1 b.1
theorem zto {a b:Bool} {K:AV->OP}:zo .eql .bool (.bool a) (.bool b) K=K (.bool (decide (a=b))):=by cases a <;> cases b <;> exact nr rfl
theorem zh2 {a b:Sym} (ha:a.1.length<=1000000) (hb:b.1.length<=1000000):Pure Tryz.prog B 162 [encS a,encS b] (· = I (cmpS a b)):=by
 refine y8 fun h nx K H0 hK=>zS zW yt 1000 fun hf => ?_;rw [fG.go];refine H0.box (l:=[encI a.1,.bool a.2]) rfl fun bx h1 nx1 H1 => ?_;refine H1.box (l:=[encI b.1,.bool b.2]) rfl fun by' h2 nx2 H2 => ?_
 rw [sFx,H2.load (k:=1) (i:=0+0) rfl rfl,sFx,H2.load (k:=0) (i:=0+0) rfl rfl];refine zkv ha hb _ _ _ _ ?_;rintro _ rfl _;simp only [gy];by_cases c:cmpL a.1 b.1=0
 case neg =>
  simp only [c,decide_false,Zae,yQ,zR,zD];exact hK _ _ _ _ _ H2 (zJ rfl) (by rw [cmpS,if_pos c])
 simp only [c,decide_true,Zad,yG];rw [sFx,H2.load (k:=1) (i:=0+1) rfl rfl,sFx,H2.load (k:=0) (i:=0+1) rfl rfl,zto];simp only [zM];by_cases c2:a.2=b.2
 ·simp only [c2,decide_true,zD];exact hK _ _ _ _ _ H2 (zJ rfl) (by rw [cmpS,if_neg (by simp [c]),if_pos c2])
 simp only [c2,decide_false,zC];rw [fG.k1,sFx,H2.load (k:=1) (i:=0+1) rfl rfl];cases c3:a.2 with
 | true =>
  simp only [zD];exact hK _ _ _ _ _ H2 (zJ rfl) (by rw [cmpS,if_neg (by simp [c]),if_neg c2,c3];rfl)
 | false =>
  simp only [zC];exact hK _ _ _ _ _ H2 (zJ rfl) (by rw [cmpS,if_neg (by simp [c]),if_neg c2,c3];rfl)
theorem xT {N:Pa->Prop} {O:AV->Prop} {hh:T Blk} {a b a' b':AV} (h1:Frz True N O hh a a') (h2:Frz True N O hh b b') (hs:([a',b']:List AV).all jf=true):Frz True N O hh (.agg [a,b]) (.agg [a',b']):=by
 refine .agg _ _ rfl hs fun i v v' hi hi' => ?_
 match i with
 | 0=>simp at hi hi';subst hi;subst hi';exact h1
 | 1=>simp at hi hi';subst hi;subst hi';exact h2
 | i+2=>simp at hi
def idP (n i:Nat):List Int:=(List.range n).map fun j:Nat=>if j<i then (j:Int) else 0
def idS (n:Nat):Sym:=((List.range n).map fun j:Nat=>(j:Int),false)
@[simp] theorem zwh (n i:Nat):(idP n i).length=n:=by simp [idP]
theorem zqo {n i:Nat}:(idP n i).set i (i:Int)=idP n (i+1):=by
 refine Zay fun j => ?_;rw [List.getElem?_set,idP,idP,Zaq,List.length_range,List.getElem?_map,List.getElem?_map];by_cases hj:j<n
 ·rw [List.getElem?_range hj];by_cases e:i=j
  ·subst e;simp [hj]
  ·rw [if_neg e];simp only [Zbu]
   congr 1
   by_cases c:j<i
   ·rw [if_pos c,if_pos (by omega)]
   ·rw [if_neg c,if_neg (by omega)]
 ·rw [List.getElem?_eq_none (l:=List.range n) (by simp;omega)];by_cases e:i=j
  ·rw [if_pos e,if_neg (by omega)];rfl
  ·rw [if_neg e];rfl
theorem dW {a b:AV} (ha:a.cells=some [a]) (hb:b.cells=some [b]) {K:AV->OP}:gI [.zh,.bool false] [(0,1,a),(1,1,b)] K=K (.agg [a,b]):=by
 unfold gI;simp only [uC,ha,hb]
 rfl
theorem zf6 {n:Nat} (hn:n<=1000):Pure Tryz.prog B 163 [I n] (· = encS (idS n)):=by
 refine y8 fun h nx K H0 hK=>zS zW yt 1000000 fun hf => ?_;rw [uw.go];refine H0.alloc fun r h1 nx1 H1 => ?_;refine H1.mk1 n rfl rfl (by omega) (by decide) fun tb h2 nx2 H2 => ?_;have e:∀ K:AV->OP,gI [.zh,(.bool false)] [(0,1,.sl tb 0 n (some n) 1)] K=K (.agg [.sl tb 0 n (some n) 1,.bool false]):=fun K=>nr rfl;rw [e];refine H2.alloc fun s h3 nx3 H3 => ?_;refine H3.qm (k:=0) (n:=2) rfl rfl rfl fun h4 H4 => ?_;rw [sFx,H4.load (k:=0) (i:=0+0) rfl rfl,yL];have e0:List.replicate n (I 0)=(idP n 0).map I:=by
  rw [idP,List.map_map];rw [show ((I ∘ fun j:Nat=>if j<0 then (j:Int) else 0):Nat->AV)=fun _=>I 0 from funext fun j=>by simp,List.map_const',List.length_range]
 refine uw.L1 (fun m x5 h' nx'=>∃ i:Nat,x5=I i/\n-i=m/\i<=n/\Hp h h' nx' [.arr s [.sl tb 0 n (some n) 1,.bool false],.arr tb ((idP n i).map I),.arr r [.zh,.bool false]]) (m:=n) (by omega) ⟨0,rfl,rfl,by omega,H4.cast (by rw [e0];rfl)⟩ ?_;rintro m z3 z5 z6 h5 nx5 R ⟨i,rfl,rfl,hi,H5⟩ hR;simp only [je];by_cases hlt:i<n
 ·simp only [show (i:Int)<(n:Int) by omega,decide_true,zD];rw [sFx,H5.load (k:=0) (i:=0+0) rfl rfl,sIx (i:=i) rfl hlt];refine H5.store (k:=1) rfl (by simpa using hlt) rfl fun h6 H6 => ?_;rw [jr (by omega)];refine hR _ _ _ _ _ _ (by omega) ⟨i+1,rfl,rfl,by omega,H6.cast ?_⟩;rw [<- zqo,List.map_set];rfl
 ·simp only [show ¬ (i:Int)<(n:Int) by omega,decide_false,zC];obtain rfl:i=n:=by omega
  rw [uw.k8,H5.zi (k:=0) (n:=2) rfl rfl];refine H5.qm (k:=2) (n:=2) rfl rfl rfl fun h6 H6 => ?_;rw [H6.zi (k:=2) (n:=2) rfl rfl];have e1:idP i i=(idS i).1:=Zcd fun j hj=>by rw [if_pos (List.mem_range.1 hj)]
  have e2:(idS i).1.length=i:=by simp [idS]
  refine hK _ _ _ _ (encS (idS i)) H6 ?_ rfl;refine xT ?_ (zJ rfl) rfl;have:=H6.zd7 (k:=1) (cap:=some i) (e:=1) (n:=i) rfl (Zak _) (by simp) (fun v hv=>by obtain ⟨x,_,rfl⟩:=List.mem_map.1 hv;rfl);rw [e1] at this;have e3:encI (idS i).1=.lst 1 i ((idS i).1.map I):=by rw [encI,e2]
  rw [e3];exact this
def xW (p q:List Int) (i:Nat):List Int:=uD p (q.take i)++List.replicate (q.length-i) 0
theorem uL (p q:List Int):(uD p q).length=q.length:=by simp [uD]
theorem zc3 {p q:List Int} {i:Nat} (hi:i<=q.length):(xW p q i).length=q.length:=by simp [xW,uL];omega
theorem zk2 {p q:List Int} {i:Nat} {x:Int} (h:q[i]? = some x):(xW p q i).set i (p.getD x.toNat 0)=xW p q (i+1):=by
 have hi:=(List.getElem?_eq_some_iff.1 h).1;have hl:(uD p (q.take i)).length=i:=by rw [uL,Zba];omega
 rw [xW,xW,zbt h,List.set_append_right _ _ (by omega),hl];rw [show q.length-i=(q.length-(i+1))+1 by omega,List.replicate_succ,Nat.sub_self,List.set_cons_zero];simp
theorem pT {a b:Sym} (hq:∀ x∈b.1,0<=x/\x<(a.1.length:Int)) (hl:b.1.length<=1000):Pure Tryz.prog B 122 [encS a,encS b] (· = encS (zP a b)):=by
 refine y8 fun h nx K H0 hK=>zS zW yt 1000000 fun hf => ?_;rw [uy.go];refine H0.box (l:=[encI a.1,.bool a.2]) rfl fun ba h1 nx1 H1 => ?_;refine H1.box (l:=[encI b.1,.bool b.2]) rfl fun bb h2 nx2 H2 => ?_;refine H2.alloc fun r h3 nx3 H3 => ?_;have hch:(mkSl 8 (I (b.1.length:Int)) (I (b.1.length:Int))&&true)=true:=by
  have:mkSl 8 (I (b.1.length:Int)) (I (b.1.length:Int))=(Nat.ble b.1.length b.1.length&&Nat.ble b.1.length 1000000&&Nat.ble (8*b.1.length) 281474976710656):=rfl;rw [this,Zab (Zak _),Zab (by omega),Zab (by omega)];rfl
 rw [show (true&&true)=true from rfl,yP,sFx,H3.load (k:=1) (i:=0+0) rfl rfl,zG,hch,yP,sFx,H3.load (k:=2) (i:=0+1) rfl rfl,sFx,H3.load (k:=1) (i:=0+1) rfl rfl,zbu];refine H3.mk1 b.1.length rfl rfl (by omega) (by decide) fun tb h4 nx4 H4 => ?_;rw [zbu,zB,H4.load (k:=2) (i:=0+1) rfl rfl,zB,sFx,zB,H4.load (k:=3) (i:=0+1) rfl rfl,zB,sFx,zB,zG,zB,H4.load (k:=2) (i:=0+0) rfl rfl,zB,sFx,zB,dW rfl rfl];refine H4.alloc fun s h5 nx5 H5 => ?_;rw [dW rfl rfl,zB,zbu,zB,H5.load (k:=3) (i:=0+1) rfl rfl,zB,sFx,zB,H5.load (k:=4) (i:=0+1) rfl rfl,zB,sFx,zB,zG,zB,H5.load (k:=3) (i:=0+0) rfl rfl,zB,sFx,zB];refine H5.qm (k:=0) (n:=2) rfl rfl rfl fun h6 H6 => ?_;rw [sFx,H6.load (k:=3) (i:=0+0) rfl rfl,zG];have e0:List.replicate b.1.length (I 0)=(xW a.1 b.1 0).map I:=by simp [xW,uD]
 refine uy.L1 (fun m x10 h' nx'=>∃ i:Nat,x10=I i/\b.1.length-i=m/\i<=b.1.length/\Hp h h' nx' [.arr s [.sl tb 0 b.1.length (some b.1.length) 1,.bool (a.2 != b.2)],.arr tb ((xW a.1 b.1 i).map I),.arr r [.zh,.bool false],.arr bb [encI b.1,.bool b.2],.arr ba [encI a.1,.bool a.2]]) (m:=b.1.length) (by omega) ⟨0,rfl,rfl,by omega,H6.cast (by rw [e0];rfl)⟩ ?_;rintro m z6 z7 z10 z11 h7 nx7 R ⟨i,rfl,rfl,hi,H7⟩ hR;simp only [je];by_cases hlt:i<b.1.length
 ·simp only [show (i:Int)<(b.1.length:Int) by omega,decide_true,zD];have hx:b.1[i]? = some b.1[i]:=List.getElem?_eq_getElem hlt;obtain ⟨q1,q2⟩:=hq _ (Zai hlt);have hy:a.1[b.1[i].toNat]? = some (a.1.getD b.1[i].toNat 0):=by rw [Zac,List.getElem?_eq_getElem (by omega)];rfl
  rw [xg rfl hlt,ldL (cZ hx),sFx,H7.load (k:=0) (i:=0+0) rfl rfl,sFx,H7.load (k:=4) (i:=0+0) rfl rfl,xg (i:=b.1[i].toNat) (by omega) (by omega),ldL (cZ hy),sIx (i:=i) rfl hlt];refine H7.store (k:=1) rfl (by rw [Zaq,zc3 hi];exact hlt) rfl fun h8 H8 => ?_;rw [jr (by omega)];refine hR _ _ _ _ _ _ _ (by omega) ⟨i+1,rfl,rfl,by omega,H8.cast ?_⟩;rw [<- zk2 hx,List.map_set];rfl
 ·simp only [show ¬ (i:Int)<(b.1.length:Int) by omega,decide_false,zC];obtain rfl:i=b.1.length:=by omega
  rw [uy.k8,H7.zi (k:=0) (n:=2) rfl rfl];refine H7.qm (k:=2) (n:=2) rfl rfl rfl fun h8 H8 => ?_;rw [H8.zi (k:=2) (n:=2) rfl rfl];have e1:xW a.1 b.1 b.1.length=(zP a b).1:=by simp [xW,zP]
  have e2:(zP a b).1.length=b.1.length:=uL _ _;refine hK _ _ _ _ (encS (zP a b)) H8 ?_ rfl;refine xT ?_ (zJ rfl) rfl;have:=H8.zd7 (k:=1) (cap:=some b.1.length) (e:=1) (n:=b.1.length) rfl (Zak _) (by rw [Zaq,zc3 (Zak _)];omega) (fun v hv=>by obtain ⟨x,_,rfl⟩:=List.mem_map.1 hv;rfl);rw [e1] at this;have e3:encI (zP a b).1=.lst 1 b.1.length ((zP a b).1.map I):=by rw [encI,e2]
  rw [e3];exact this
def keyN (a:Sym):List Nat:=a.1.map Int.toNat++(if a.2 then [1] else [])
def xk (a:Sym):List UInt8:=(keyN a).map UInt8.ofNat
def DS (n:Nat) (a:Sym):Prop:=a.1.length=n/\∀ x∈a.1,0<=x/\x<(n:Int)
theorem zoq {n:Nat} (hn:n<=256) {a b:Sym} (ha:DS n a) (hb:DS n b) (h:xk a=xk b):a=b:=by
 have hlt:∀ {c:Sym},DS n c->∀ x∈keyN c,x<256:=fun {c} hc x hx=>by
  rcases List.mem_append.1 hx with q | q
  ·obtain ⟨y,hy,rfl⟩:=List.mem_map.1 q;have:=hc.2 y hy;omega
  ·by_cases c2:c.2=true
   ·rw [if_pos c2] at q;simp at q;omega
   ·rw [if_neg c2] at q;cases q
 have hid:∀ {c:Sym},DS n c->(xk c).map UInt8.toNat=keyN c:=fun {c} hc=>by
  rw [xk,List.map_map]
  conv=>rhs;rw [<- List.map_id (keyN c)]
  exact Zcd fun x hx=>by
   show (UInt8.ofNat x).toNat=x;rw [UInt8.toNat_ofNat'];exact Nat.mod_eq_of_lt (hlt hc x hx)
 have e:keyN a=keyN b:=by rw [<- hid ha,<- hid hb,h]
 have hl:(a.1.map Int.toNat).length=(b.1.map Int.toNat).length:=by simp [ha.1,hb.1]
 obtain ⟨e1,e2⟩:=List.append_inj e hl;have back:∀ {c:Sym},DS n c->(c.1.map Int.toNat).map Int.ofNat=c.1:=fun {c} hc=>by
  rw [List.map_map]
  conv=>rhs;rw [<- List.map_id c.1]
  exact Zcd fun x hx=>by
   have:=hc.2 x hx;show ((x.toNat:Nat):Int)=x;omega
 have e3:a.1=b.1:=by rw [<- back ha,<- back hb,e1]
 refine Prod.ext e3 ?_;cases h1:a.2 <;> cases h2:b.2 <;> rw [h1,h2] at e2 <;> first | rfl | simp at e2
theorem Hp.zjk {K:AV->T Blk->Pa->OP} {h0 h:T Blk} {nx:Pa} {L:List Ob} {k n c bytes:Nat} {id:Pa} {l:List AV} {v x:AV} (H:Hp h0 h nx L) (hk:L[k]? = some (.arr id l)) (hl:l.length=c) (hn:n<c) (hx:∀ (no:OP) (K':List AV->Nat->OP),kI x h no K'=K' [v] 1) (hs:Go.Ev.jf v=true) (hb:bytes*1000000<=70368744177664) (hc:c<=1000000)
  (hK:∀ h',Hp h0 h' nx (L.set k (.arr id (l.set n v)))->K (.sl id 0 (n+1) (some c) 1) h' nx=.ok True):tq 1 bytes (.sl id 0 n (some c) 1) x h nx K=.ok True:=by
 have hcc:(Nat.ble (bytes*1000000) 70368744177664&&Nat.beq [v].length (1*1)&&Nat.ble 1 1&&[v].all Go.Ev.jf)=true:=by
  rw [Zab hb];simp [hs]
 unfold tq eP;rw [hx,hcc,cond_true];obtain ⟨op,t,h1,h2⟩:jc h id l:=H.own _ (Zaa hk);show (bif Nat.beq 1 1&&Nat.ble (n+1) 1000000 then jg (T.get .no id h) _ (.no 35) else .no 36)=_;rw [h1,Zab (by omega)];show (bif Nat.ble (0+n*1) l.length then (bif Nat.ble (n+1) c then (bif Nat.ble (0+(n+1)*1) l.length then kF id 0 n (some c) 1 op l.length t [v] 1 h nx K else .no 32) else uP 0 n 1 t [v] 1 h nx K) else .no 34)=_;rw [Zab (by omega),Zab (show n+1<=c by omega),Zab (by omega),cond_true,cond_true,cond_true];unfold kF;rw [yW,T.yu,yD];refine hK _ (H.upd hk (by simp [Ob.names]) rfl ?_);have:=jc.set (v:=v) h1 h2 (show n<l.length by omega);rw [Zce,Zaw];exact this
theorem zor:∀ l:List Nat,b2sA (l.map u8)=some (l.map UInt8.ofNat)
 | []=>rfl
 | x::l=>by
  show (match b2sA (l.map u8) with
   | some s=>some (UInt8.ofNat ((x:Int)).toNat::s)
   | none=>none)=_
  rw [zor l];rfl
theorem Hp.b2s {h0 h:T Blk} {nx:Pa} {L:List Ob} {k n:Nat} {id:Pa} {cap:Option Nat} {l:List AV} {y:List Nat} {op:AV->OP} (H:Hp h0 h nx L) (hk:L[k]? = some (.arr id l)) (hn:n<=l.length) (hy:l.take n=y.map u8):sB2s (.sl id 0 n cap 1) h op=op (.str (y.map UInt8.ofNat)):=by
  obtain ⟨o,t,h1,h2⟩:jc h id l:=H.own _ (Zaa hk);show jg (T.get .no id h) _ _=_;rw [h1]
  show (bif Nat.ble (0+n) l.length then (match b2sA (yJ t 0 n) with
          | some s=>op (.str s)
          | none=>.no 21) else .no 21)=_
  have e:yJ t 0 n=l.take n:=by
    refine Zay fun i => ?_;by_cases hi:i<n
    · rw [yC _ _ _ _ hi,List.getElem?_take_of_lt hi]
      conv=>rhs;rw [<- h2]
      rw [yC _ _ _ _ (by omega)]
    · rw [List.getElem?_eq_none (by simp;omega),List.getElem?_eq_none (by simp;omega)]
  rw [Zab (by omega),cond_true,e,hy,zor]
def padN (y:List Nat) (c:Nat):List AV:=y.map u8++List.replicate (c-y.length) (.int .u8 0)
theorem d5 {y:List Nat} {c:Nat} (h:y.length<=c):(padN y c).length=c:=by simp [padN];omega
theorem zf7 {y:List Nat} {c x:Nat} (h:y.length<c):(padN y c).set y.length (u8 x)=padN (y++[x]) c:=by
 rw [padN,padN,List.set_append_right _ _ (by simp),Zaq,Nat.sub_self,show c-y.length=(c-(y++[x]).length)+1 by simp;omega,List.replicate_succ,List.set_cons_zero];simp
theorem xP {a:Sym} (ha:∀ x∈a.1,0<=x/\x<256) (hl:a.1.length<=1000):Pure Tryz.prog B 123 [encS a] (· = .str (xk a)):=by
 refine y8 fun h nx K H0 hK=>zS zW yt 1000000 fun hf => ?_;rw [gq.go];refine H0.box (l:=[encI a.1,.bool a.2]) rfl fun ba h1 nx1 H1 => ?_;rw [sFx,H1.load (k:=0) (i:=0+0) rfl rfl,zG,jr (by omega)];refine H1.mkN (n:=0) (c:=a.1.length+1) rfl (by omega) (by omega) (by omega) (by omega) fun tb h2 nx2 H2 => ?_;rw [sFx,H2.load (k:=1) (i:=0+0) rfl rfl,zG];have e0:fB (a.1.length+1) [AV.int .u8 0]=padN [] (a.1.length+1):=by rw [zfg];rfl
 refine gq.L1 (fun m x3 x7 h' nx'=>∃ i:Nat,x7=I i/\x3=.sl tb 0 i (some (a.1.length+1)) 1/\a.1.length-i=m/\i<=a.1.length/\Hp h h' nx' [.arr tb (padN ((a.1.take i).map Int.toNat) (a.1.length+1)),.arr ba [encI a.1,.bool a.2]]) (m:=a.1.length) (by omega) ⟨0,rfl,rfl,rfl,by omega,H2.cast (by rw [e0];rfl)⟩ ?_;rintro m z3 z4 z7 z8 h3 nx3 R ⟨i,rfl,rfl,rfl,hi,H3⟩ hR;simp only [je];have hlen:((a.1.take i).map Int.toNat).length=i:=by simp;omega
 by_cases hlt:i<a.1.length
 ·simp only [show (i:Int)<(a.1.length:Int) by omega,decide_true,zD];have hx:a.1[i]? = some a.1[i]:=List.getElem?_eq_getElem hlt;obtain ⟨q1,q2⟩:=ha _ (Zai hlt);obtain ⟨c,hc⟩:∃ c:Nat,a.1[i]=(c:Int):=⟨a.1[i].toNat,by omega⟩;rw [xg rfl hlt,ldL (cZ hx),hc,zon,Nat.mod_eq_of_lt (by omega)];refine H3.yc (l:=[u8 c]) rfl fun t1 h4 nx4 H4 => ?_;refine H4.zjk (k:=1) (n:=i) (v:=u8 c) rfl (d5 (by omega)) (by omega) (jc.rd (l:=[u8 c]) (n:=1) (H4.own _ (Zaj ..)) rfl) rfl (by decide) (by omega) fun h5 H5 => ?_;rw [jr (by omega)];refine hR _ _ _ _ _ _ _ (by omega) ⟨i+1,rfl,rfl,rfl,by omega,H5.drop.cast ?_⟩;have e1:(a.1.take (i+1)).map Int.toNat=(a.1.take i).map Int.toNat++[c]:=by
   rw [Zam,hx,Zbz,hc];rfl
  have:=zf7 (y:=(a.1.take i).map Int.toNat) (c:=a.1.length+1) (x:=c) (by omega);rw [hlen] at this;rw [e1,<- this];rfl
 ·simp only [show ¬ (i:Int)<(a.1.length:Int) by omega,decide_false,zC];obtain rfl:i=a.1.length:=by omega
  rw [List.take_length] at H3 hlen;rw [gq.k8,sFx,H3.load (k:=1) (i:=0+1) rfl rfl];cases h2:a.2 with
  | false =>
   simp only [zC];rw [H3.b2s (k:=0) (y:=a.1.map Int.toNat) rfl (by rw [d5 (by omega)];omega) (by rw [padN,List.take_left' (by simp)])];exact hK _ _ _ _ _ H3 (zJ rfl) (by rw [xk,keyN,h2];simp)
  | true =>
   simp only [zD];refine H3.yc (l:=[u8 1]) rfl fun t1 h4 nx4 H4 => ?_;refine H4.zjk (k:=1) (n:=a.1.length) (v:=u8 1) rfl (d5 (by omega)) (by omega) (jc.rd (l:=[u8 1]) (n:=1) (H4.own _ (Zaj ..)) rfl) rfl (by decide) (by omega) fun h5 H5 => ?_;have:=zf7 (y:=a.1.map Int.toNat) (c:=a.1.length+1) (x:=1) (by omega);rw [hlen] at this;have H6:=H5.drop;rw [this] at H6;rw [H6.b2s (k:=0) (y:=a.1.map Int.toNat++[1]) rfl (by rw [d5 (by simp)];exact Zak _) (by rw [padN,List.take_left' (by simp)])];exact hK _ _ _ _ _ H6 (zJ rfl) (by rw [xk,keyN,h2];simp)
def wo (ks:List Sym):List (AV×AV):=ks.map fun b=>(.str (xk b),encS b)
theorem zos {n:Nat} (hn:n<=256) {a:Sym} (ha:DS n a):∀ (ks:List Sym) (i:Nat),(∀ b∈ks,DS n b)->(a∈ks->∃ j,u5 .str (.str (xk a)) (wo ks) i=some (some (j,encS a)))/\(a∉ks->u5 .str (.str (xk a)) (wo ks) i=some none)
 | [],i,_=>⟨fun h=>absurd h (by simp),fun _=>rfl⟩
 | b::ks,i,h=>by
  obtain ⟨r1,r2⟩:=zos hn ha ks (i+1) fun c hc=>h c (by simp [hc])
  have e:u5 .str (.str (xk a)) (wo (b::ks)) i=(match some (j5 (xk a) (xk b)) with
   | some true=>some (some (i,encS b))
   | some false=>u5 .str (.str (xk a)) (wo ks) (i+1)
   | none=>none):=rfl
  rw [e];by_cases c:a=b
  ·subst c;rw [vw.2 rfl];exact ⟨fun _=>⟨i,rfl⟩,fun q=>absurd (by simp) q⟩
  ·have hb:j5 (xk a) (xk b)=false:=by
    cases q:j5 (xk a) (xk b) with
    | false=>rfl
    | true=>exact absurd (zoq hn ha (h b (by simp)) (vw.1 q)) c
   rw [hb]
   exact ⟨fun q=>r1 (by
    rcases List.mem_cons.1 q with q | q
    ·exact absurd q c
    ·exact q),fun q=>r2 fun q2=>q (by simp [q2])⟩
theorem zwb {n:Nat} (hn:n<=256) {a:Sym} (ha:DS n a) {ks:List Sym} (hks:∀ b∈ks,DS n b) {h:T Blk} {id:Pa} {z:AV} {op:AV->OP} (own:T.get .no id h=.map (wo ks).length (wo ks)):zen .str z true (.map id) (.str (xk a)) h op=op (.tup [if a∈ks then encS a else z,.bool (decide (a∈ks))]):=by
 obtain ⟨r1,r2⟩:=zos hn ha ks 0 hks;show pq (T.get .no id h) _ _=_;rw [own]
 show (match gL .str (.str (xk a)) (wo ks) with
    | some (some (_,v))=>op (bif true then .tup [v,.bool true] else v)
    | some none=>op (bif true then .tup [z,.bool false] else z)
    | none=>.no 20)=_
 rw [show gL .str (.str (xk a)) (wo ks)=u5 .str (.str (xk a)) (wo ks) 0 from rfl];by_cases c:a∈ks
 ·obtain ⟨j,hj⟩:=r1 c;rw [hj,if_pos c,decide_eq_true c];rfl
 ·rw [r2 c,if_neg c,decide_eq_false c];rfl
theorem zby {n:Nat} (hn:n<=256) {a:Sym} (ha:DS n a) {ks:List Sym} (hks:∀ b∈ks,DS n b) {h0 h:T Blk} {nx p id:Pa} {L:List Ob} {k:Nat} {K:Kw Prop} (H:Hp h0 h nx L) (hk:L[k]? = some (.map id (wo ks)))
  (hK:K (.bool (decide (a∈ks))) h nx=.ok True):(CS Tryz.prog B).fn 121 p [.map id,encS a] h nx K=.ok True:=by
 refine zhc (Q:=(· = .bool (decide (a∈ks)))) (fun hfr K hK=>zS zW yt 100 fun _ => ?_) (fun v hv _=>by rw [hv];exact hK);rw [eF.go];have own:T.get .no id h=.map (wo ks).length (wo ks):=H.own _ (Zaa hk);have Hb:=Hp.init hfr;refine Hb.box (l:=[encI a.1,.bool a.2]) rfl fun bx h1 nx1 H1 => ?_;rw [H1.zi (k:=0) (n:=2) rfl rfl];refine xP (fun x hx=>by have:=ha.2 x hx;omega) (by have:=ha.1;omega) _ _ _ _ ?_;rintro _ rfl _;have own1:T.get .no id h1=.map (wo ks).length (wo ks):=by rw [<- own];exact H1.keep id (by rw [own];intro q;cases q)
 rw [zwb hn ha hks own1,yM,yO];refine H1.alloc fun r h2 nx2 H2 => ?_;have hst:∃ l2:List AV,(if a∈ks then encS a else .agg [.zh,.bool false])=.agg l2/\l2.length=2:=by
  by_cases c:a∈ks
  ·exact ⟨_,if_pos c,rfl⟩
  ·exact ⟨_,if_neg c,rfl⟩
 obtain ⟨l2,e2,hl2⟩:=hst;rw [e2];refine H2.qm (k:=0) (n:=2) rfl rfl hl2 fun h3 H3 => ?_;exact hK _ _ _ H3.fr H3.keep ⟨_,zJ rfl,rfl⟩
theorem Hp.putS {n:Nat} (hn:n<=256) {a:Sym} (ha:DS n a) {ks:List Sym} (hks:∀ b∈ks,DS n b) (hna:a∉ks) {K:AV->T Blk->Pa->OP} {h0 h:T Blk} {nx:Pa} {L:List Ob} {k:Nat} {id:Pa} (H:Hp h0 h nx L) (hk:L[k]? = some (.map id (wo ks)))
  (hK:∀ h',Hp h0 h' nx (L.set k (.map id (wo (ks++[a]))))->K .undef h' nx=.ok True):xI .str (.map id) (.str (xk a)) (encS a) h nx K=.ok True:=by
 have own:T.get .no id h=.map _ _:=H.own _ (Zaa hk);obtain ⟨_,r2⟩:=zos hn ha ks 0 hks;show pq (T.get .no id h) _ _=_;rw [own]
 show (match gL .str (.str (xk a)) (wo ks) with
    | some (some (i,_))=>T.xu (β:=OP) Blk.no (Blk.map (wo ks).length ((wo ks).modify i fun e=>(e.1,encS a))) id h fun h'=>K .undef h' nx
    | some none=>qo ((wo ks).length+1) fun n=>T.xu (β:=OP) Blk.no (Blk.map n (wo ks++[(AV.str (xk a),encS a)])) id h fun h'=>K .undef h' nx
    | none=>Out.no 45)=_
 rw [show gL .str (.str (xk a)) (wo ks)=u5 .str (.str (xk a)) (wo ks) 0 from rfl,r2 hna];simp only [yD,T.yu];refine hK _ (H.upd hk (by simp [Ob.names]) rfl ?_);show T.get Blk.no id _=Blk.map _ _;rw [T.get_set_same];simp [wo]
theorem Hp.zrt {h0 h:T Blk} {nx:Pa} {L:List Ob} {k:Nat} {id:Pa} {ks:List Sym} {op:AV->OP} (H:Hp h0 h nx L) (hk:L[k]? = some (.map id (wo ks))):zif (.map id) h op=op (I ks.length):=by
 have own:T.get .no id h=.map _ _:=H.own _ (Zaa hk);show pq (T.get .no id h) _ _=_;rw [own];show qo (wo ks).length (fun n=>op (.int .i64 (.ofNat n)))=_;rw [yD,wo,Zaq];rfl
inductive QV:AV->Ob->List Sym->Prop
 | cap (id:Pa) (off:Nat) (l:List AV) (q:List Sym):off+q.length*2<=l.length->(l.drop off).take (q.length*2)=yN q->QV (.sl id off q.length (some q.length) 2) (.arr id l) q
 | opn (id:Pa) (off m:Nat) (l:List AV) (q:List Sym):off+q.length*2=m*2->l.length=m*2->l.drop off=yN q->QV (.sl id off q.length none 2) (.gro (some id) 2 m l) q
 | esl (id:Pa) (m:Nat) (l:List AV):QV .esl (.gro (some id) 2 m l) []
theorem u4 (q:List Sym):(yN q).length=q.length*2:=by
 induction q with
 | nil=>rfl
 | cons a q ih=>rw [yN,Zaz,Zat,<- yN,ih];simp;omega
theorem QV.len {v:AV} {o:Ob} {q:List Sym} (h:QV v o q) {op:AV->OP}:sLen v op=op (I q.length):=by
 cases h <;> exact nr rfl
theorem QV.names {v:AV} {o:Ob} {q:List Sym} (h:QV v o q):∃ id,o.names=[id]:=by
 cases h <;> exact ⟨_,rfl⟩
theorem QV.cells {v:AV} {o:Ob} {a:Sym} {q:List Sym} (h:QV v o (a::q)):∃ id off cap l,v=.sl id off (a::q).length cap 2/\off+(a::q).length*2<=l.length/\(l.drop off).take ((a::q).length*2)=yN (a::q)/\∀ hh,o.holds hh->∃ op t,T.get .no id hh=.cells op l.length t/\yJ t 0 l.length=l:=by
 cases h with
 | cap id off l _ h1 h2=>exact ⟨id,off,_,l,rfl,h1,h2,fun hh ho=>ho⟩
 | opn id off m l _ h1 h2 h3 =>
  refine ⟨id,off,_,l,rfl,by omega,by rw [h3,Zal (by rw [u4];exact Zak _)],fun hh ho => ?_⟩;obtain ⟨t,g1,g2,g3⟩:=ho;exact ⟨true,t,by rw [g1,h2],by rw [h2];exact g3⟩
theorem QV.first {v:AV} {o:Ob} {a:Sym} {q:List Sym} (h:QV v o (a::q)):∃ id off,(∀ op:AV->OP,zO 2 v (I 0) op=op (.ptr id off))/\∀ {h0 hh:T Blk} {nx:Pa} {L:List Ob} {k:Nat},Hp h0 hh nx L->L[k]? = some o->∀ op:AV->OP,zH 2 (.ptr id off) hh op=op (encS a):=by
 obtain ⟨id,off,cap,l,rfl,g3,g4,g⟩:=h.cells;refine ⟨id,off,fun op => ?_,fun {h0 hh nx L k} H hk op => ?_⟩
 ·have:=wG (id:=id) (off:=off) (n:=(a::q).length) (cap:=cap) (e:=2) (e':=2) (i:=0) (k:=.i64) (K:=op) (by simp);simpa using this
 ·obtain ⟨op',t,g1,g2⟩:=g hh (H.own _ (Zaa hk));show jg (T.get .no id hh) _ _=_;rw [g1];show (bif Nat.ble (off+2) l.length then op (.agg (yJ t off 2)) else .no 8)=_;have hl:(a::q).length=q.length+1:=rfl;rw [hl] at g3 g4;rw [Zab (by omega),cond_true];have e:∀ i,i<l.length->T.get .undef (.of i) t=l.getD i .undef:=fun i hi=>by
   have:=yC t 0 l.length i hi;rw [g2,Zaw] at this;rw [Zac,this];rfl
  have d:∀ i,i<2->l.getD (off+i) .undef=(yN (a::q)).getD i .undef:=fun i hi=>by
   rw [<- g4,Zac,Zac,List.getElem?_take_of_lt (by omega),List.getElem?_drop]
  have e2:yJ t off 2=[T.get .undef (.of off) t,T.get .undef (.of (off+1)) t]:=rfl;rw [e2,e off (by omega),e (off+1) (by omega),d 1 (by omega)];have:=d 0 (by omega);rw [Nat.add_zero] at this;rw [this];rfl
theorem QV.rest {v:AV} {o:Ob} {a:Sym} {q:List Sym} (h:QV v o (a::q)):∃ v',(∀ op:AV->OP,dE 2 v (some (I 1)) none none op=op v')/\QV v' o q:=by
 have hl:(a::q).length=q.length+1:=rfl;cases h with
 | cap id off l _ h1 h2 =>
  rw [hl] at h1 h2 ⊢
  have e0:∀ op:AV->OP,dE 2 (.sl id off (q.length+1) (some (q.length+1)) 2) (some (I 1)) none none op =
    (bif Nat.beq (q.length+1) 1 then op (.sl id off (q.length+1-1) (some 0) 2) else qo (off+1*2) fun off=>qo (q.length+1-1) fun h=>qo (q.length+1-1) fun m=>op (.sl id off h (some m) 2)):=fun op=>by
   show (match (bif Nat.ble 1 (q.length+1) then some 1 else none:Option Nat) with
    | none=>Out.no 17
    | some l=>bif Nat.beq (q.length+1) l then op (.sl id off (q.length+1-l) (some 0) 2)
     else qo (off+l*2) fun off=>qo (q.length+1-l) fun h=>qo (q.length+1-l) fun m=>op (.sl id off h (some m) 2))=_
   rw [Zab (by omega)];rfl
  cases q with
  | nil=>exact ⟨.sl id off 0 (some 0) 2,fun op=>by rw [e0];rfl,.cap id off l [] (by simp at h1 ⊢;omega) (by simp [yN])⟩
  | cons b q =>
   refine ⟨.sl id (off+2) (b::q).length (some (b::q).length) 2,fun op => ?_,.cap id (off+2) l (b::q) (by simp only [Zcb] at h1 ⊢;omega) ?_⟩
   ·rw [e0,tK (by simp)];simp only [yD,cond_false,Nat.one_mul,Nat.add_sub_cancel]
   ·have e1:yN (b::q)=(yN (a::b::q)).drop 2:=rfl;rw [e1,<- h2,List.drop_take,List.drop_drop]
    congr 1
    omega
 | opn id off m l _ h1 h2 h3 =>
  rw [hl] at h1 ⊢
  have e0:∀ op:AV->OP,dE 2 (.sl id off (q.length+1) none 2) (some (I 1)) none none op =
    (bif Nat.ble 2 (q.length+1) then qo (off+1*2) fun off=>qo (q.length+1-1) fun h=>op (.sl id off h none 2) else op .esl):=fun op=>by
   show (match (bif Nat.ble 1 (q.length+1) then some 1 else none:Option Nat) with
    | none=>Out.no 17
    | some l=>bif Nat.beq l 0 then op (.sl id off (q.length+1) none 2) else bif Nat.ble (l+1) (q.length+1) then qo (off+l*2) fun off=>qo (q.length+1-l) fun h=>op (.sl id off h none 2) else op .esl)=_
   rw [Zab (by omega)];rfl
  cases q with
  | nil=>exact ⟨.esl,fun op=>by rw [e0];rfl,.esl id m l⟩
  | cons b q =>
   refine ⟨.sl id (off+2) (b::q).length none 2,fun op => ?_,.opn id (off+2) m l (b::q) (by omega) h2 ?_⟩
   ·rw [e0,Zab (by simp)];simp only [yD,cond_true,Nat.one_mul,Nat.add_sub_cancel]
   ·rw [<- List.drop_drop,h3];rfl
theorem QV.app {v:AV} {o:Ob} {c:Sym} {q:List Sym} (h:QV v o q) (hq:q≠[]) {h0 hh:T Blk} {nx:Pa} {L:List Ob} {k:Nat} {x:AV} {K:AV->T Blk->Pa->OP} (H:Hp h0 hh nx L) (hk:L[k]? = some o) (hx:∀ (no:OP) (K':List AV->Nat->OP),kI x hh no K'=K' [encI c.1,.bool c.2] 1) (hlim:q.length+1<=100000)
  (hK:∀ v' o' h' nx',QV v' o' (q++[c])->Hp h0 h' nx' (L.set k o')->K v' h' nx'=.ok True):xK (CS Tryz.prog B) 2 32 v x hh nx K=.ok True:=by
 have hfl:yN (q++[c])=yN q++[encI c.1,.bool c.2]:=by simp [yN]
 have hln:(q++[c]).length=q.length+1:=by simp
 have hcc:(Nat.ble (32*1000000) 70368744177664&&Nat.beq [encI c.1,AV.bool c.2].length (1*2)&&Nat.ble 1 2&&[encI c.1,AV.bool c.2].all Go.Ev.jf)=true:=rfl;have new:∀ (id:Pa) (off:Nat) (op:Bool) (l:List AV) (t:T AV),yJ t 0 l.length=l->off+q.length*2<=l.length->(l.drop off).take (q.length*2)=yN q->uP off q.length 2 t [encI c.1,.bool c.2] 1 hh nx K=.ok True:=fun id off op l t g2 g3 g4=>by
  unfold uP;rw [yH,yD];have e:yJ t off (q.length*2)=yN q:=by
   rw [<- g4];refine Zay fun i => ?_;by_cases hi:i<q.length*2
   ·rw [yC _ _ _ _ hi,List.getElem?_take_of_lt hi,List.getElem?_drop]
    conv=>rhs;rw [<- g2]
    rw [yC _ _ _ _ (by omega),Zaw]
   ·rw [List.getElem?_eq_none (by simp;omega),List.getElem?_eq_none (by rw [Zba];omega)]
  rw [e,<- hfl];have hlen:=u4 (q++[c]);refine hK _ (.gro (some nx) 2 (q.length+1) (yN (q++[c]))) _ _ ?_ (Hp.back hk (Hp.new (x:=.gro (some nx) 2 (q.length+1) (yN (q++[c]))) (H.front hk).drop rfl fun h' e=>⟨_,by rw [e,hlen,hln],by rw [hlen,hln],?_⟩))
  ·have:=QV.opn nx 0 (q.length+1) (yN (q++[c])) (q++[c]) (by rw [hln];omega) (by rw [hlen,hln]) rfl;rw [hln] at this;exact this
  ·have:=kH (yN (q++[c]));rw [hlen,hln] at this;exact this
 cases h with
 | cap id off l _ h1 h2 =>
  obtain ⟨op,t,g1,g2⟩:=H.own _ (Zaa hk);show eP 2 32 (.sl id off q.length (some q.length) 2) x hh nx K=_;unfold eP;rw [hx,hcc,cond_true];show (bif Nat.beq 2 2&&Nat.ble (q.length+1) 1000000 then jg (T.get .no id hh) _ (.no 35) else .no 36)=_;rw [g1,Zab (by omega)];show (bif Nat.ble (off+q.length*2) l.length then (bif Nat.ble (q.length+1) q.length then _ else uP off q.length 2 t [encI c.1,.bool c.2] 1 hh nx K) else .no 34)=_;rw [Zab h1,bleF (by omega),cond_true,cond_false];exact new id off op l t g2 h1 h2
 | opn id off m l _ h1 h2 h3 =>
  obtain ⟨t,g1,g2,g3⟩:=H.own _ (Zaa hk);by_cases h0':off=0
  ·subst h0';obtain rfl:m=q.length:=by omega
   rw [List.drop_zero] at h3;subst h3;have e:(AV.sl id 0 q.length none 2)=ku (some id) 2 q.length:=rfl;show eP 2 32 (.sl id 0 q.length none 2) x hh nx K=_;refine H.appN (k:=k) (o:=some id) (c:=1) (esz:=2) (bytes:=32) (new:=[encI c.1,.bool c.2]) hk hx rfl rfl (by decide) (by decide) (by omega) fun o' h' nx' ho H' => ?_;cases o' with
   | none=>exact absurd rfl (ho (.inl (by simp)))
   | some id' =>
    rw [<- hfl] at H';have hlen:=u4 (q++[c]);have:=QV.opn id' 0 (q.length+1) (yN (q++[c])) (q++[c]) (by rw [hln];omega) (by rw [hlen,hln]) rfl;rw [hln] at this;exact hK _ _ _ _ this H'
  ·have hb0:Nat.beq off 0=false:=tK h0';show (bif Nat.beq off 0 then _ else bH (CS Tryz.prog B) id off q.length 2 2 32 x hh nx K)=_;rw [hb0,cond_false];unfold bH;rw [hx,hcc,cond_true];show (bif Nat.beq 2 2&&Nat.ble (q.length+1) 1000000 then jg (T.get .no id hh) _ (.no 35) else .no 36)=_;rw [g1,Zab (by omega)];show (bif Nat.ble (off+q.length*2) (m*2) then (bif Nat.ble (off+(q.length+1)*2) (m*2) then _ else bif true&&Nat.beq (off+q.length*2) (m*2) then _ else _) else _)=_;rw [Zab (by omega),bleF (by omega),eX (by omega),cond_true,cond_false];show (CS Tryz.prog B).pk [0,1] _=_;refine zm4.2 ⟨fun i hi => ?_,rfl⟩;simp only [Zah,List.not_mem_nil,or_false] at hi;rcases hi with rfl | rfl
   ·show zan id off q.length 2 (m*2) t [encI c.1,.bool c.2] 1 hh nx K=_;unfold zan;rw [yW,yD,T.yu,yD];have hwr:=kJ t l [encI c.1,.bool c.2] (m*2) (by rw [<- h2] at g3 ⊢;exact g3);have hq2:=QV.opn id off (m+1) (l++[encI c.1,.bool c.2]) (q++[c]) (by rw [hln];omega) (by rw [Zat,h2];simp;omega) (by rw [List.drop_append_of_le_length (by omega),h3,hfl]);rw [hln] at hq2;refine hK _ _ _ _ hq2 (H.upd hk (by simp [Ob.names]) rfl ⟨_,by rw [T.get_set_same,show (m+1)*2=m*2+1*2 by omega],by rw [Zat,h2];simp;omega,?_⟩);rw [show (m+1)*2=m*2+[encI c.1,AV.bool c.2].length by simp;omega];exact hwr
   ·show uP off q.length 2 t [encI c.1,.bool c.2] 1 hh nx K=_;exact new id off true l t (by rw [h2];exact g3) (by omega) (by rw [h3,Zal (by rw [u4];exact Zak _)])
 | esl id m l=>exact absurd rfl hq
end Go.Ev
set_option linter.unusedSectionVars false
namespace Go.Ev
section
variable {G:Type} [DecidableEq G] (mul:G->G->G) (e:G) (D:G->Prop)
structure oz:Prop where
 de:D e
 dm:∀ a b,D a->D b->D (mul a b)
 assoc:∀ a b c,D a->D b->D c->mul (mul a b) c=mul a (mul b c)
 el:∀ a,D a->mul e a=a
 er:∀ a,D a->mul a e=a
 cl:∀ a b c,D a->D b->D c->mul a b=mul a c->b=c
def qD (l:List G):Prop:=∀ a∈l,∀ b∈l,mul a b∈l
structure Clo (u g:List G):Prop where
 one:e∈g
 clo:∀ x∈g,∀ b∈u,mul b x∈g
 ind:∀ T:G->Prop,T e->(∀ x,T x->∀ b∈u,T (mul b x))->∀ x∈g,T x
variable {mul e D}
theorem subG:∀ (l r:List G),l.Nodup->(∀ x∈l,x∈r)->∃ s,r.Perm (l++s)
 | [],r,_,_=>⟨r,.refl _⟩
 | a::l,r,hn,hs=>by
  obtain ⟨h1,h2⟩:=List.nodup_cons.1 hn;have ha:=hs a (by simp);obtain ⟨s,hp⟩:=subG l (r.erase a) h2 fun x hx=>(List.mem_erase_of_ne (by rintro rfl;exact h1 hx)).2 (hs x (by simp [hx]));exact ⟨s,(List.perm_cons_erase ha).trans (.cons a hp)⟩
theorem lenG {l r:List G} (h1:l.Nodup) (h2:∀ x∈l,x∈r):l.length<=r.length:=by
 obtain ⟨s,hs⟩:=subG l r h1 h2;rw [hs.length_eq,Zat];omega
theorem allG {l r:List G} (h1:l.Nodup) (h2:∀ x∈l,x∈r) (h3:r.length<=l.length):∀ x∈r,x∈l:=by
 obtain ⟨s,hs⟩:=subG l r h1 h2;have hl:=hs.length_eq;obtain rfl:s=[]:=Zau (by rw [Zat] at hl;omega);intro x hx;simpa using hs.mem_iff.1 hx
theorem Clo.dom {u g:List G} (L:oz mul e D) (C:Clo mul e u g) (hu:∀ b∈u,D b):∀ x∈g,D x :=
 C.ind D L.de fun x hx b hb=>L.dm b x (hu b hb) hx
theorem Clo.mono {u u' g g':List G} (C:Clo mul e u g) (C':Clo mul e u' g') (h:∀ b∈u,b∈u'):∀ x∈g,x∈g' :=
 C.ind (· ∈ g') C'.one fun x hx b hb=>C'.clo x hx b (h b hb)
theorem Clo.sub {u g l:List G} (C:Clo mul e u g) (h1:e∈l) (h2:qD mul l) (hu:∀ b∈u,b∈l):∀ x∈g,x∈l :=
 C.ind (· ∈ l) h1 fun x hx b hb=>h2 b (hu b hb) x hx
theorem Clo.prod {u g:List G} (L:oz mul e D) (C:Clo mul e u g) (hu:∀ b∈u,D b):qD mul g:=by
 intro a ha b hb;have hd:=C.dom L hu
 have key:∀ x∈g,D x/\mul x b∈g:=C.ind (fun x=>D x/\mul x b∈g) ⟨L.de,by rw [L.el b (hd b hb)];exact hb⟩ fun x hx c hc=>⟨L.dm c x (hu c hc) hx.1,by
  rw [L.assoc c x b (hu c hc) hx.1 (hd b hb)];exact C.clo _ hx.2 c hc⟩
 exact (key a ha).2
theorem dN {l:List G} (L:oz mul e D) (hd:∀ a∈l,D a) (hn:l.Nodup) (h0:l≠[]) (hc:qD mul l):e∈l:=by
 obtain ⟨a,ha⟩:=List.exists_mem_of_ne_nil l h0;have nd:(l.map (mul a)).Nodup:=by
  rw [List.Nodup,Zbx];refine (List.Pairwise.and_mem.1 hn).imp ?_;rintro x y ⟨hx,hy,hxy⟩ q;exact hxy (L.cl a x y (hd a ha) (hd x hx) (hd y hy) q)
 have:=allG nd (fun x hx=>by obtain ⟨y,hy,rfl⟩:=List.mem_map.1 hx;exact hc a ha y hy) (by simp) a ha;obtain ⟨x,hx,q⟩:=List.mem_map.1 this;have:x=e:=L.cl a x e (hd a ha) (hd x hx) L.de (by rw [q,L.er a (hd a ha)]);exact this ▸ hx
theorem zh3 {l:List G} (L:oz mul e D) (hd:∀ a∈l,D a) (hn:l.Nodup) (hc:qD mul l) (he:e∈l):∀ a∈l,∃ b∈l,mul a b=e:=by
 intro a ha;have nd:(l.map (mul a)).Nodup:=by
  rw [List.Nodup,Zbx];refine (List.Pairwise.and_mem.1 hn).imp ?_;rintro x y ⟨hx,hy,hxy⟩ q;exact hxy (L.cl a x y (hd a ha) (hd x hx) (hd y hy) q)
 have:=allG nd (fun x hx=>by obtain ⟨y,hy,rfl⟩:=List.mem_map.1 hx;exact hc a ha y hy) (by simp) e he;obtain ⟨x,hx,q⟩:=List.mem_map.1 this;exact ⟨x,hx,q⟩
structure Bfs (u:List G) (q:List G) (i:Nat):Prop where
 nd:q.Nodup
 hd:q[0]? = some e
 clo:∀ j x,j<i->q[j]? = some x->∀ b∈u,mul b x∈q
 ind:∀ T:G->Prop,T e->(∀ x,T x->∀ b∈u,T (mul b x))->∀ x∈q,T x
theorem Bfs.start (u:List G):Bfs (mul:=mul) (e:=e) u [e] 0:=⟨by simp,rfl,fun j x h=>by omega,fun T h1 _ x hx=>by rw [List.mem_singleton.1 hx];exact h1⟩
theorem Bfs.done {u q:List G} (B:Bfs (mul:=mul) (e:=e) u q q.length):Clo mul e u q :=
 ⟨Zaa B.hd,fun x hx b hb=>by
  obtain ⟨j,hj⟩:=List.mem_iff_getElem?.1 hx;exact B.clo j x (List.getElem?_eq_some_iff.1 hj).1 hj b hb,B.ind⟩
structure tX (u:List G) (q:List G) (i:Nat) (x:G) (k:Nat):Prop where
 nd:q.Nodup
 hd:q[0]? = some e
 at':q[i]? = some x
 clo:∀ j y,j<i->q[j]? = some y->∀ b∈u,mul b y∈q
 clk:∀ b∈u.take k,mul b x∈q
 ind:∀ T:G->Prop,T e->(∀ x,T x->∀ b∈u,T (mul b x))->∀ x∈q,T x
theorem Bfs.at {u q:List G} {i:Nat} {x:G} (B:Bfs (mul:=mul) (e:=e) u q i) (h:q[i]? = some x):tX (mul:=mul) (e:=e) u q i x 0:=⟨B.nd,B.hd,h,B.clo,by simp,B.ind⟩
theorem tX.had {u q:List G} {i k:Nat} {x b:G} (B:tX (mul:=mul) (e:=e) u q i x k) (hb:u[k]? = some b) (h:mul b x∈q):tX (mul:=mul) (e:=e) u q i x (k+1) :=
 ⟨B.nd,B.hd,B.at',B.clo,fun c hc=>by
  rw [Zam,hb] at hc;rcases List.mem_append.1 hc with q | q
  ·exact B.clk c q
  ·simp at q;rw [q];exact h,B.ind⟩
theorem tX.new {u q:List G} {i k:Nat} {x b:G} (B:tX (mul:=mul) (e:=e) u q i x k) (hb:u[k]? = some b) (h:mul b x∉q):tX (mul:=mul) (e:=e) u (q++[mul b x]) i x (k+1):=by
 have hget:∀ {j:Nat} {y:G},q[j]? = some y->(q++[mul b x])[j]? = some y:=fun {j y} hj=>by
  rw [List.getElem?_append_left (List.getElem?_eq_some_iff.1 hj).1];exact hj
 have hback:∀ {j:Nat} {y:G},j<i->(q++[mul b x])[j]? = some y->q[j]? = some y:=fun {j y} hj hy=>by
  have:=(List.getElem?_eq_some_iff.1 B.at').1;rw [List.getElem?_append_left (by omega)] at hy;exact hy
 refine ⟨?_,hget B.hd,hget B.at',fun j y hj hy c hc=>Zbw _ (B.clo j y hj (hback hj hy) c hc),fun c hc => ?_,fun T h1 h2 y hy => ?_⟩
 ·rw [Zav];refine ⟨B.nd,by simp,?_⟩;rintro a ha c hc rfl;rw [List.mem_singleton.1 hc] at ha;exact h ha
 ·rw [Zam,hb] at hc;rcases List.mem_append.1 hc with r | r
  ·exact Zbw _ (B.clk c r)
  ·simp at r;rw [r];simp
 ·rcases List.mem_append.1 hy with r | r
  ·exact B.ind T h1 h2 y r
  ·rw [List.mem_singleton.1 r];exact h2 x (B.ind T h1 h2 x (Zaa B.at')) b (Zaa hb)
theorem tX.next {u q:List G} {i:Nat} {x:G} (B:tX (mul:=mul) (e:=e) u q i x u.length):Bfs (mul:=mul) (e:=e) u q (i+1) :=
 ⟨B.nd,B.hd,fun j y hj hy b hb=>by
  by_cases c:j<i
  ·exact B.clo j y c hy b hb
  ·obtain rfl:j=i:=by omega
   rw [B.at'] at hy;rw [<- Option.some.inj hy];exact B.clk b (by rw [List.take_length];exact hb),B.ind⟩
theorem tX.many {u q l:List G} {i k:Nat} {x b:G} (L:oz mul e D) (B:tX (mul:=mul) (e:=e) u q i x k) (hb:u[k]? = some b) (h:mul b x∉q) (hq:q.length=l.length) (hd:∀ a∈l,D a) (hn:l.Nodup) (h0:l≠[]) (hu:∀ b∈u,b∈l):¬ qD mul l:=by
 intro hc;have h1:=dN L hd hn h0 hc;have B':=B.new hb h;have:=lenG B'.nd (B'.ind (· ∈ l) h1 fun y hy c hc'=>hc c (hu c hc') y hy);rw [Zat,List.length_singleton] at this;omega
theorem zk3 {u g l:List G} (L:oz mul e D) (C:Clo mul e u g) (hg:g.Nodup) (hd:∀ a∈l,D a) (hn:l.Nodup) (h0:l≠[]) (hu:∀ b∈u,b∈l) (hl:∀ a∈l,a∈g):g.length=l.length↔qD mul l:=by
 have hud:∀ b∈u,D b:=fun b hb=>hd b (hu b hb);constructor
 ·intro h a ha b hb;have hgl:=allG hn hl (by omega);exact hgl _ (C.prod L hud a (hl a ha) b (hl b hb))
 ·intro hc;have h1:=dN L hd hn h0 hc;have:=lenG hg (C.sub h1 hc hu);have:=lenG hn hl;omega
end
end Go.Ev
namespace Go.Ev
open Go Go.Proofs
variable {B:Nat}
theorem zc4 (l:List Sym):fO (jd l)=true:=pF fun v hv=>by
 obtain ⟨x,_,hx⟩:=List.mem_flatMap.1 hv;simp only [Zah,List.not_mem_nil,or_false] at hx;rcases hx with rfl | rfl
 ·exact wP _
 ·rfl
theorem zef {l:List Sym}:Pure Tryz.prog B 90 [jd l] (· = .fn 159 (.of 159) [.fp [jd l]]):=by
 refine y8 fun h nx K H0 hK=>zS zW yt 10000000 fun hf => ?_;rw [F90.go];refine H0.box (l:=[jd l]) rfl fun bx h1 nx1 H1 => ?_;obtain ⟨op,t,g1,g2⟩:jc h1 bx [jd l]:=H1.own _ (Zaj ..);have hfx:fO (jd l)=true:=zc4 l;refine hK _ _ _ _ (.fn 159 (.of 159) [.fp [jd l]]) H1 (.fn _ _ _ _ rfl fun i v v' h2 h3 => ?_) rfl
 match i with
 | 0 =>
  simp only [List.getElem?_cons_zero,Option.some.injEq] at h2 h3;subst h2 h3;refine .ptr _ _ op _ t _ (H1.off bx (by simp [Ob.names])) g1 (by simp) (by simp [jf]) fun i v hv => ?_
  match i with
  | 0 =>
   simp only [List.getElem?_cons_zero,Option.some.injEq] at hv;subst hv;have:=yC t 0 1 0 (by omega);have g2:yJ t 0 1=[jd l]:=g2;rw [g2] at this;simp only [List.getElem?_cons_zero,Option.some.injEq] at this;rw [<- this];exact zJ hfx
  | i+1=>simp at hv
 | i+1=>simp at h2
theorem zeg {h0 h:T Blk} {nx p id:Pa} {l:List Sym} {L:List Ob} {K:Kw Prop} (J:Nat->List Ob->Prop) (X:List Ob->Prop) (hl:l.length<=1000000) (hJ:J 0 L) (H:Hp h0 h nx L)
  (step:∀ (i:Nat) (a:Sym) (h:T Blk) (nx:Pa) (L:List Ob) (K:Kw Prop),l[i]? = some a->J i L->Hp h0 h nx L->(∀ h' nx' L',J (i+1) L'->Hp h0 h' nx' L'->K (.bool true) h' nx'=.ok True)->(∀ h' nx' L',X L'->Hp h0 h' nx' L'->K (.bool false) h' nx'=.ok True)->(CS Tryz.prog B).yld id [I i,encS a] h nx K=.ok True)
  (hK:∀ h' nx' L',(J l.length L'\/X L')->Hp h0 h' nx' L'->K (.tup []) h' nx'=.ok True):(CS Tryz.prog B).fn 159 p [.yld id,.fp [jd l]] h nx K=.ok True:=by
 refine jH (p:=.of 159) (K:=K) (zS zW yt 10000000 fun hf => ?_) fun _ _ _ _ q=>q;rw [qx.go,zkw,zG];refine qx.L1 (fun m z6 h' nx'=>∃ (i:Nat) (L':List Ob),z6=I i/\l.length-i=m/\i<=l.length/\J i L'/\Hp h0 h' nx' L') (m:=l.length) (by omega) ⟨0,L,rfl,rfl,by omega,hJ,H⟩ ?_;rintro m z2 z3 z6 z7 z8 h1 nx1 R ⟨i,L1,rfl,rfl,hi,hJ1,H1⟩ hR;simp only [je];by_cases hlt:i<l.length
 ·simp only [show (i:Int)<(l.length:Int) by omega,decide_true,zD];have hx:l[i]? = some l[i]:=List.getElem?_eq_getElem hlt;rw [xg rfl hlt,jU hlt,uV];refine H1.alloc fun ab h5 nx5 H5 => ?_;refine H5.qm (k:=0) (n:=2) rfl rfl rfl fun h6 H6 => ?_;rw [H6.zi (k:=0) (n:=2) rfl rfl,zkx];refine step i _ _ _ _ _ hx hJ1 H6.drop (fun h7 nx7 L7 hJ7 H7 => ?_) (fun h7 nx7 L7 hX H7 => ?_)
  ·simp only [yA,Zad,zC];rw [jr (by omega)];exact hR _ _ _ _ _ _ _ _ (by omega) ⟨i+1,L7,rfl,rfl,by omega,hJ7,H7⟩
  ·simp only [yA,Zae,zD];exact hK _ _ _ (.inr hX) H7
 ·simp only [show ¬ (i:Int)<(l.length:Int) by omega,decide_false,zC];obtain rfl:i=l.length:=by omega
  exact hK _ _ _ (.inl hJ1) H1
theorem zh4 {h0 h:T Blk} {nx:Pa} {L:List Ob} {k j n:Nat} {o:Option Pa} {u:List Sym} {c:Sym} (H:Hp h0 h nx L) (hk:L[k]? = some (.gro o 2 n (yN u))) (hj:u[j]? = some c):∃ id off,(∀ op:AV->OP,zO 2 (ku o 2 n) (I (j:Int)) op=op (.ptr id off))/\∀ op:AV->OP,zH 2 (.ptr id off) h op=op (encS c):=by
 have own:=H.own _ (Zaa hk);have hjl:=(List.getElem?_eq_some_iff.1 hj).1;have hlen:=u4 u;cases o with
 | none =>
  obtain ⟨q,_⟩:=own;rw [q] at hlen;simp at hlen;omega
 | some id =>
  obtain ⟨t,h1,h2,h3⟩:=own;have hn:n=u.length:=by omega
  subst hn;refine ⟨id,j*2,fun op=>by rw [ku,wG hjl,Zaw],fun op => ?_⟩;show jg (T.get .no id h) _ _=_;rw [h1];show (bif Nat.ble (j*2+2) (u.length*2) then op (.agg (yJ t (j*2) 2)) else .no 8)=_;rw [Zab (by omega),cond_true];have e:∀ i,i<u.length*2->T.get .undef (.of i) t=(yN u).getD i .undef:=fun i hi=>by
   have:=yC t 0 (u.length*2) i hi;rw [h3,Zaw] at this;rw [Zac,this];rfl
  have d:∀ i,(yN u).getD (j*2+i) .undef=((yN u).drop (j*2)).getD i .undef:=fun i=>by
   rw [Zac,Zac,List.getElem?_drop]
  have e2:yJ t (j*2) 2=[T.get .undef (.of (j*2)) t,T.get .undef (.of (j*2+1)) t]:=rfl;have d0:=d 0;rw [Nat.add_zero] at d0;obtain rfl:u[j]=c:=by rw [List.getElem?_eq_getElem hjl] at hj;exact Option.some.inj hj
  rw [e2,e _ (by omega),e _ (by omega),d 1,d0,jU hjl]
  rfl
theorem DS.comp {n:Nat} {a b:Sym} (ha:DS n a) (hb:DS n b):DS n (zP a b):=by
 refine ⟨by rw [zP,uL];exact hb.1,fun x hx => ?_⟩;obtain ⟨c,hc,rfl⟩:=List.mem_map.1 hx;have h1:=hb.2 c hc;have h2:=ha.1;rw [Zac,List.getElem?_eq_getElem (by omega)];exact ha.2 _ (Zai _)
theorem DS.id (n:Nat):DS n (idS n):=by
 refine ⟨by simp [idS],fun x hx => ?_⟩;obtain ⟨j,hj,rfl⟩:=List.mem_map.1 hx;have:=List.mem_range.1 hj;omega
abbrev CloS (n:Nat) (u g:List Sym):Prop:=Clo zP (idS n) u g
abbrev BfsS (n:Nat) (u q:List Sym) (i:Nat):Prop:=Bfs (mul:=zP) (e:=idS n) u q i
abbrev mP (n:Nat) (u q:List Sym) (i:Nat) (x:Sym) (k:Nat):Prop:=tX (mul:=zP) (e:=idS n) u q i x k
def bJ (n limit:Nat) (l:List Sym):Prop:=∃ u q i x k b,(∀ c∈u,c∈l)/\mP n u q i x k/\u[k]? = some b/\zP b x∉q/\q.length=limit
theorem BfsS.ds {n:Nat} {u q:List Sym} (hu:∀ b∈u,DS n b) (h:∀ T:Sym->Prop,T (idS n)->(∀ x,T x->∀ b∈u,T (zP b x))->∀ x∈q,T x):∀ x∈q,DS n x :=
 h (DS n) (DS.id n) fun _ hx b hb=>DS.comp (hu b hb) hx
noncomputable abbrev F98.tm (n limit:Nat) (l:List Sym) (b3 b4 b5 b6 b7 b8 b9:Pa):T AV:=F98.fr (jd l) (I n) (I limit) (.ptr b3 0) (.ptr b4 0) (.ptr b5 0) (.ptr b6 0) (.ptr b7 0) (.ptr b8 0) (.ptr b9 0) .undef .undef .undef .undef (.fn 159 (.of 159) [.fp [jd l]]) .undef .undef .undef .undef .undef .undef .undef .undef .undef .undef
theorem F98.prods {N:Nat} {K0:Kw Prop} {E1 E2 E3 K:Ks Prop} {h0 h:T Blk} {nx id b3 b4 b5 b6 b8 g1:Pa} {x0 x1 x2 x7 x9 x10 x12 x13 x14 x15 x16 x17 x18 x22 x23 x24 v:AV} {o:Option Pa} {ob:Ob} {X:List Ob} {n limit i:Nat} {u q:List Sym} {x:Sym}
  (hN:100000<N) (hn:n<=256) (hlim:limit<=2000) (hu:∀ b∈u,DS n b) (hul:u.length<=2000)
  (k3:X[11]? = some (.arr b3 [I limit])) (k4:X[10]? = some (.arr b4 [.jm])) (k5:X[9]? = some (.arr b5 [.zh])) (k6:X[8]? = some (.arr b6 [.bool false])) (k8:X[4]? = some (.arr b8 [.map g1])) (kg:X[6]? = some (.gro o 2 u.length (yN u)))
  (hB:mP n u q i x 0) (hql:q.length<=limit) (hv:QV v ob (q.drop i)) (H:Hp h0 h nx (ob::.map g1 (wo q)::X))
  (hbad:∀ k b q' h' nx' O1 O2,mP n u q' i x k->u[k]? = some b->zP b x∉q'->q'.length=limit->Hp h0 h' nx' (O1::O2::X)->yZ id K0 .ret false .e h' nx'=.ok True)
  (hK:∀ q' v' ob' w12 w13 w22 w23 w24 h' nx',mP n u q' i x u.length->q'.length<=limit->QV v' ob' (q'.drop i)->Hp h0 h' nx' (ob'::.map g1 (wo q')::X) ->
   K (F98.fr x0 x1 x2 (.ptr b3 0) (.ptr b4 0) (.ptr b5 0) (.ptr b6 0) x7 (.ptr b8 0) x9 x10 v' w12 w13 x14 x15 x16 x17 x18 (ku o 2 u.length) (I u.length) (I u.length) w22 w23 w24) h' nx'=.ok True) :
  IR.run F98.b13 (CS Tryz.prog B) N ((((rO id K0).blk 1 E1).blk 2 E2).blk 3 E3) K (F98.fr x0 x1 x2 (.ptr b3 0) (.ptr b4 0) (.ptr b5 0) (.ptr b6 0) x7 (.ptr b8 0) x9 x10 v x12 x13 x14 x15 x16 x17 x18 (ku o 2 u.length) (I u.length) (I 0) x22 x23 x24) h nx=.ok True:=by
 refine F98.L13 (fun m x11 x21 h' nx'=>∃ (k:Nat) (q:List Sym) (ob:Ob),x21=I k/\u.length-k=m/\k<=u.length/\mP n u q i x k/\q.length<=limit/\QV x11 ob (q.drop i)/\Hp h0 h' nx' (ob::.map g1 (wo q)::X)) (m:=u.length) (by omega) ⟨0,q,ob,rfl,rfl,by omega,hB,hql,hv,H⟩ ?_
 clear hB hql hv H v ob q
 rintro m v z12 z13 z21 z22 z23 z24 h1 nx1 R ⟨k,q,ob,rfl,rfl,hk,hB,hql,hv,H1⟩ hR;simp only [je];by_cases hlt:k<u.length
 case neg =>
  simp only [show ¬ (k:Int)<(u.length:Int) by omega,decide_false,zC];obtain rfl:k=u.length:=by omega
  exact hK _ _ _ _ _ _ _ _ _ _ hB hql hv H1
 simp only [show (k:Int)<(u.length:Int) by omega,decide_true,zD];have hb:u[k]? = some u[k]:=List.getElem?_eq_getElem hlt;have hqd:∀ y∈q,DS n y:=BfsS.ds hu hB.ind;have hdb:=hu _ (Zai hlt);have hil:=(List.getElem?_eq_some_iff.1 hB.at').1;have hxq:q[i]=x:=by have:=hB.at';rw [List.getElem?_eq_getElem hil] at this;exact Option.some.inj this
 have hdx:DS n x:=hqd x (hxq ▸ Zai hil);have hdr:q.drop i=x::q.drop (i+1):=by rw [Zan hil,hxq]
 have hdc:=DS.comp hdb hdx;obtain ⟨iu,ou,e1,e2⟩:=zh4 (k:=8) H1 kg hb;rw [e1,e2];refine H1.alloc fun c12 h2 nx2 H2 => ?_;refine H2.qm (k:=0) (n:=2) rfl rfl rfl fun h3 H3 => ?_;rw [show (true&&true)=true from rfl,yP,H3.zi (k:=0) (n:=2) rfl rfl];rw [hdr] at hv;obtain ⟨iq,oq,f1,f2⟩:=hv.first
 rw [f1,f2 H3 (k:=1) rfl];have hdb2:=hdb.1;have hdx2:=hdx.1;refine pT (fun y hy=>by have:=hdx.2 y hy;omega) (by omega) _ _ _ _ ?_;rintro _ rfl _;rw [f2 H3 (k:=1) rfl,zB,f1,zB,zB,H3.zi (k:=0) (n:=2) rfl rfl,zB];refine H3.alloc fun c13 h4 nx4 H4 => ?_;rw [f2 H4 (k:=2) rfl,zB,f1,zB,zB,H4.zi (k:=1) (n:=2) rfl rfl,zB];refine H4.qm (k:=0) (n:=2) rfl rfl rfl fun h5 H5 => ?_;rw [H5.load (k:=8) (i:=0) k8 rfl,H5.zi (k:=0) (n:=2) rfl rfl];refine zby hn hdc hqd H5 (k:=3) rfl ?_;by_cases c:zP u[k] x∈q
 ·simp only [c,decide_true,zD];rw [jr (by omega)];exact hR _ _ _ _ _ _ _ _ _ _ (by omega) ⟨k+1,q,ob,rfl,rfl,by omega,hB.had hb c,hql,hdr ▸ hv,H5.drop.drop⟩
 simp only [c,decide_false,zC];rw [H5.load (k:=8) (i:=0) k8 rfl,H5.zrt (k:=3) rfl,H5.load (k:=15) (i:=0) k3 rfl];simp only [dw];by_cases c2:q.length=limit
 ·simp only [show (q.length:Int)=(limit:Int) by omega,decide_true,zD];refine H5.store (k:=14) k4 (by simp) rfl fun h6 H6 => ?_;refine H6.store (k:=13) (l:=[.zh]) (by rw [List.getElem?_set_ne (by decide)];exact k5) (by simp) rfl fun h7 H7 => ?_;refine H7.store (k:=12) (l:=[.bool false]) (by rw [List.getElem?_set_ne (by decide),List.getElem?_set_ne (by decide)];exact k6) (by simp) rfl fun h8 H8 => ?_;have ew:∀ {j:Nat} {y:Ob} (hj:X[j]? = some y),X.set j y=X:=fun {j y} hj=>by
   refine Zay fun p => ?_;rw [List.getElem?_set];by_cases e:j=p
   ·subst e;rw [if_pos rfl,if_pos (List.getElem?_eq_some_iff.1 hj).1,hj]
   ·rw [if_neg e]
  refine hbad k _ q _ _ ob (.map g1 (wo q)) hB hb c c2 (H8.drop.drop.cast ?_);show ob::.map g1 (wo q)::((X.set 10 (.arr b4 ([AV.jm].set 0 .jm))).set 9 (.arr b5 ([AV.zh].set 0 .zh))).set 8 (.arr b6 ([AV.bool false].set 0 (.bool false)))=_;rw [show [AV.jm].set 0 .jm=[.jm] from rfl,show [AV.zh].set 0 .zh=[.zh] from rfl,show [AV.bool false].set 0 (.bool false)=[.bool false] from rfl,ew k4,ew k5,ew k6]
 simp only [show ¬ (q.length:Int)=(limit:Int) by omega,decide_false,zC];rw [H5.load (k:=8) (i:=0) k8 rfl,H5.zi (k:=0) (n:=2) rfl rfl,H5.zi (k:=0) (n:=2) rfl rfl];have hdc2:=hdc.1;refine xP (fun y hy=>by have:=hdc.2 y hy;omega) (by omega) _ _ _ _ ?_;rintro _ rfl _;rw [H5.zi (k:=0) (n:=2) rfl rfl,zB,H5.load (k:=8) (i:=0) k8 rfl,zB];refine H5.putS hn hdc hqd c (k:=3) rfl fun h6 H6 => ?_;rw [H6.zi (k:=0) (n:=2) rfl rfl];refine H6.yc (l:=[encI (zP u[k] x).1,.bool (zP u[k] x).2]) rfl fun tb h7 nx7 H7 => ?_;refine hv.app (c:=zP u[k] x) (by simp) H7 (k:=3) rfl (jc.rd (l:=[encI (zP u[k] x).1,.bool (zP u[k] x).2]) (n:=1) (e:=2) (H7.own _ (Zaj ..)) rfl) ?_ fun v' ob' h8 nx8 hv' H8 => ?_
 ·rw [<- hdr,List.length_drop];omega
 rw [jr (by omega)];refine hR _ _ _ _ _ _ _ _ _ _ (by omega) ⟨k+1,q++[zP u[k] x],ob',rfl,rfl,by omega,hB.new hb c,by rw [Zat,List.length_singleton];omega,?_,H8.drop.drop.drop⟩;rw [List.drop_append_of_le_length (by omega),hdr];exact hv'
theorem Hp.pre {h0 h:T Blk} {nx:Pa} {L:List Ob}:∀ (Y:List Ob),Hp h0 h nx (Y++L)->Hp h0 h nx L
 | [],H=>H
 | _::Y,H=>Hp.pre Y H.drop
theorem at_len {α:Type} (Y:List α) (x:α) (L:List α):(Y++x::L)[Y.length]? = some x:=by
 rw [List.getElem?_append_right (Zak _),Nat.sub_self];rfl
theorem bB {α:Type} (Y:List α) (x y:α) (L:List α):(Y++x::L).set Y.length y=Y++y::L:=by
 rw [List.set_append,if_neg (Nat.lt_irrefl _),Nat.sub_self];rfl
theorem zru {N:Nat} {O:jl Prop} {K:Ks Prop} {tm:T AV} {tmf:AV->AV->T AV} {f:Arg} {ps:List Pa} {a b:IR} {l:List Sym} {h0 h:T Blk} {nx:Pa} {L:List Ob}
  (H:Hp h0 h nx L) (hf:f.ev ⟨tm,[]⟩=.fn 159 (.of 159) [.fp [jd l]]) (hb:∀ (v w:AV) (k:T AV->OP),jA ps [v,w] tm k=k (tmf v w)) (hl:l.length<=1000000)
  (J:Nat->List Ob->Prop) (X:List Ob->Prop) (XE:Nat->List Ob->Prop) (hJ:J 0 L)
  (round:∀ (i:Nat) (x:Sym) (R R':Ob) (h:T Blk) (nx:Pa) (L':List Ob) (M E:Ks Prop) (O1 O2:jl Prop),l[i]? = some x->J i L'->Hp h0 h nx (R::L') ->
   (∀ tm' h nx Y,Hp h0 h nx (Y++R::L')->(∀ h',Hp h0 h' nx (Y++R'::L')->IR.run b (CS Tryz.prog B) N O1 E tm' h' nx=.ok True)->M tm' h nx=.ok True) ->
   (∀ tm' h nx Y L'',J (i+1) L''->Hp h0 h nx (Y++R'::L'')->E tm' h nx=.ok True) ->
   (∀ tm' h nx Y L'',X L''->Hp h0 h nx (Y++R'::L'')->O1.rt tm' h nx=.ok True) ->
   (∀ e tm' h nx Y L'',XE e L''->Hp h0 h nx (Y++R'::L'')->O1.ex e tm' h nx=.ok True) ->
   IR.run a (CS Tryz.prog B) N O2 M (tmf (I i) (encS x)) h nx=.ok True)
  (hK:∀ h' nx' L',J l.length L'->Hp h0 h' nx' L'->K tm h' nx'=.ok True)
  (hRt:∀ h' nx' L',X L'->Hp h0 h' nx' L'->O.rt tm h' nx'=.ok True)
  (hEx:∀ e h' nx' L',XE e L'->Hp h0 h' nx' L'->O.ex e tm h' nx'=.ok True) :
  IR.run (.rf f ps a b) (CS Tryz.prog B) N O K tm h nx=.ok True:=by
 refine H.rf hf fun id h1 nx1 H1 => ?_
 refine zeg (fun i L'=>∃ L'',J i L''/\L'=.raw id (.loop .ready .none tm ps a b)::L'')
  (fun L'=>∃ L'' j,((j=Jump.ret/\X L'')\/∃ e,j=Jump.exit e/\XE e L'')/\L'=.raw id (.loop .done j tm ps a b)::L'') hl ⟨L,hJ,rfl⟩ H1 (fun i x h nx L' K' hx hJ' H' hj hs => ?_) fun h' nx' L' hJX H' => ?_
 ·obtain ⟨L2,hJ2,rfl⟩:=hJ';refine zbc (fns:=tbl) yt N fun hf => ?_;rw [zdj (vJ H' (k:=0) rfl) (tm1:=tmf (I i) (encS x)) (hb _ _)];refine round i x _ (.raw id (.loop .busy .none tm ps a b)) _ _ _ _ (yZ id K' .none true) (rO id K') _ hx hJ2 H' (fun tm' h nx Y HY hc => ?_) (fun tm' h nx Y L3 hJ3 HY => ?_) (fun tm' h nx Y L3 hJ3 HY => ?_) fun e tm' h nx Y L3 hJ3 HY => ?_
  ·rw [zd9 (vJ HY (k:=Y.length) (at_len _ _ _))];have HZ:=HY.zhx (k:=Y.length) (at_len _ _ _) (b':=.loop .busy .none tm ps a b) (by intro e;cases e);rw [bB] at HZ;exact hc _ HZ
  ·refine HY.rend (k:=Y.length) (at_len _ _ _) fun h' H2 => ?_;rw [bB] at H2;exact hj _ _ _ ⟨L3,hJ3,rfl⟩ (Hp.pre Y H2)
  ·show yZ id K' .ret false tm' h nx=_;refine HY.rend (k:=Y.length) (at_len _ _ _) fun h' H2 => ?_;rw [bB] at H2;exact hs _ _ _ ⟨L3,.ret,.inl ⟨rfl,hJ3⟩,rfl⟩ (Hp.pre Y H2)
  ·show yZ id K' (.exit e) false tm' h nx=_;refine HY.rend (k:=Y.length) (at_len _ _ _) fun h' H2 => ?_;rw [bB] at H2;exact hs _ _ _ ⟨L3,.exit e,.inr ⟨e,rfl,hJ3⟩,rfl⟩ (Hp.pre Y H2)
 ·rcases hJX with ⟨L2,hJ2,rfl⟩ | ⟨L2,j,hj,rfl⟩
  ·refine H'.rF fun h15 H15 => ?_;rw [zbj];exact hK _ _ _ hJ2 H15
  ·refine H'.rF fun h15 H15 => ?_;rcases hj with ⟨rfl,hX⟩ | ⟨e,rfl,hX⟩
   ·rw [mA];exact hRt _ _ _ hX H15
   ·rw [zhi];exact hEx _ _ _ _ hX H15
theorem sZ {C:Calls Prop} {esz bytes e n:Nat} {o:Option Pa} {x:AV} {h:T Blk} {nx:Pa} {K:KW3}:xK C esz bytes (ku o e n) x h nx K=tq esz bytes (ku o e n) x h nx K:=by cases o <;> exact nr rfl
theorem comp_id {n:Nat} {b:Sym} (hb:DS n b):zP b (idS n)=b:=by
 have h1:=hb.1;refine Prod.ext ?_ (by show (b.2 != false)=b.2;cases b.2 <;> rfl);show uD b.1 ((List.range n).map fun j:Nat=>(j:Int))=b.1;refine Zay fun i => ?_;rw [uD,List.map_map,List.getElem?_map];by_cases hi:i<n
 ·rw [List.getElem?_range hi,List.getElem?_eq_getElem (by omega)];show some (b.1.getD ((i:Nat):Int).toNat 0)=_;rw [Zac,Int.toNat_natCast,List.getElem?_eq_getElem (by omega)];rfl
 ·rw [List.getElem?_eq_none (by simp;omega),List.getElem?_eq_none (by omega)];rfl
theorem F98.bfs {N:Nat} {K0:Kw Prop} {E1 K:Ks Prop} {h0 h:T Blk} {nx id b3 b4 b5 b6 b8 b9 g1:Pa} {x0 x1 x2 x7 x10 x12 x13 x14 x15 x16 x17 x18 x19 x20 x21 x22 x23 x24 v:AV} {o:Option Pa} {ob:Ob} {X:List Ob} {n limit:Nat} {u q:List Sym}
  (hN:100000<N) (hn:n<=256) (hlim:limit<=2000) (hu:∀ b∈u,DS n b) (hul:u.length<=2000)
  (k3:X[11]? = some (.arr b3 [I limit])) (k4:X[10]? = some (.arr b4 [.jm])) (k5:X[9]? = some (.arr b5 [.zh])) (k6:X[8]? = some (.arr b6 [.bool false])) (k8:X[4]? = some (.arr b8 [.map g1])) (kg:X[6]? = some (.gro o 2 u.length (yN u))) (k9:X[3]? = some (.arr b9 [ku o 2 u.length]))
  (hB:BfsS n u q 0) (hql:q.length<=limit) (hv:QV v ob q) (H:Hp h0 h nx (ob::.map g1 (wo q)::X))
  (hbad:∀ i x k b q' h' nx' O1 O2,mP n u q' i x k->u[k]? = some b->zP b x∉q'->q'.length=limit->Hp h0 h' nx' (O1::O2::X)->yZ id K0 .ret false .e h' nx'=.ok True)
  (hK:∀ q' ob' tm h' nx',CloS n u q'->q'.Nodup->q'.length<=limit->Hp h0 h' nx' (ob'::.map g1 (wo q')::X)->K tm h' nx'=.ok True) :
  IR.run F98.b7 (CS Tryz.prog B) N ((rO id K0).blk 1 E1) K (F98.fr x0 x1 x2 (.ptr b3 0) (.ptr b4 0) (.ptr b5 0) (.ptr b6 0) x7 (.ptr b8 0) (.ptr b9 0) x10 v x12 x13 x14 x15 x16 x17 x18 x19 x20 x21 x22 x23 x24) h nx=.ok True:=by
 refine F98.L7 (fun m x11 h' nx'=>∃ (i:Nat) (q:List Sym) (ob:Ob),limit-i=m/\i<=q.length/\BfsS n u q i/\q.length<=limit/\QV x11 ob (q.drop i)/\Hp h0 h' nx' (ob::.map g1 (wo q)::X)) (m:=limit) (by omega) ⟨0,q,ob,rfl,by omega,hB,hql,hv,H⟩ ?_
 clear hB hql hv H v ob q
 rintro m v z12 z13 z18 z19 z20 z21 z22 z23 z24 h1 nx1 R ⟨i,q,ob,rfl,hi,hB,hql,hv,H1⟩ hR;rw [hv.len];simp only [qy];by_cases hlt:i<q.length
 case neg =>
  rw [List.length_drop];simp only [show ¬ (0:Int)<((q.length-i:Nat):Int) by omega,decide_false,zC];obtain rfl:i=q.length:=by omega
  exact hK _ _ _ _ _ hB.done hB.nd hql H1
 rw [List.length_drop];simp only [show (0:Int)<((q.length-i:Nat):Int) by omega,decide_true,zD];rw [H1.load (k:=5) (i:=0) k9 rfl,H1.o8 (k:=8) kg];refine F98.prods (x:=q[i]) hN hn hlim hu hul k3 k4 k5 k6 k8 kg (hB.at (List.getElem?_eq_getElem hlt)) hql hv H1 (fun k b q' h' nx' O1 O2 a1 a2 a3 a4 a5=>hbad i _ k b q' h' nx' O1 O2 a1 a2 a3 a4 a5) fun q' v' ob' w12 w13 w22 w23 w24 h2 nx2 hB2 hql2 hv2 H2 => ?_;have hil:=(List.getElem?_eq_some_iff.1 hB2.at').1;rw [Zan hil] at hv2;obtain ⟨v3,e3,hv3⟩:=hv2.rest;rw [F98.k22,e3];exact hR _ _ _ _ _ _ _ _ _ _ _ _ _ (by omega) ⟨i+1,q',ob',rfl,by omega,hB2.next,hql2,hv3,H2⟩
def F98.J (n limit:Nat) (l:List Sym) (id b3 b4 b5 b6 b7 b8 b9:Pa) (L:List Ob) (i:Nat) (L':List Ob):Prop :=
 ∃ (u q:List Sym) (o:Option Pa) (g:Pa),(∀ c∈u,c∈l)/\u.length<=i/\(∀ a∈l.take i,a∈q)/\q.Nodup/\CloS n u q/\q.length<=limit /\
  L'=.raw id (.loop .ready .none (F98.tm n limit l b3 b4 b5 b6 b7 b8 b9) [.of 15,.of 16] F98.b3 F98.b4)::.arr b9 [ku o 2 u.length]::.arr b8 [.map g]::.map g (wo q)::.gro o 2 u.length (yN u)::.arr b7 [encI (idS n).1,.bool (idS n).2]::.arr b6 [.bool false]::.arr b5 [.zh]::.arr b4 [.jm]::.arr b3 [I limit]::L
def F98.X (n limit:Nat) (l:List Sym) (id b3 b4 b5 b6 b7 b8 b9:Pa) (L:List Ob) (L':List Ob):Prop :=
 bJ n limit l/\∃ O1 O2 O3 O4 O5 O6 O7 O8 O9,L'=O1::O2::O3::O4::.raw id (.loop .done .ret (F98.tm n limit l b3 b4 b5 b6 b7 b8 b9) [.of 15,.of 16] F98.b3 F98.b4)::O5::O6::O7::O8::O9::.arr b6 [.bool false]::.arr b5 [.zh]::.arr b4 [.jm]::.arr b3 [I limit]::L
theorem Hp.tidy {h0 h:T Blk} {nx:Pa} {A M T' B' R B9 B8 G:Ob} {L:List Ob} (H:Hp h0 h nx (A::M::T'::B'::R::B9::B8::G::L)):Hp h0 h nx (R::B9::B8::M::L):=by
 have e1:(M::T'::B'::R::B9::B8::G::L).Perm (T'::B'::R::B9::B8::M::G::L):=(Zbm (l₁:=[T',B',R,B9,B8]) (a:=M) (l₂:=G::L)).symm;have H1:=H.drop.perm e1;have e2:(R::B9::B8::M::G::L).Perm (G::R::B9::B8::M::L):=Zbm (l₁:=[R,B9,B8,M]) (a:=G) (l₂:=L);exact (H1.drop.drop.perm e2).drop
theorem Hp.zwc {h0 h:T Blk} {nx:Pa} {A1 A2 M G B1 B2 B3 B4 B5:Ob} {L:List Ob} (H:Hp h0 h nx (A1::A2::M::G::B1::B2::B3::B4::B5::L)):Hp h0 h nx (M::G::L):=by
 have e1:(M::G::B1::B2::B3::B4::B5::L).Perm (M::B1::B2::B3::B4::B5::G::L):=.cons _ (Zbm (l₁:=[B1,B2,B3,B4,B5]) (a:=G) (l₂:=L)).symm;have e2:(M::B1::B2::B3::B4::B5::G::L).Perm (B1::B2::B3::B4::B5::M::G::L):=(Zbm (l₁:=[B1,B2,B3,B4,B5]) (a:=M) (l₂:=G::L)).symm;exact (H.drop.drop.perm (e1.trans e2)).drop.drop.drop.drop.drop
theorem F98.round {h0 h:T Blk} {nx id b3 b4 b5 b6 b7 b8 b9:Pa} {K:Kw Prop} {L L':List Ob} {n limit i:Nat} {l:List Sym} {a:Sym} (hn:n<=256) (hl1:1<=limit) (hlim:limit<=2000) (hl:∀ a∈l,DS n a) (hll:l.length<=2000) (hx:l[i]? = some a)
  (hJ:F98.J n limit l id b3 b4 b5 b6 b7 b8 b9 L i L') (H:Hp h0 h nx L')
  (hj:∀ h' nx' L',F98.J n limit l id b3 b4 b5 b6 b7 b8 b9 L (i+1) L'->Hp h0 h' nx' L'->K (.bool true) h' nx'=.ok True)
  (hs:∀ h' nx' L',F98.X n limit l id b3 b4 b5 b6 b7 b8 b9 L L'->Hp h0 h' nx' L'->K (.bool false) h' nx'=.ok True):(CS Tryz.prog B).yld id [I i,encS a] h nx K=.ok True:=by
 obtain ⟨u,q,o,g,hu,hul,hin,hnd,hC,hql,rfl⟩:=hJ;have hi:=(List.getElem?_eq_some_iff.1 hx).1;have ham:=Zaa hx;have hda:=hl a ham;have hqd:∀ y∈q,DS n y:=BfsS.ds (fun b hb=>hl b (hu b hb)) hC.ind;have htk:∀ c∈l.take (i+1),c∈l.take i\/c=a:=fun c hc=>by
  rw [Zam,hx] at hc;rcases List.mem_append.1 hc with r | r
  ·exact .inl r
  ·exact .inr (by simpa using r)
 refine zbc (fns:=tbl) yt 10000000 fun hf => ?_;rw [F98.p4 (vJ H (k:=0) rfl)];refine H.alloc fun b10 h1 nx1 H1 => ?_;refine H1.qm (k:=0) (n:=2) rfl rfl rfl fun h2 H2 => ?_;rw [zd9 (vJ H2 (k:=1) rfl)];have H3:=H2.zhx (k:=1) rfl (b':=.loop .busy .none (F98.tm n limit l b3 b4 b5 b6 b7 b8 b9) [.of 15,.of 16] F98.b3 F98.b4) (by intro e;cases e);rw [F98.y4,H3.load (k:=3) (i:=0) rfl rfl,H3.zi (k:=0) (n:=2) rfl rfl];refine zby hn hda hqd H3 (k:=4) rfl ?_;by_cases c:a∈q
 ·simp only [c,decide_true,zD];refine H3.rend (k:=1) rfl fun h4 H4 => ?_;exact hj _ _ _ ⟨u,q,o,g,hu,by omega,fun d hd=>(htk d hd).elim (hin d) (fun e=>e ▸ c),hnd,hC,hql,rfl⟩ H4.drop
 simp only [c,decide_false,zC];rw [H3.load (k:=2) (i:=0) rfl rfl,H3.zi (k:=0) (n:=2) rfl rfl];refine H3.yc (l:=[encI a.1,.bool a.2]) rfl fun tb h4 nx4 H4 => ?_;rw [sZ];refine H4.appN (k:=6) (o:=o) (c:=1) (esz:=2) (new:=[encI a.1,.bool a.2]) rfl (jc.rd (l:=[encI a.1,.bool a.2]) (n:=1) (e:=2) (H4.own _ (Zaj ..)) rfl) rfl rfl (by decide) (by decide) (by omega) fun o' h5 nx5 _ H5 => ?_;refine H5.store (k:=3) rfl (by simp) (uF _ _ _) fun h6 H6 => ?_;rw [show (true&&true)=true from rfl,yP,H6.zi (k:=7) (n:=2) rfl rfl,H6.zi (k:=7) (n:=2) rfl rfl];have hid:=DS.id n;have hid1:=hid.1;refine xP (a:=idS n) (fun y hy=>by have:=hid.2 y hy;omega) (by omega) _ _ _ _ ?_;rintro _ rfl _;rw [H6.zi (k:=7) (n:=2) rfl rfl,zB,H6.zi (k:=7) (n:=2) rfl rfl,zB];refine H6.fP fun g1 h7 nx7 H7 => ?_;rw [H7.zi (k:=8) (n:=2) rfl rfl,zB,H7.zi (k:=8) (n:=2) rfl rfl,zB];refine H7.putS hn hid (ks:=[]) (by simp) (by simp) (k:=0) rfl fun h8 H8 => ?_;refine H8.store (k:=5) rfl (by simp) rfl fun h9 H9 => ?_;rw [H9.zi (k:=8) (n:=2) rfl rfl];refine H9.yc (l:=[encI (idS n).1,.bool (idS n).2]) rfl fun qb h10 nx10 H10 => ?_;have eu:u.length+1=(u++[a]).length:=by simp
 have ef:yN u++[encI a.1,.bool a.2]=yN (u++[a]):=by simp [yN]
 have hu':∀ b∈u++[a],b∈l:=fun b hb=>by
  rcases List.mem_append.1 hb with r | r
  ·exact hu b r
  ·rw [List.mem_singleton.1 r];exact ham
 rw [eu,ef] at H10;refine F98.bfs (o:=o') (ob:=.arr qb [encI (idS n).1,.bool (idS n).2]) (u:=u++[a]) (q:=[idS n]) (limit:=limit) (by decide) hn hlim (fun b hb=>hl b (hu' b hb)) (by simp;omega) rfl rfl rfl rfl rfl rfl rfl (Bfs.start _) (by simpa using hl1) (.cap qb 0 _ [idS n] (by simp) rfl) H10 (fun j x k b q' h' nx' O1 O2 a1 a2 a3 a4 H' => ?_) fun q' ob' tm h' nx' hC' hnd' hql' H' => ?_
 ·refine H'.rend (k:=4) rfl fun h11 H11 => ?_;exact hs _ _ _ ⟨⟨u++[a],q',j,x,k,b,hu',a1,a2,a3,a4⟩,_,_,_,_,_,_,_,_,_,rfl⟩ H11
 ·refine H'.rend (k:=4) rfl fun h11 H11 => ?_;refine hj _ _ _ ⟨u++[a],q',o',g1,hu',by simp;omega,fun d hd => ?_,hnd',hC',hql',rfl⟩ (Hp.tidy H11);rcases htk d hd with r | rfl
  ·exact Clo.mono hC hC' (fun b hb=>Zbw _ hb) d (hin d r)
  ·have:=hC'.clo _ hC'.one d (by simp)
   rwa [comp_id hda] at this
theorem zbz {h0 h:T Blk} {nx p:Pa} {K:Kw Prop} {L:List Ob} {n limit:Nat} {l:List Sym} (hn:n<=256) (hl1:1<=limit) (hlim:limit<=2000) (hl:∀ a∈l,DS n a) (hll:l.length<=2000) (H:Hp h0 h nx L)
  (hno:∀ h' nx',bJ n limit l->Hp h0 h' nx' L->K (.tup [.jm,.zh,.bool false]) h' nx'=.ok True)
  (hyes:∀ (u q:List Sym) g o h' nx',(∀ c∈u,c∈l)->u.length<=l.length->(∀ a∈l,a∈q)->q.Nodup->CloS n u q->q.length<=limit->Hp h0 h' nx' (.map g (wo q)::.gro o 2 u.length (yN u)::L)->K (.tup [.map g,ku o 2 u.length,.bool true]) h' nx'=.ok True) :
  (CS Tryz.prog B).fn 98 p [jd l,I n,I limit] h nx K=.ok True:=by
 refine jH (p:=.of 98) (K:=K) (zS zW yt 10000000 fun hf => ?_) fun _ _ _ _ q=>q;have hid:=DS.id n;have hid1:=hid.1;rw [F98.go];refine H.box (l:=[I limit]) rfl fun b3 h1 nx1 H1 => ?_;refine H1.alloc fun b4 h2 nx2 H2 => ?_;refine H2.alloc fun b5 h3 nx3 H3 => ?_;refine H3.alloc fun b6 h4 nx4 H4 => ?_;refine zf6 (by omega) _ _ _ _ ?_;rintro _ rfl _;refine H4.alloc fun b7 h5 nx5 H5 => ?_;refine H5.qm (k:=0) (n:=2) rfl rfl rfl fun h6 H6 => ?_;rw [show (true&&(true&&true))=true from rfl,yP,H6.zi (k:=0) (n:=2) rfl rfl,H6.zi (k:=0) (n:=2) rfl rfl];refine xP (a:=idS n) (fun y hy=>by have:=hid.2 y hy;omega) (by omega) _ _ _ _ ?_;rintro _ rfl _;rw [H6.zi (k:=0) (n:=2) rfl rfl,zB,H6.zi (k:=0) (n:=2) rfl rfl,zB];refine H6.fP fun g h7 nx7 H7 => ?_;rw [H7.zi (k:=1) (n:=2) rfl rfl,zB,H7.zi (k:=1) (n:=2) rfl rfl,zB];refine H7.putS hn hid (ks:=[]) (by simp) (by simp) (k:=0) rfl fun h8 H8 => ?_;rw [H8.zi (k:=1) (n:=2) rfl rfl,zB,H8.zi (k:=1) (n:=2) rfl rfl,zB];refine H8.alloc fun b8 h9 nx9 H9 => ?_;rw [zB,H9.zi (k:=2) (n:=2) rfl rfl,zB,H9.zi (k:=2) (n:=2) rfl rfl,zB];refine H9.store (k:=0) rfl (by simp) rfl fun h10 H10 => ?_;refine H10.alloc fun b9 h11 nx11 H11 => ?_;refine zef _ _ _ _ ?_;rintro _ rfl _;have H12:=H11.aG 2;have H13:Hp h0 h11 nx11 (.arr b9 [ku none 2 0]::.arr b8 [.map g]::.map g (wo [idS n])::.gro none 2 0 []::.arr b7 [encI (idS n).1,.bool (idS n).2]::.arr b6 [.bool false]::.arr b5 [.zh]::.arr b4 [.jm]::.arr b3 [I limit]::L):=by
  have e:=(Zbm (l₁:=[.arr b9 [ku none 2 0],.arr b8 [.map g],.map g (wo [idS n])]) (a:=Ob.gro none 2 0 []) (l₂:=.arr b7 [encI (idS n).1,.bool (idS n).2]::.arr b6 [.bool false]::.arr b5 [.zh]::.arr b4 [.jm]::.arr b3 [I limit]::L)).symm;exact H12.perm e
 refine H13.rf (g:=159) (p:=.of 159) (cap:=[.fp [jd l]]) rfl fun id h14 nx14 H14 => ?_;refine zeg (F98.J n limit l id b3 b4 b5 b6 b7 b8 b9 L) (F98.X n limit l id b3 b4 b5 b6 b7 b8 b9 L) (by omega) ⟨[],[idS n],none,g,by simp,by simp,by simp,by simp,?_,by simpa using hl1,rfl⟩ H14 (fun i a h' nx' L' K' hx hJ H' hj hs=>F98.round hn hl1 hlim hl hll hx hJ H' hj hs) fun h' nx' L' hJX H' => ?_
 ·exact ⟨by simp,fun x _ b hb=>absurd hb (by simp),(Bfs.start (mul:=zP) (e:=idS n) []).ind⟩
 rcases hJX with ⟨u,q,o,g',hu,hul,hin,hnd,hC,hql,rfl⟩ | ⟨hT,O1,O2,O3,O4,O5,O6,O7,O8,O9,rfl⟩
 ·refine H'.rF fun h15 H15 => ?_;rw [zbj,F98.k23,H15.load (k:=1) (i:=0) rfl rfl,H15.load (k:=0) (i:=0) rfl rfl];refine H15.store (k:=7) rfl (by simp) rfl fun h16 H16 => ?_;rw [H16.load (k:=0) (i:=0) rfl rfl,zB];refine H16.store (k:=6) rfl (by simp) (uF _ _ _) fun h17 H17 => ?_;refine H17.store (k:=5) rfl (by simp) rfl fun h18 H18 => ?_;rw [H18.load (k:=7) (i:=0) rfl rfl,H18.load (k:=6) (i:=0) rfl rfl,H18.load (k:=5) (i:=0) rfl rfl];rw [List.take_length] at hin;exact hyes u q g' o _ _ hu hul hin hnd hC hql (Hp.zwc H18)
 ·have Q:=H'.front (k:=4) rfl;refine Q.rF fun h15 H15 => ?_;show Ev.rF _ _ .done .ret _ h15 nx'=_;rw [mA];have e:∀ E0,(((fnO F98.res K).blk 0 E0).rt (F98.tm n limit l b3 b4 b5 b6 b7 b8 b9) h15 nx')=(zE (.ptr b4 0) h15 fun v1=>zE (.ptr b5 0) h15 fun v2=>zE (.ptr b6 0) h15 fun v3=>K (.tup [v1,v2,v3]) h15 nx'):=fun E0=>by kernel_rfl
  rw [e,H15.load (k:=11) (i:=0) rfl rfl,H15.load (k:=10) (i:=0) rfl rfl,H15.load (k:=9) (i:=0) rfl rfl];exact hno _ _ hT H15.drop.drop.drop.drop.drop.drop.drop.drop.drop.drop.drop.drop.drop
end Go.Ev
namespace Go.Ev
open Go Go.Proofs
def DP (n:Nat) (a:Sym):Prop:=DS n a/\a.1.Nodup
theorem DP.perm {n:Nat} {a:Sym} (h:DP n a):fA a.1:=⟨h.2,by rw [h.1.1];exact h.1.2⟩
theorem DP.of {n:Nat} {a:Sym} (h:fA a.1) (hl:a.1.length=n):DP n a:=⟨⟨hl,by have:=h.2;rw [hl] at this;exact this⟩,h.1⟩
theorem u6 {n:Nat} {a b:Sym} (hb:DS n b) {i:Nat} (hi:i<n):(zP a b).1[i]? = some (a.1.getD (b.1.getD i 0).toNat 0):=by
 have h1:=hb.1;show (b.1.map fun c=>a.1.getD c.toNat 0)[i]? = _;rw [List.getElem?_map,Zac (l:=b.1),List.getElem?_eq_getElem (by omega)]
 rfl
theorem DS.get {n:Nat} {b:Sym} (hb:DS n b) {i:Nat} (hi:i<n):b.1[i]? = some (b.1.getD i 0)/\0<=b.1.getD i 0/\b.1.getD i 0<(n:Int):=by
 have h1:=hb.1;have e:b.1[i]? = some (b.1.getD i 0):=by rw [Zac,List.getElem?_eq_getElem (by omega)];rfl
 exact ⟨e,hb.2 _ (Zaa e)⟩
theorem DP.inj {n:Nat} {a:Sym} (ha:DP n a) {i j:Nat} (hi:i<n) (hj:j<n) (h:a.1.getD i 0=a.1.getD j 0):i=j:=by
 obtain ⟨e1,_⟩:=ha.1.get hi;obtain ⟨e2,_⟩:=ha.1.get hj;rw [h] at e1;obtain ⟨p1,q1⟩:=List.getElem?_eq_some_iff.1 e1;obtain ⟨p2,q2⟩:=List.getElem?_eq_some_iff.1 e2;exact (List.getElem_inj (h₀:=p1) (h₁:=p2) ha.2).1 (q1.trans q2.symm)
theorem vL {n:Nat} {p q:List Int} (hp:p.length=n) (hq:q.length=n) (h:∀ i,i<n->p[i]? = q[i]?):p=q:=by
 refine Zay fun i => ?_;by_cases hi:i<n
 ·exact h i hi
 ·rw [List.getElem?_eq_none (by omega),List.getElem?_eq_none (by omega)]
theorem jY (n:Nat):oz zP (idS n) (DP n):={
 de:=⟨DS.id n,by
  show ((List.range n).map fun j:Nat=>(j:Int)).Nodup;rw [List.Nodup,Zbx];exact List.nodup_range.imp fun h q=>h (by omega)⟩
 dm a b ha hb:=⟨DS.comp ha.1 hb.1,by
  show (b.1.map fun c=>a.1.getD c.toNat 0).Nodup;rw [List.Nodup,Zbx];refine (List.Pairwise.and_mem.1 hb.2).imp ?_;rintro x y ⟨hx,hy,hxy⟩ q;have h1:=hb.1.2 x hx;have h2:=hb.1.2 y hy;have:=ha.inj (i:=x.toNat) (j:=y.toNat) (by omega) (by omega) q;exact hxy (by omega)⟩
 assoc a b c ha hb hc:=by
  refine Prod.ext ?_ (by show ((a.2 != b.2) != c.2)=(a.2 != (b.2 != c.2));cases a.2 <;> cases b.2 <;> cases c.2 <;> rfl);refine vL (n:=n) (by rw [zP,uL];exact hc.1.1) (by rw [zP,uL,zP,uL];exact hc.1.1) fun i hi => ?_;obtain ⟨e1,h1,h2⟩:=hc.1.get hi;have hk:(c.1.getD i 0).toNat<n:=by omega
  rw [u6 hc.1 hi,u6 (DS.comp hb.1 hc.1) hi];have q1:=u6 (a:=a) hb.1 hk;have q2:=u6 (a:=b) hc.1 hi;rw [Zac (l:=(zP a b).1),q1,Zac (l:=(zP b c).1),q2]
  rfl
 el a ha:=by
  refine Prod.ext ?_ (by show (false != a.2)=a.2;cases a.2 <;> rfl);refine vL (n:=n) (by rw [zP,uL];exact ha.1.1) ha.1.1 fun i hi => ?_;obtain ⟨e1,h1,h2⟩:=ha.1.get hi;rw [u6 ha.1 hi,e1];show some (((List.range n).map fun j:Nat=>(j:Int)).getD (a.1.getD i 0).toNat 0)=_;rw [Zac (l:=List.map _ _),List.getElem?_map,List.getElem?_range (by omega)];show some (((a.1.getD i 0).toNat:Nat):Int)=_
  congr 1;omega
 er a ha:=comp_id ha.1
 cl a b c ha hb hc h:=by
  refine Prod.ext ?_ ?_
  ·refine vL (n:=n) hb.1.1 hc.1.1 fun i hi => ?_;obtain ⟨e1,h1,h2⟩:=hb.1.get hi;obtain ⟨e2,h3,h4⟩:=hc.1.get hi;have q:(zP a b).1[i]? = (zP a c).1[i]? := by rw [h]
   rw [u6 hb.1 hi,u6 hc.1 hi] at q;have:=ha.inj (by omega) (by omega) (Option.some.inj q);rw [e1,e2];congr 1;omega
  ·have q:(a.2 != b.2)=(a.2 != c.2):=congrArg Prod.snd h;cases h1:a.2 <;> cases h2:b.2 <;> cases h3:c.2 <;> rw [h1,h2,h3] at q <;> first | rfl | cases q }
theorem oQ {G:List Sym}:clG G=true↔qD zP G:=by
 rw [clG,Zaf];constructor
 ·intro h a ha b hb;have:=h a ha;rw [Zaf] at this;exact of_decide_eq_true (this b hb)
 ·intro h a ha;rw [Zaf];exact fun b hb=>decide_eq_true (h a ha b hb)
theorem zf8 {a b c:List Int} (h1:jV a b=true) (h2:jV b c=true):jV a c=true:=by
 rw [wL,decide_eq_true_eq] at h1 h2 ⊢;exact uS h1 h2
theorem zb0 {a b c:Sym} (h1:fJ a b=true) (h2:fJ b c=true):fJ a c=true:=by
 rw [fJ] at h1 h2 ⊢;by_cases c1:a.1=b.1
 ·rw [if_pos c1] at h1;by_cases c2:b.1=c.1
  ·rw [if_pos c2] at h2;rw [if_pos (c1.trans c2)];cases h3:a.2 <;> cases h4:b.2 <;> cases h5:c.2 <;> simp_all
  ·rw [if_neg c2] at h2;rw [if_neg (by rw [c1];exact c2),c1];exact h2
 ·rw [if_neg c1] at h1;by_cases c2:b.1=c.1
  ·rw [if_neg (by rw [<- c2];exact c1),<- c2];exact h1
  ·rw [if_neg c2] at h2;have:=zf8 h1 h2;rw [if_neg (fun e=>by rw [e,lex_irrefl] at this;cases this)];exact this
theorem qV (a:Sym):fJ a a=false:=by rw [fJ,if_pos rfl];cases a.2 <;> rfl
theorem bC:∀ {G:List Sym},rU G=true->G.Pairwise fun a b=>fJ a b=true
 | [],_=>.nil
 | [a],_=>by simp
 | a::b::G,h=>by
  have e:rU (a::b::G)=(fJ a b&&rU (b::G)):=rfl;rw [e,Zag] at h;have ih:=bC h.2;refine List.pairwise_cons.2 ⟨fun c hc => ?_,ih⟩;rcases List.mem_cons.1 hc with rfl | hc
  ·exact h.1
  ·exact zb0 h.1 ((List.pairwise_cons.1 ih).1 c hc)
theorem zb1 {G:List Sym} (h:rU G=true):G.Nodup:=(bC h).imp fun hab e=>by rw [e,qV] at hab;cases hab
structure fU (G:List Sym) (n:Nat):Prop where
 n256:n<=256
 ne:G≠[]
 len:G.length<=1536
 dp:∀ g∈G,DP n g
 ord:rU G=true
 cl:qD zP G
theorem fU.nd {G:List Sym} {n:Nat} (h:fU G n):G.Nodup:=zb1 h.ord
theorem fU.one {G:List Sym} {n:Nat} (h:fU G n):idS n∈G:=dN (jY n) h.dp h.nd h.ne h.cl
theorem fU.inv {G:List Sym} {n:Nat} (h:fU G n):∀ a∈G,∃ b∈G,zP a b=idS n:=zh3 (jY n) h.dp h.nd h.cl h.one
theorem zkq {G:List Sym} {z:Int} (h:jK G z=0):∃ n:Nat,z=(n:Int)/\fU G n:=by
 rw [jK] at h;by_cases c1:z<0\/256<z
 ·rw [if_pos c1] at h;cases h
 rw [if_neg c1] at h;by_cases c2:G.length=0
 ·rw [if_pos c2] at h;cases h
 rw [if_neg c2] at h;by_cases c3:1536<G.length
 ·rw [if_pos c3] at h;cases h
 rw [if_neg c3] at h;by_cases c4:jL z G=0
 case neg=>rw [if_pos c4] at h;exact absurd h c4
 rw [if_neg (by simp [c4])] at h;by_cases c5:rU G=false
 ·rw [if_pos c5] at h;cases h
 rw [if_neg c5] at h;by_cases c6:clG G=false
 ·rw [if_pos c6] at h;cases h
 refine ⟨z.toNat,by omega,by omega,by rintro rfl;exact c2 rfl,by omega,fun g hg => ?_,by simpa using c5,oQ.1 (by simpa using c6)⟩;obtain ⟨_,h2,h3⟩:=gG (qL c4 g hg);exact DP.of h3 (by omega)
end Go.Ev
namespace Go.Ev
open Go Go.Proofs
variable {B:Nat}
theorem zqp (op:KW3->OP) (h:T Blk) (nx:Pa) (k:KW3):sGW (.bool false) true op h nx k=k .undef h nx:=nr rfl
theorem zqq (op:KW3->OP) (h:T Blk) (nx:Pa) (k:KW3):sGW (.bool true) true op h nx k=op k:=nr rfl
noncomputable abbrev F92.tm (n:Int) (l:List Sym) (b2 b3 b4 b5:Pa):T AV:=F92.fr (jd l) (I n) (.ptr b2 0) (.ptr b3 0) (.ptr b4 0) (.ptr b5 0) (I 0) (I 0) .undef .undef .undef .undef .undef (.bool false) (.bool false) (.fn 159 (.of 159) [.fp [jd l]]) .undef .undef .undef .undef
def F92.J (n:Int) (l:List Sym) (id b2 b3 b4 b5:Pa) (L:List Ob) (i:Nat) (L':List Ob):Prop :=
 rU l=rU (l.drop (i-1))/\L'=.raw id (.loop .ready .none (F92.tm n l b2 b3 b4 b5) [.of 16,.of 17] F92.b5 F92.b6)::.arr b5 [I 0]::.arr b4 [.zh]::.arr b3 [.jm]::.arr b2 [jd l]::L
def F92.X (n:Int) (l:List Sym) (id b2 b3 b4 b5:Pa) (L:List Ob) (L':List Ob):Prop :=
 rU l=false/\∃ O1,L'=O1::.raw id (.loop .done .ret (F92.tm n l b2 b3 b4 b5) [.of 16,.of 17] F92.b5 F92.b6)::.arr b5 [I 11]::.arr b4 [.zh]::.arr b3 [.jm]::.arr b2 [jd l]::L
theorem F92.round {h0 h:T Blk} {nx id b2 b3 b4 b5:Pa} {K:Kw Prop} {L L':List Ob} {i:Nat} {n:Int} {l:List Sym} {a:Sym} (hll:l.length<=2000) (hw:∀ g∈l,g.1.length<=1000000) (hx:l[i]? = some a)
  (hJ:F92.J n l id b2 b3 b4 b5 L i L') (H:Hp h0 h nx L')
  (hj:∀ h' nx' L',F92.J n l id b2 b3 b4 b5 L (i+1) L'->Hp h0 h' nx' L'->K (.bool true) h' nx'=.ok True)
  (hs:∀ h' nx' L',F92.X n l id b2 b3 b4 b5 L L'->Hp h0 h' nx' L'->K (.bool false) h' nx'=.ok True):(CS Tryz.prog B).yld id [I i,encS a] h nx K=.ok True:=by
 obtain ⟨ho,rfl⟩:=hJ;have hi:=(List.getElem?_eq_some_iff.1 hx).1;refine zbc (fns:=tbl) yt 10000 fun hf => ?_;rw [F92.p6 (vJ H (k:=0) rfl)];refine H.alloc fun b10 h1 nx1 H1 => ?_;refine H1.qm (k:=0) (n:=2) rfl rfl rfl fun h2 H2 => ?_;rw [zd9 (vJ H2 (k:=1) rfl)];have H3:=H2.zhx (k:=1) rfl (b':=.loop .busy .none (F92.tm n l b2 b3 b4 b5) [.of 16,.of 17] F92.b5 F92.b6) (by intro e;cases e);rw [F92.y6];simp only [qy];by_cases c0:i=0
 ·subst c0;simp only [show ¬ (0:Int)<((0:Nat):Int) by decide,decide_false,jF,zqp,zM,zC];refine H3.rend (k:=1) rfl fun h4 H4 => ?_;exact hj _ _ _ ⟨ho,rfl⟩ H4.drop
 simp only [show (0:Int)<(i:Int) by omega,decide_true,yT,zqq];have hi1:i-1<l.length:=by omega
 have hai:l[i]=a:=by rw [List.getElem?_eq_getElem hi] at hx;exact Option.some.inj hx
 rw [H3.load (k:=5) (i:=0) rfl rfl,bg (by omega),xg (i:=i-1) (by omega) hi1,jU hi1,uV,H3.zi (k:=0) (n:=2) rfl rfl];refine zh2 (a:=l[i-1]) (b:=a) (hw _ (Zai hi1)) (hw _ (Zaa hx)) _ _ _ _ ?_;rintro _ rfl _;rw [xw,zR];have hd:rU (l.drop (i-1))=(fJ l[i-1] a&&rU (l.drop i)):=by
  have e:=zc2 (G:=l) (i:=i-1) (by omega);simp only [show i-1+1=i by omega,hai] at e;exact e
 cases c:fJ l[i-1] a with
 | true =>
  have:=(zf5 l[i-1] a).2 c;rw [decide_eq_false (show ¬ (0:Int)<=cmpS l[i-1] a by omega),zC];refine H3.rend (k:=1) rfl fun h4 H4 => ?_;exact hj _ _ _ ⟨by rw [ho,hd,c];simp,rfl⟩ H4.drop
 | false =>
  have:¬ cmpS l[i-1] a<0:=fun q=>by rw [(zf5 _ _).1 q] at c;cases c
  rw [decide_eq_true (show (0:Int)<=cmpS l[i-1] a by omega),zD];refine H3.store (k:=4) rfl (by simp) rfl fun h4 H4 => ?_;refine H4.store (k:=3) rfl (by simp) rfl fun h5 H5 => ?_;refine H5.store (k:=2) rfl (by simp) rfl fun h6 H6 => ?_;refine H6.rend (k:=1) rfl fun h7 H7 => ?_;exact hs _ _ _ ⟨by rw [ho,hd,c];rfl,_,rfl⟩ H7
theorem zeh {h0 h:T Blk} {nx p:Pa} {K:Kw Prop} {L:List Ob} {n:Int} {G:List Sym} (hG:G.length<=100000) (hw:∀ g∈G,g.1.length<=100000) (H:Hp h0 h nx L)
  (hbad:∀ h' nx',jK G n≠0->Hp h0 h' nx' L->K (.tup [.jm,.zh,I (jK G n)]) h' nx'=.ok True)
  (hok:∀ (n':Nat) (u q:List Sym) g o h' nx',n=n'->fU G n'->jK G n=0->(∀ c∈u,c∈G)->u.length<=G.length->CloS n' u q->q.Nodup->(∀ a,a∈q↔a∈G)->Hp h0 h' nx' (.map g (wo q)::.gro o 2 u.length (yN u)::L)->K (.tup [.map g,ku o 2 u.length,I 0]) h' nx'=.ok True) :
  (CS Tryz.prog B).fn 92 p [jd G,I n] h nx K=.ok True:=by
 refine jH (p:=.of 92) (K:=K) (zS zW yt 10000000 fun hf => ?_) fun _ _ _ _ q=>q;rw [F92.go];refine H.box (l:=[jd G]) rfl fun b2 h1 nx1 H1 => ?_;refine H1.alloc fun b3 h2 nx2 H2 => ?_;refine H2.alloc fun b4 h3 nx3 H3 => ?_;refine H3.alloc fun b5 h4 nx4 H4 => ?_
 have bad:∀ (v:Int) h' nx' X,v≠0->jK G n=v->Hp h0 h' nx' (X::.arr b5 [I 0]::.arr b4 [.zh]::.arr b3 [.jm]::.arr b2 [jd G]::L) ->
   (zQ 1 (.ptr b3 0) .jm h' nx' fun _ h36 n37=>zQ 1 (.ptr b4 0) .zh h36 n37 fun _ h39 n40=>zQ 1 (.ptr b5 0) (I v) h39 n40 fun _ h42 n43=>zE (.ptr b3 0) h42 fun v44=>zE (.ptr b4 0) h42 fun v45=>zE (.ptr b5 0) h42 fun v46=>K (.tup [v44,v45,v46]) h42 n43)=.ok True:=by
  intro v h' nx' X hv hg H';refine H'.store (k:=3) rfl (by simp) rfl fun h6 H6 => ?_;refine H6.store (k:=2) rfl (by simp) rfl fun h7 H7 => ?_;refine H7.store (k:=1) rfl (by simp) rfl fun h8 H8 => ?_;rw [H8.load (k:=3) (i:=0) rfl rfl,H8.load (k:=2) (i:=0) rfl rfl,H8.load (k:=1) (i:=0) rfl rfl];have:=hbad _ _ (by rw [hg];exact hv) H8.drop.drop.drop.drop.drop;rw [hg] at this;exact this
 rw [H4.load (k:=3) (i:=0) rfl rfl,zG,dw,H4.load (k:=3) (i:=0) rfl rfl,zG,qy];refine zbx n _ _ _ _ ?_;rintro _ rfl _;rw [qy,zB,zG,zB,H4.load (k:=3) (i:=0) rfl rfl,zB,dw,zB,zG,zB,H4.load (k:=3) (i:=0) rfl rfl,zB];refine qY _ _ _ _ _ _ ?_;rintro _ rfl _;rw [qy,zB,zG,zB,H4.load (k:=3) (i:=0) rfl rfl,zB];refine qY _ _ _ _ _ _ ?_;rintro _ rfl _;refine H4.yc (l:=[I (if n<0\/256<n then 3 else 0),I (if decide ((G.length:Int)=0)=true then 12 else 0),I (if decide ((1536:Int)<(G.length:Int))=true then 5 else 0)]) rfl fun tb h5 nx5 H5 => ?_;refine kK (l:=[if n<0\/256<n then 3 else 0,if decide ((G.length:Int)=0)=true then 12 else 0,if decide ((1536:Int)<(G.length:Int))=true then 5 else 0]) H5 (k:=0) rfl (fun B=>xU (by simp)) (fun v hv=>by rw [hv];exact .int _ _) ?_;rintro _ rfl;have fE:gY [if n<0\/256<n then (3:Int) else 0,if decide ((G.length:Int)=0)=true then 12 else 0,if decide ((1536:Int)<(G.length:Int))=true then 5 else 0]=if n<0\/256<n then 3 else if G.length=0 then 12 else if 1536<G.length then 5 else 0:=by
  by_cases c1:n<0\/256<n
  ·rw [if_pos c1,if_pos c1];rfl
  rw [if_neg c1,if_neg c1];by_cases c2:G.length=0
  ·rw [decide_eq_true (show (G.length:Int)=0 by omega),if_pos c2];rfl
  rw [decide_eq_false (show ¬ (G.length:Int)=0 by omega),if_neg c2];by_cases c3:1536<G.length
  ·rw [decide_eq_true (show (1536:Int)<(G.length:Int) by omega),if_pos c3];rfl
  ·rw [decide_eq_false (show ¬ (1536:Int)<(G.length:Int) by omega),if_neg c3];rfl
 rw [fE,gy];by_cases c1:n<0\/256<n
 ·rw [if_pos c1];simp only [show ¬ (3:Int)=0 by decide,decide_false,Zae,zD];exact bad 3 _ _ _ (by decide) (by rw [jK,if_pos c1]) H5
 rw [if_neg c1];by_cases c2:G.length=0
 ·rw [if_pos c2];simp only [show ¬ (12:Int)=0 by decide,decide_false,Zae,zD];exact bad 12 _ _ _ (by decide) (by rw [jK,if_neg c1,if_pos c2]) H5
 rw [if_neg c2];by_cases c3:1536<G.length
 ·rw [if_pos c3];simp only [show ¬ (5:Int)=0 by decide,decide_false,Zae,zD];exact bad 5 _ _ _ (by decide) (by rw [jK,if_neg c1,if_neg c2,if_pos c3]) H5
 rw [if_neg c3];have e0:jK G n=if jL n G≠0 then jL n G else if rU G=false then 11 else if clG G=false then 28 else 0:=by rw [jK,if_neg c1,if_neg c2,if_neg c3]
 simp only [decide_true,Zad,zC];rw [H5.load (k:=4) (i:=0) rfl rfl];refine mZ hG hw _ _ _ _ ?_;rintro _ rfl _;rw [gy];by_cases c4:jL n G=0
 case neg =>
  simp only [c4,decide_false,Zae,zD];exact bad _ _ _ _ c4 (by rw [e0,if_pos c4]) H5
 rw [if_neg (by simp [c4])] at e0;simp only [c4,decide_true,Zad,zC];have hsy:=qL c4;obtain ⟨n',rfl⟩:∃ n':Nat,n=(n':Int):=⟨n.toNat,by omega⟩;have hdp:∀ g∈G,DP n' g:=fun g hg=>by
  obtain ⟨_,q2,q3⟩:=gG (hsy g hg);exact DP.of q3 (by omega)
 rw [H5.load (k:=4) (i:=0) rfl rfl];refine zef _ _ _ _ ?_;rintro _ rfl _;refine H5.drop.rf (g:=159) (p:=.of 159) (cap:=[.fp [jd G]]) rfl fun id h6 nx6 H6 => ?_;refine zeg (F92.J n' G id b2 b3 b4 b5 L) (F92.X n' G id b2 b3 b4 b5 L) (by omega) ⟨by simp,rfl⟩ H6 (fun i a h' nx' L' K' hx hJ H' hj hs=>F92.round (by omega) (fun g hg=>by have:=hw g hg;omega) hx hJ H' hj hs) fun h' nx' L' hJX H' => ?_;rcases hJX with ⟨ho,rfl⟩ | ⟨ho,O1,rfl⟩
 case inr =>
  have Q:=H'.front (k:=1) rfl;refine Q.rF fun h15 H15 => ?_;show Ev.rF _ _ .done .ret _ h15 nx'=_;rw [mA];have e:∀ E0,(((fnO F92.res K).blk 0 E0).rt (F92.tm n' G b2 b3 b4 b5) h15 nx')=(zE (.ptr b3 0) h15 fun v1=>zE (.ptr b4 0) h15 fun v2=>zE (.ptr b5 0) h15 fun v3=>K (.tup [v1,v2,v3]) h15 nx'):=fun E0=>by kernel_rfl
  rw [e,H15.load (k:=3) (i:=0) rfl rfl,H15.load (k:=2) (i:=0) rfl rfl,H15.load (k:=1) (i:=0) rfl rfl];have hg:jK G n'=11:=by rw [e0,if_pos ho]
  have:=hbad _ _ (by rw [hg];decide) H15.drop.drop.drop.drop.drop;rw [hg] at this;exact this
 have hord:rU G=true:=by rw [ho];exact zf0 (by omega)
 rw [if_neg (by simp [hord])] at e0;have hnd:=zb1 hord;have hG0:G≠[]:=by rintro rfl;exact c2 rfl
 refine H'.rF fun h15 H15 => ?_;rw [zbj,F92.k8,H15.load (k:=3) (i:=0) rfl rfl,H15.load (k:=3) (i:=0) rfl rfl,zG];refine zbz (n:=n') (limit:=G.length) (by omega) (by omega) (by omega) (fun g hg=>(hdp g hg).1) (by omega) H15 (fun h16 nx16 hT H16 => ?_) fun u q g o h16 nx16 hu hul hin hqn hC hql H16 => ?_
 ·obtain ⟨u,q,i,x,k,b,hu,hB,hb,hnot,hq⟩:=hT;have hnc:=hB.many (jY n') hb hnot hq hdp hnd hG0 hu;have hcl:clG G=false:=by
   cases c:clG G with
   | false=>rfl
   | true=>exact absurd (oQ.1 c) hnc
  rw [yM,yO,yV,yA];simp only [Zae,yQ,zR,zD];refine H16.store (k:=2) rfl (by simp) rfl fun h7 H7 => ?_;refine H7.store (k:=1) rfl (by simp) rfl fun h8 H8 => ?_;refine H8.store (k:=0) rfl (by simp) rfl fun h9 H9 => ?_;rw [H9.load (k:=2) (i:=0) rfl rfl,H9.load (k:=1) (i:=0) rfl rfl,H9.load (k:=0) (i:=0) rfl rfl];have hg:jK G n'=28:=by rw [e0,if_pos hcl]
  have:=hbad _ _ (by rw [hg];decide) H9.drop.drop.drop.drop;rw [hg] at this;exact this
 ·rw [yM,yO,yV,yA];simp only [Zad,yG];rw [H16.zrt (k:=0) rfl,H16.load (k:=5) (i:=0) rfl rfl,zG,gy,zM];have hiff:=zk3 (jY n') hC hqn hdp hnd hG0 hu hin;by_cases c:q.length=G.length
  case neg =>
   have hcl:clG G=false:=by
    cases c':clG G with
    | false=>rfl
    | true=>exact absurd (hiff.2 (oQ.1 c')) c
   simp only [show ¬ (q.length:Int)=(G.length:Int) by omega,decide_false,Zae,zD];refine H16.store (k:=4) rfl (by simp) rfl fun h7 H7 => ?_;refine H7.store (k:=3) rfl (by simp) rfl fun h8 H8 => ?_;refine H8.store (k:=2) rfl (by simp) rfl fun h9 H9 => ?_;rw [H9.load (k:=4) (i:=0) rfl rfl,H9.load (k:=3) (i:=0) rfl rfl,H9.load (k:=2) (i:=0) rfl rfl];have hg:jK G n'=28:=by rw [e0,if_pos hcl]
   have:=hbad _ _ (by rw [hg];decide) H9.drop.drop.drop.drop.drop.drop;rw [hg] at this;exact this
  ·have hcl:=oQ.2 (hiff.1 c);have hg:jK G n'=0:=by rw [e0,hcl];rfl
   simp only [show (q.length:Int)=(G.length:Int) by omega,decide_true,Zad,zC];rw [F92.k9];refine H16.store (k:=4) rfl (by simp) rfl fun h7 H7 => ?_;refine H7.store (k:=3) rfl (by simp) (uF _ _ _) fun h8 H8 => ?_;refine H8.store (k:=2) rfl (by simp) rfl fun h9 H9 => ?_;rw [H9.load (k:=4) (i:=0) rfl rfl,H9.load (k:=3) (i:=0) rfl rfl,H9.load (k:=2) (i:=0) rfl rfl];have hok':fU G n':=⟨by omega,hG0,by omega,hdp,hord,hiff.1 c⟩;have hsub:∀ x∈q,x∈G:=hC.sub hok'.one hok'.cl hu;have P:Hp h0 h9 nx16 (.map g (wo q)::.gro o 2 u.length (yN u)::L):=by
    have e1:∀ (A M B1 B2 B3 B4:Ob),(A::M::B1::B2::B3::B4::L).Perm (B1::B2::B3::B4::A::M::L):=fun A M B1 B2 B3 B4 =>
     (List.Perm.cons A (Zbm (l₁:=[B1,B2,B3,B4]) (a:=M) (l₂:=L)).symm).trans (Zbm (l₁:=[B1,B2,B3,B4]) (a:=A) (l₂:=M::L)).symm
    exact (H9.perm (e1 _ _ _ _ _ _)).drop.drop.drop.drop
   exact hok n' u q g o _ _ rfl hok' hg hu hul hC hqn (fun a=>⟨hsub a,hin a⟩) P
theorem vY {G:List Sym} {n:Int} (hG:G.length<=100000) (hw:∀ g∈G,g.1.length<=100000):Pure Tryz.prog B 22 [jd G,I n] (· = I (jK G n)):=by
 refine y8 fun h nx K H0 hK=>zS zW yt 1000 fun hf => ?_;rw [F22.go];refine zeh hG hw H0 (fun h' nx' hg H' => ?_) fun n' u q g o h' nx' hn hok hg hu _ hC hqn hq H' => ?_
 ·rw [yM,yO,yV];exact hK _ _ _ _ _ H' (zJ rfl) rfl
 ·rw [yM,yO,yV];exact hK _ _ _ _ _ H' (zJ rfl) (by rw [hg])
end Go.Ev
namespace Go.Proofs
open Go.Shelf Go.Lib Go.RowKit Go.Sort
def bZ (a b:List Int×Bool):Int:=if qj a.1 b.1≠0\/a.2=b.2 then qj a.1 b.1 else if a.2 then 1 else -1
theorem drew_grow (w:World) (X Y:Obj) (q:Nat):((w.alloc X).alloc Y).drewN q=grow (w.drewN q) #[X,Y]:=by
 have e:(w.heap.push X).push Y=w.heap ++ #[X,Y]:=by apply Array.ext';simp
 unfold World.drewN World.alloc grow
 dsimp only
 rw [e]
theorem xC {w:World} {X:Obj} {a:Addr} {v:Value} (h:w.cell? a=some v):(w.alloc X).cell? a=some v:=by
 unfold World.cell? World.alloc at *
 cases e:w.heap[a.block]? with
 | none=>rw [e] at h;cases h
 | some o =>
  have hl:a.block<w.heap.size:=(Array.getElem?_eq_some_iff.1 e).1;have:(w.heap.push X)[a.block]? = w.heap[a.block]? := by rw [Array.getElem?_push,if_neg (by omega)]
  simp only [this,e] at *
  exact h
set_option maxHeartbeats 2000000 in
set_option maxRecDepth 100000 in
theorem zf9 (p1 p2:Option Addr) (n c m d:Nat) (xs ys:List Int) (a b:Bool) (w:World) (hn:n=xs.length) (hm:m=ys.length) (hbig:n<=1000000) (hbig2:m<=1000000)
  (hc1:n=0\/∃ b1 o1,p1=some ⟨b1,o1,none⟩/\∀ j,j<n->w.cell? ⟨b1,o1+j,none⟩=some (.int .i64 xs[j]!)) (hc2:m=0\/∃ b2 o2,p2=some ⟨b2,o2,none⟩/\∀ j,j<m->w.cell? ⟨b2,o2+j,none⟩=some (.int .i64 ys[j]!)) :
  Calls Tryz.prog 162 #[.agg #[.slice p1 n c,.bool a],.agg #[.slice p2 m d,.bool b]] w fun e w'=>e=.returned (.int .i64 (bZ (xs,a) (ys,b)))/\∃ q os',w'=grow (w.drewN q) os':=by
 have H1:Aside (n=0\/∃ b1 o1,p1=some ⟨b1,o1,none⟩/\∀ j,j<n->w.cell? ⟨b1,o1+j,none⟩=some (.int .i64 xs[j]!)):=hc1;have H2:Aside (m=0\/∃ b2 o2,p2=some ⟨b2,o2,none⟩/\∀ j,j<m->w.cell? ⟨b2,o2+j,none⟩=some (.int .i64 ys[j]!)):=hc2
 clear hc1 hc2
 have mixed:Tryz.prog.follows .mixedOrders=true:=by kernel_rfl
 have t0:=Tryz.underlying0;have a0:=Tryz.isAgg0;have z0:=Tryz.sizeOf0;have v0:=Tryz.zeroValue0;have t3:=Tryz.underlying3;have a3:=Tryz.isAgg3;have z3:=Tryz.sizeOf3;have v3:=Tryz.zeroValue3;have t4:=Tryz.underlying4;have a4:=Tryz.isAgg4;have z4:=Tryz.sizeOf4;have v4:=Tryz.zeroValue4;have t35:=Tryz.underlying35;have a35:=Tryz.isAgg35;have z35:=Tryz.sizeOf35;have v35:=Tryz.zeroValue35;have t112:=Tryz.underlying112;have a112:=Tryz.isAgg112;have z112:=Tryz.sizeOf112;have v112:=Tryz.zeroValue112;have S0:Aside (n=xs.length/\m=ys.length):=⟨hn,hm⟩
 have hcall:∃ r,Aside (qj xs ys=r)/\∀ X Y,Calls Tryz.prog 201 #[.slice p1 n c,.slice p2 m d] ((w.alloc X).alloc Y) fun e w'=>e=.returned (.int .i64 r)/\∃ q,w'=((w.alloc X).alloc Y).drewN q :=
  ⟨qj xs ys,rfl,fun X Y=>zh1 p1 p2 n c m d xs ys _ hn hm hbig hbig2
   (H1.out.imp id fun ⟨b1,o1,e,f⟩=>⟨b1,o1,e,fun j hj=>xC (xC (f j hj))⟩)
   (H2.out.imp id fun ⟨b1,o1,e,f⟩=>⟨b1,o1,e,fun j hj=>xC (xC (f j hj))⟩)⟩
 obtain ⟨r,hr,hcall⟩:=hcall
 clear H1 H2
 have fin:∀ v:Int,Aside (v=if r≠0\/a=b then r else if a then 1 else -1)->Aside (v=bZ (xs,a) (ys,b)):=fun v e=>by
  unfold Aside at *
  rw [e,<- hr];rfl
 clear hn hm hr
 by_cases h0:r=0
 ·subst h0;have h0:(0:Int)=0:=rfl;cases a <;> cases b
  all_goals
   go_enter Tryz.func162,Tryz.ntmps162
   go_wp2_with (go_at_call 201;refine (hcall _ _).mono ?_;rintro e w' ⟨rfl,q,rfl⟩)
   all_goals (go_ret;exact ⟨congrArg (fun v=>Ending.returned (.int .i64 v)) (fin _ (by unfold Aside;simp [h0])).out,q,_,drew_grow _ _ _ _⟩)
 ·cases a <;> cases b
  all_goals
   go_enter Tryz.func162,Tryz.ntmps162
   go_wp2_with (go_at_call 201;refine (hcall _ _).mono ?_;rintro e w' ⟨rfl,q,rfl⟩)
   all_goals (go_ret;exact ⟨congrArg (fun v=>Ending.returned (.int .i64 v)) (fin _ (by unfold Aside;simp [h0])).out,q,_,drew_grow _ _ _ _⟩)
end Go.Proofs
namespace Go.Proofs
theorem mD {a b:List Int} (h:a≠b):qj a b≠0:=fun e=>h (q8 e)
theorem wJ (a b:List Int×Bool):bZ a b=if a.1=b.1 then (if a.2=b.2 then 0 else if a.2 then 1 else -1) else qj a.1 b.1:=by
 unfold bZ;by_cases h:a.1=b.1
 ·rw [if_pos h,h,qF];by_cases g:a.2=b.2
  ·rw [if_pos (.inr g),if_pos g]
  ·rw [if_neg (by simp [g]),if_neg g]
 ·rw [if_neg h,if_pos (.inl (mD h))]
theorem kB (a b:List Int×Bool):bZ b a = - bZ a b:=by
 rw [wJ,wJ];by_cases h:a.1=b.1
 ·rw [if_pos h,if_pos h.symm];cases a.2 <;> cases b.2 <;> rfl
 ·rw [if_neg h,if_neg (fun e=>h e.symm)];exact xM _ _
theorem zk4 (a:List Int×Bool):bZ a a=0:=by rw [wJ,if_pos rfl,if_pos rfl]
theorem zei {a b:List Int×Bool} (e:bZ a b=0):a=b:=by
 rw [wJ] at e;by_cases h:a.1=b.1
 ·rw [if_pos h] at e;refine Prod.ext h ?_;by_cases g:a.2=b.2
  ·exact g
  ·rw [if_neg g] at e
   revert e;cases a.2 <;> simp
 ·rw [if_neg h] at e;exact absurd e (mD h)
theorem vT {a b c:List Int×Bool} (h1:bZ a b<0) (h2:bZ b c<0):bZ a c<0:=by
 rw [wJ] at h1 h2 ⊢;by_cases e1:a.1=b.1
 ·rw [if_pos e1] at h1;by_cases e2:b.1=c.1
  ·rw [if_pos e2] at h2;rw [if_pos (e1.trans e2)]
   revert h1 h2
   cases a.2 <;> cases b.2 <;> cases c.2 <;> simp
  ·rw [if_neg e2] at h2;rw [if_neg (fun e=>e2 (e1.symm.trans e)),e1];exact h2
 ·rw [if_neg e1] at h1;by_cases e2:b.1=c.1
  ·rw [if_neg (fun e=>e1 (e.trans e2.symm)),<- e2];exact h1
  ·rw [if_neg e2] at h2;have:=uS h1 h2;rw [if_neg (fun e=>by rw [e,qF] at this;omega)];exact this
theorem vU {a b c:List Int×Bool} (h1:0<=bZ a b) (h2:0<=bZ b c):0<=bZ a c:=by
 by_cases e1:bZ a b=0
 ·rw [zei e1];exact h2
 by_cases e2:bZ b c=0
 ·rw [<- zei e2];exact h1
 have n1:=kB a b;have n2:=kB b c;have n3:=kB a c;have:=vT (a:=c) (b:=b) (c:=a) (by omega) (by omega);omega
end Go.Proofs
namespace Go.Ev
open Go Go.Proofs Go.RowKit Go.Sort
theorem HR.below {P:Program} {B:Nat} {E:Env} {h:T Blk} {nx:Pa} {w w':World} (H:HR P B E h nx w) (hb:Below w.heap.size w w'):HR P B E h nx w'/\Ex E E w w':=by
 refine ⟨{
  blk:=fun id hid=>by
   obtain ⟨b,n,o,q1,q2,q3⟩:=H.blk id hid;exact ⟨b,n,o,q1,by rw [hb.block b (H.lt _ _ _ q1).2];exact q2,q3⟩
  inj:=H.inj
  fresh:=H.fresh
  lt:=fun id b n hid=>⟨(H.lt id b n hid).1,Nat.lt_of_lt_of_le (H.lt id b n hid).2 hb.size⟩
  base:=Zbl H.base hb.size
  frz:=fun b i v hf=>by
   obtain ⟨⟨c,ty,fr,q1,q2⟩,q3⟩:=H.frz b i v hf;exact ⟨⟨c,ty,fr,by rw [hb.block b (Array.getElem?_eq_some_iff.1 q1).1];exact q1,q2⟩,q3⟩ },?_⟩
 exact ⟨.refl _,hb.os,hb.tape,hb.output,hb.size,fun b hlt _=>hb.block b hlt,fun id b n hid=>.inr ⟨id,n,hid⟩,fun _ _ v h=>.inr (.inl ⟨v,h⟩),fun b L hL=>⟨L,by rw [hb.block b (Array.getElem?_eq_some_iff.1 hL).1];exact hL,.refl _⟩⟩
def aH (h:T Blk) (id0:Pa) (a:AV) (l:List Int):Prop :=
 a=encI l\/∃ id off o op m t,id≠id0/\a=.sl id off l.length o 1/\T.get .no id h=.cells op m t/\off+l.length<=m/\yJ t off l.length=l.map I
theorem aH.jf {h:T Blk} {id0:Pa} {a:AV} {l:List Int} (R:aH h id0 a l):jf a=true:=by
 rcases R with rfl | ⟨_,_,_,_,_,_,_,rfl,_⟩ <;> rfl
theorem aH.set {h:T Blk} {id0:Pa} {a:AV} {l:List Int} {b:Blk} (R:aH h id0 a l):aH (T.set .no b id0 h) id0 a l:=by
 rcases R with rfl | ⟨id,off,o,op,m,t,h1,h2,h3,h4,h5⟩
 ·exact .inl rfl
 ·exact .inr ⟨id,off,o,op,m,t,h1,h2,by rw [T.zy (h:=h1)];exact h3,h4,h5⟩
theorem aH.cells {P:Program} {B:Nat} {E:Env} {h:T Blk} {nx:Pa} {w:World} {id0:Pa} {a:AV} {l:List Int} {v:Value} (H:HR P B E h nx w) (R:aH h id0 a l) (hv:VR E a v) :
  ∃ p c,v=.slice p l.length c/\(l.length=0\/∃ b o,p=some ⟨b,o,none⟩/\∀ j,j<l.length->w.cell? ⟨b,o+j,none⟩=some (.int .i64 l[j]!)):=by
 rcases R with rfl | ⟨id,off,o,op,m,t,h1,rfl,h3,h4,h5⟩
 ·obtain ⟨_,_,p,c,rfl,hh⟩:=hv.aJ;refine ⟨p,c,rfl,?_⟩;rcases hh with h0 | ⟨b,off,rfl,_,hf⟩
  ·exact .inl h0
  ·refine .inr ⟨b,off,rfl,fun j hj => ?_⟩;obtain ⟨v,hv1,hv2⟩:=VRF.get hf (i:=j) (a:=I l[j]) (by rw [List.getElem?_map,List.getElem?_eq_getElem hj];rfl);simp only [VR] at hv2;subst hv2;obtain ⟨⟨c,ty,fr,q1,q2⟩,_⟩:=H.frz _ _ _ hv1;rw [getElem!_pos l j hj];simp [World.cell?,q1,q2]
 ·obtain ⟨b,n,c,hE,rfl,hcap⟩:=hv.ru;refine ⟨_,c,rfl,.inr ⟨b,off,rfl,fun j hj => ?_⟩⟩;obtain ⟨b',n',ob,q1,q2,q3⟩:=H.blk id (by rw [h3];intro e;cases e);rw [hE] at q1;cases q1;rw [h3] at q3;obtain ⟨cs,ty,fr,rfl,g1,g2,g3,g4,hc⟩:=q3;obtain ⟨_,v',k1,k2⟩:=hc (off+j) (by omega);have he:T.get .undef (.of (off+j)) t=I l[j]:=by
   have e1:=yC t off l.length j (by omega);rw [h5,List.getElem?_map,List.getElem?_eq_getElem hj] at e1;exact (Option.some.inj e1).symm
  rw [he] at k2;simp only [VR] at k2;subst k2;rw [getElem!_pos l j hj];simp [World.cell?,q2,k1]
theorem kZ {β γ:Type} {f:β->γ}:∀ {l:List β},(l.map f).Nodup->∀ {a b:β},a∈l->b∈l->f a=f b->a=b
 | [],_,_,_,h,_,_=>by cases h
 | x::l,hn,a,b,ha,hb,e=>by
  rw [List.map_cons,Zbr] at hn;rcases List.mem_cons.1 ha with ea | ha'
  ·rcases List.mem_cons.1 hb with eb | hb'
   ·exact ea.trans eb.symm
   ·exact (hn.1 (List.mem_map.2 ⟨b,hb',(ea ▸ e).symm⟩)).elim
  ·rcases List.mem_cons.1 hb with eb | hb'
   ·exact (hn.1 (List.mem_map.2 ⟨a,ha',(eb ▸ e)⟩)).elim
   ·exact kZ hn.2 ha' hb' e
theorem HR.zqr {P:Program} {B:Nat} {E:Env} {h:T Blk} {nx:Pa} {w:World} {A:List AV} {F:Array Value} (hA:A.length=F.size) (hva:∀ i,i<F.size->jf (A.getD i .undef)=true/\VR E (A.getD i .undef) F[i]!)
  (H:HR P B E h nx w) {id:Pa} {op:Bool} {m off b n k:Nat} {t:T AV} {os:Array Obj} (hb:T.get .no id h=.cells op m t) (hE:E id=some (b,n)) (hm:off+F.size<=m) :
  HR P B (E) (T.set .no (.cells op m (jI A t off)) id h) nx (grow (putRow (fun v:Value=>v) (Sort.ahead w k) b off F) os)/\Ex E E w (grow (putRow (fun v:Value=>v) (Sort.ahead w k) b off F) os):=by
 have hid:T.get .no id h≠.no:=by rw [hb];intro e;cases e
 obtain ⟨b',n',o,h1,h2,h3⟩:=H.blk id hid;rw [hE] at h1;cases h1;rw [hb] at h3;obtain ⟨c,ty,fr,rfl,q1,q2,q3,q4,q5⟩:=h3;have hcs:(putCells (fun v:Value=>v) off F c).size=c.size:=by simp [putCells]
 have hbr:BR P E n (.cells op m (jI A t off)) (.cells (putCells (fun v:Value=>v) off F c) ty fr):=by
  refine ⟨_,ty,fr,rfl,by rw [hcs];exact q1,by rw [hcs];exact q2,q3,q4,fun i hi => ?_⟩;rw [uE];have hic:i<c.size:=by omega
  have hce:(putCells (fun v:Value=>v) off F c)[i]? = some (if off<=i/\i<off+F.size then F[i-off]! else c[i]):=by
   simp [putCells,Array.getElem?_eq_getElem hic]
  rw [hA];by_cases hr:off<=i/\i<off+F.size
  ·rw [if_pos hr];rw [if_pos hr] at hce;obtain ⟨r1,r2⟩:=hva (i-off) (by omega);exact ⟨r1,_,hce,r2⟩
  ·rw [if_neg hr];rw [if_neg hr] at hce;obtain ⟨r1,v,r2,r3⟩:=q5 i hi;rw [Array.getElem?_eq_getElem hic] at r2;exact ⟨r1,_,hce,by rw [Option.some.inj r2];exact r3⟩
 have H1:=H.put hid hE hbr;have X1:Ex E E w (w.putObj b (.cells (putCells (fun v:Value=>v) off F c) ty fr)):=Ex.put hE h2 fun L hL=>by cases hL
 have hbl:b<w.heap.size:=(Array.getElem?_eq_some_iff.1 h2).1;have hBel:Below (w.putObj b (.cells (putCells (fun v:Value=>v) off F c) ty fr)).heap.size (w.putObj b (.cells (putCells (fun v:Value=>v) off F c) ty fr)) (grow (putRow (fun v:Value=>v) (Sort.ahead w k) b off F) os):=by
  refine ⟨rfl,rfl,rfl,?_,fun j hj => ?_⟩
  ·rw [World.putObj_size];simp [grow,putRow,mapBlock,Sort.ahead]
  ·rw [World.putObj_size] at hj;have e1:(grow (putRow (fun v:Value=>v) (Sort.ahead w k) b off F) os).heap[j]? = (w.heap.modify b (onCells (putCells (fun v:Value=>v) off F)))[j]? := by
    show (w.heap.modify b (onCells (putCells (fun v:Value=>v) off F))++os)[j]? = _;rw [Array.getElem?_append_left (by simpa using hj)]
   rw [e1,Array.getElem?_modify];by_cases e:b=j
   ·subst e;rw [if_pos rfl,h2,gX _ hbl];rfl
   ·rw [if_neg e,yK _ (fun q=>e q.symm)]
 obtain ⟨r1,r2⟩:=H1.below hBel;exact ⟨r1,X1.trans r2⟩
def jJ (ps:List (AV×Sym)):List AV:=ps.flatMap fun p=>[p.1,.bool p.2.2]
theorem wO:∀ (ps:List (AV×Sym)) (i:Nat),(jJ ps)[i]? = (ps[i / 2]?).map fun p=>if i%2=0 then p.1 else .bool p.2.2
 | [],i=>by simp [jJ]
 | p::ps,0=>rfl
 | p::ps,1=>rfl
 | p::ps,i+2=>by
  rw [show (i+2) / 2=i / 2+1 by omega,show (i+2)%2=i%2 by omega,List.getElem?_cons_succ,<- wO ps i]
  rfl
theorem qG:∀ (ps:List (AV×Sym)),(jJ ps).length=ps.length*2
 | []=>rfl
 | p::ps=>by
  show (jJ ps).length+2=_;rw [qG ps,Zcb];omega
theorem zk5 {B:Nat} {h:T Blk} {id:Pa} {op:Bool} {m off n:Nat} {o:Option Nat} {t:T AV} {ps qs:List (AV×Sym)} (hb:T.get .no id h=.cells op m t) (hm:off+n*2<=m) (hn:n<=1000000) (hl:ps.length=n) (hp:yJ t off (n*2)=jJ ps)
  (hr:∀ p∈ps,aH h id p.1 p.2.1/\p.2.1.length<=1000000) (hnd:(ps.map (·.2)).Nodup) (hq:qs.Perm ps) (hqs:qs.Pairwise fun a b=>bZ a.2 b.2<=0) :
  JOk Tryz.prog B (fun f a h'=>open Classical in if f=164/\a=[.sl id off n o 2,.fn 162 (.of 162) []]/\h'=h then some (.tup [],T.set .no (.cells op m (jI (jJ qs) t off)) id h) else none):=by
 intro E h' nx w f args vs v h2 H hv hj
 dsimp only at hj
 by_cases hc:f=164/\args=[AV.sl id off n o 2,.fn 162 (.of 162) []]/\h'=h
 case neg=>rw [if_neg hc] at hj;cases hj
 rw [if_pos hc] at hj;obtain ⟨rfl,rfl,rfl⟩:=hc;simp only [Option.some.injEq,Prod.mk.injEq] at hj;obtain ⟨rfl,rfl⟩:=hj;refine ⟨_,Tryz.func164,by kernel_rfl,by kernel_rfl,fun nn=>callsIn_wide.2 ?_⟩;obtain ⟨l⟩:=vs;simp only [VRL] at hv;obtain ⟨u,_,rfl,hu,u2,_,rfl,hu2,rfl⟩:=hv;simp only [VR,VRL] at hu2;obtain ⟨_,vs2,rfl,hvs2⟩:=hu2;obtain rfl:vs2 = #[]:=by cases vs2;simpa using hvs2
 obtain ⟨b,bn,c,hE,rfl,hcap⟩:=hu.ru;obtain ⟨b',n',ob,h1,h2,h3⟩:=H.blk id (by rw [hb];intro e;cases e);rw [hE] at h1;cases h1;have h3':=h3;rw [hb] at h3;obtain ⟨cs,ty,fr,rfl,g1,g2,g3,g4,hc⟩:=h3
 let α:={x:(AV×Sym)×Value // aH h' id x.1.1 x.1.2.1/\x.1.2.1.length<=1000000/\VR E x.1.1 x.2}
 haveI:Inhabited α:=⟨⟨((encI [],([],false)),.slice none 0 0),.inl rfl,by simp,by simp only [VR];exact ⟨rfl,rfl,none,0,rfl,.inl ⟨rfl,fun _=>rfl⟩⟩⟩⟩
 let enc:α->List Value:=fun x=>[x.1.2,.bool x.1.1.2.2]
 let cf:α->α->Int:=fun x y=>bZ x.1.1.2 y.1.1.2
 have hk:∀ x,(enc x).length=2:=fun _=>rfl;have hone:∀ x,∀ v∈enc x,v.oneCell'=true:=fun x v hv=>by
  obtain ⟨p,c,e,_⟩:=x.2.1.cells H x.2.2.2;simp only [enc,Zah,List.not_mem_nil,or_false] at hv;rcases hv with rfl | rfl
  ·rw [e];rfl
  ·rfl
 have hO:SWO (ltOf cf):={
  irrefl:=fun x=>by show decide (bZ _ _<0)=false;rw [zk4];rfl
  trans:=fun x y z p q=>by
   have p:=of_decide_eq_true p;have q:=of_decide_eq_true q;exact decide_eq_true (vT p q)
  ntrans:=fun x y z p q=>by
   have p:=of_decide_eq_false p;have q:=of_decide_eq_false q;exact decide_eq_false (Int.not_lt.2 (vU (Int.not_lt.1 p) (Int.not_lt.1 q))) }
 have rd:∀ i,i<n*2->∃ p,ps[i / 2]? = some p/\T.get .undef (.of (off+i)) t=(if i%2=0 then p.1 else .bool p.2.2)/\∃ v',cs[off+i]? = some v'/\VR E (if i%2=0 then p.1 else .bool p.2.2) v'/\w.frozen? ⟨b,off+i,none⟩=false:=by
  intro i hi;have hjp:i / 2<ps.length:=by omega
  have e1:=yC t off (n*2) i hi;rw [hp,wO,List.getElem?_eq_getElem hjp] at e1;have he:=(Option.some.inj e1).symm;obtain ⟨_,v',k1,k2⟩:=hc (off+i) (by omega);rw [he] at k2;refine ⟨_,List.getElem?_eq_getElem hjp,he,v',k1,k2,?_⟩;have:=g1 (off+i) (Array.getElem?_eq_some_iff.1 k1).1;simp only [World.frozen?,h2];obtain ⟨lo,hi⟩:=fr;simp only [Bool.and_eq_false_iff,decide_eq_false_iff_not];simp only at this;omega
 have each:∀ j,j<n->∃ x:α,ps[j]? = some x.1.1/\w.cell? ⟨b,off+j*2,none⟩=some x.1.2/\w.cell? ⟨b,off+(j*2+1),none⟩=some (.bool x.1.1.2.2):=by
  intro j hj;obtain ⟨p,a1,a2,v1,a3,a4,a5⟩:=rd (j*2) (by omega);obtain ⟨p',b1,b2,v2,b3,b4,b5⟩:=rd (j*2+1) (by omega);rw [show j*2 / 2=j by omega] at a1;rw [show (j*2+1) / 2=j by omega,a1] at b1;cases b1
  rw [if_pos (by omega)] at a4;rw [if_neg (by omega)] at b4;simp only [VR] at b4;subst b4;obtain ⟨r1,r2⟩:=hr _ (Zaa a1);exact ⟨⟨(p,v1),r1,r2,a4⟩,a1,by simp [World.cell?,h2,a3],by simp [World.cell?,h2,b3]⟩
 obtain ⟨D,hD⟩:=Go.Deep.choose_lt each;have hsz:((List.range n).map D).toArray.size=n:=by simp
 have hget:∀ j,j<n->((List.range n).map D).toArray[j]! = D j:=fun j hj=>by simp [getElem!_pos,hj]
 have hH:HoldsK enc 2 w b off ((List.range n).map D).toArray:=by
  intro i hi;rw [size_flatK,hsz] at hi;rw [get_flatK _ _ _ _ (by rw [hsz];exact hi),hget _ (by omega)];obtain ⟨_,d1,d2⟩:=hD (i / 2) (by omega);obtain ⟨_,_,_,_,_,_,fz⟩:=rd i hi;refine ⟨?_,fz⟩;rcases Nat.mod_two_eq_zero_or_one i with e | e
  ·rw [e];rw [show i / 2*2=i by omega] at d1;exact d1
  ·rw [e];rw [show i / 2*2+1=i by omega] at d2;exact d2
 have hsort:∀ (k:Nat) (os:Array Obj) (dk:Array α),dk.size=n->HR Tryz.prog B E (T.set .no (.cells op m (jI (jJ (dk.toList.map fun x=>x.1.1)) t off)) id h') nx (sortWorldK enc 2 w b off k dk os)/\Ex E E w (sortWorldK enc 2 w b off k dk os):=by
  intro k os dk hs;have hfs:(flatK enc 2 dk).size=n*2:=by rw [size_flatK,hs]
  refine H.zqr (F:=flatK enc 2 dk) (by rw [qG,hfs,Zaq,Array.length_toList,hs]) (fun i hi => ?_) hb hE (by rw [hfs];exact hm);rw [hfs] at hi;have hlt:i / 2<dk.size:=by omega
  rw [get_flatK _ _ _ _ (by rw [hs];exact hi),Zac,wO,List.getElem?_map,Array.getElem?_toList,Array.getElem?_eq_getElem hlt,getElem!_pos dk _ hlt];simp only [Zbu,Option.getD_some];rcases Nat.mod_two_eq_zero_or_one i with e | e
  ·rw [e,if_pos rfl];exact ⟨dk[i / 2].2.1.jf,dk[i / 2].2.2.2⟩
  ·rw [e,if_neg (by decide)];exact ⟨rfl,by show VR E (.bool _) (.bool _);simp only [VR]⟩
 have hcmp:CmpLays Tryz.prog 162 #[] enc 2 cf b off ((List.range n).map D).toArray.size w:=by
  intro k os dk hs x y;rw [hsz] at hs;obtain ⟨H',_⟩:=hsort k os dk hs;obtain ⟨p1,c1,e1,m1⟩:=(x.2.1.set (b:=.cells op m (jI (jJ (dk.toList.map fun x=>x.1.1)) t off))).cells H' x.2.2.2;obtain ⟨p2,c2,e2,m2⟩:=(y.2.1.set (b:=.cells op m (jI (jJ (dk.toList.map fun x=>x.1.1)) t off))).cells H' y.2.2.2;have:=zf9 p1 p2 _ c1 _ c2 x.1.1.2.1 y.1.1.2.1 x.1.1.2.2 y.1.1.2.2 (sortWorldK enc 2 w b off k dk os) rfl rfl x.2.2.1 y.2.2.1 m1 m2;show Go.Calls Tryz.prog 162 #[.agg #[x.1.2,.bool x.1.1.2.2],.agg #[y.1.2,.bool y.1.1.2.2]] _ _;rw [e1,e2];exact this
 have key:=AnyQ.slices_SortFunc Tryz.sortS 2 Tryz.isAgg112 Tryz.sizeOf112 enc hk hone cf hO 162 #[] b off c ((List.range n).map D).toArray w (enters_of Tryz.func162 (by kernel_rfl) rfl) hcmp hH (H.lt _ _ _ hE).2 (by rw [hsz];omega);rw [hsz] at key;refine key.mono ?_;rintro e w' ⟨rfl,d',k,os,hP,hS,rfl⟩;obtain ⟨hd1,_,hperm⟩:=hP;rw [hsz] at hd1;have e1:d'.extract 0 n=d':=by rw [<- hd1];exact Array.extract_size
 have e2:((List.range n).map D).toArray.extract 0 n=((List.range n).map D).toArray:=by
  have := @Array.extract_size _ ((List.range n).map D).toArray
  rwa [hsz] at this
 rw [e1,e2] at hperm;have hps:((List.range n).map D).map (fun x:α=>x.1.1)=ps:=by
  refine Zay fun j => ?_;rw [List.getElem?_map,List.getElem?_map];by_cases hj:j<n
  ·rw [List.getElem?_range hj,(hD j hj).1];rfl
  ·rw [List.getElem?_eq_none (by simp;omega),List.getElem?_eq_none (by omega)];rfl
 have hpm:(d'.toList.map fun x:α=>x.1.1).Perm ps:=by rw [<- hps];exact hperm.map _
 have hqe:(d'.toList.map fun x:α=>x.1.1)=qs:=by
  refine List.Perm.eq_of_pairwise (le:=fun a b=>bZ a.2 b.2<=0) ?_ ?_ hqs (hpm.trans hq.symm)
  ·intro a a' ha ha' p q;have e:a.2=a'.2:=zei (by have:=kB a.2 a'.2;omega);have ma:=hpm.mem_iff.1 ha;have ma':=hq.mem_iff.1 ha';exact kZ hnd ma ma' e
  ·rw [Zbx,Zbi];intro i j hi hj hij;have hi':i<d'.size:=by simpa using hi
   have hj':j<d'.size:=by simpa using hj
   have:=hS i j (Nat.zero_le _) hij (by omega);rw [getElem!_pos d' j hj',getElem!_pos d' i hi'] at this;have:=of_decide_eq_false this;have e:bZ d'[j].1.1.2 d'[i].1.1.2 = - bZ d'[i].1.1.2 d'[j].1.1.2:=kB _ _;have f:¬ bZ d'[j].1.1.2 d'[i].1.1.2<0:=this;simp only [Array.getElem_toList];omega
 obtain ⟨r1,r2⟩:=hsort k os d' hd1;rw [hqe] at r1;exact ⟨_,E,rfl,by simp only [VR,VRL];exact ⟨_,rfl,rfl⟩,r1,r2⟩
end Go.Ev
namespace Go.Ev
def zjl (y:List Nat) (i k:Nat):List Nat:=y.set i ((y.getD i 0+k)%256)
def addL (y:List Nat) (idx:List Nat) (k:Nat):List Nat:=idx.foldl (fun y i=>zjl y i k) y
@[simp] theorem zqs (y:List Nat) (i k:Nat):(zjl y i k).length=y.length:=by simp [zjl]
@[simp] theorem zrv (idx:List Nat) (k:Nat):∀ y:List Nat,(addL y idx k).length=y.length:=by
 induction idx with
 | nil=>intro y;rfl
 | cons i l ih=>intro y;show (addL (zjl y i k) l k).length=_;rw [ih];simp
def blk (x:List Nat) (idx:List Nat) (n:Nat):Nat->List (List Nat)
 | 0=>[]
 | j+1=>List.replicate n (addL x idx j)++blk x idx n j
theorem zk6 {n:Nat} {seen:List Nat} (nd:seen.Nodup) (h1:∀ i∈seen,i<n) (h2:∀ i,i<n->i∈seen):seen.Perm (List.range n):=by
 rw [List.perm_iff_count];intro a;rw [nd.count,List.nodup_range.count];by_cases e:a<n
 ·rw [if_pos (h2 a e),if_pos (by simpa using e)]
 ·rw [if_neg fun q=>e (h1 a q),if_neg (by simpa using e)]
end Go.Ev
namespace Go.Ev
open Go Go.Proofs
variable {B:Nat}
theorem Hp.ztp {h0 h:T Blk} {nx:Pa} {L:List Ob} {j k:Nat} {x y:Ob} {a b:Pa} (H:Hp h0 h nx L) (hk:L[k]? = some x) (hj:L[j]? = some y) (hjk:j≠k) (ha:a∈x.names) (hb:b∈y.names):b≠a:=by
 have hnd:=(H.front hk).nd;rw [Zaz] at hnd;have hy:y∈L.take k++L.drop (k+1):=by
  rcases Nat.lt_or_gt_of_ne hjk with c | c
  ·exact Zbw _ (Zaa (i:=j) (by rw [List.getElem?_take_of_lt c];exact hj))
  ·exact List.mem_append_right _ (Zaa (i:=j-(k+1)) (by rw [List.getElem?_drop,show k+1+(j-(k+1))=j by omega];exact hj))
 rintro rfl;exact (List.nodup_append.1 hnd).2.2 b ha b (List.mem_flatMap.2 ⟨y,hy,hb⟩) rfl
def zab (L:List Ob) (p:AV×Sym):Prop:=p.1=encI p.2.1\/∃ rid,p.1=.sl rid 0 p.2.1.length (some p.2.1.length) 1/\Ob.arr rid (p.2.1.map I)∈L
theorem zab.jf {L:List Ob} {p:AV×Sym} (h:zab L p):jf p.1=true:=by rcases h with e | ⟨_,e,_⟩ <;> rw [e] <;> rfl
theorem zab.mono {L L':List Ob} {p:AV×Sym} (h:zab L p) (hl:∀ x∈L,x∈L'):zab L' p:=h.imp id fun ⟨r,e,m⟩=>⟨r,e,hl _ m⟩
theorem zab.at {h0 h:T Blk} {nx id:Pa} {L:List Ob} {n:Nat} {z:List AV} {p:AV×Sym} (H:Hp h0 h nx (.gro (some id) 2 n z::L)) (hp:zab L p):aH h id p.1 p.2.1:=by
 rcases hp with e | ⟨rid,e,hj⟩
 ·exact .inl e
 ·obtain ⟨op,t,h1,h2⟩:=H.own _ (Zao _ hj);rw [Zaq] at h1 h2;obtain ⟨j,hj⟩:=List.getElem?_of_mem hj;exact .inr ⟨rid,0,some p.2.1.length,op,p.2.1.length,t,H.ztp (k:=0) (j:=j+1) rfl hj (by omega) (by simp [Ob.names]) (by simp [Ob.names]),e,h1,by omega,h2⟩
abbrev agP (p:AV×Sym):AV:=.agg [p.1,.bool p.2.2]
def ak (ps:List (AV×Sym)):List (AV×AV):=ps.map fun p=>(.str (xk p.2),agP p)
theorem dK:∀ (q:List (AV×Sym)) (i:Nat),(jJ q).drop (i*2)=jJ (q.drop i)
 | q,0=>by simp
 | [],i+1=>by simp [jJ]
 | p::q,i+1=>by
  rw [List.drop_succ_cons,<- dK q i,show (i+1)*2=i*2+1+1 by omega]
  rfl
theorem zh5 {q:List (AV×Sym)} {i:Nat} (h:i<q.length):(jJ q).drop (i*2)=q[i].1::.bool q[i].2.2::(jJ q).drop ((i+1)*2):=by
 rw [dK,dK,Zan h];rfl
theorem ztq {h0 h:T Blk} {nx:Pa} {L:List Ob} {k j n:Nat} {o:Option Pa} {u:List (AV×Sym)} {c:AV×Sym} (H:Hp h0 h nx L) (hk:L[k]? = some (.gro o 2 n (jJ u))) (hj:u[j]? = some c):∃ id off,(∀ op:AV->OP,zO 2 (ku o 2 n) (I (j:Int)) op=op (.ptr id off))/\∀ op:AV->OP,zH 2 (.ptr id off) h op=op (agP c):=by
 have own:=H.own _ (Zaa hk);have hjl:=(List.getElem?_eq_some_iff.1 hj).1;have hlen:=qG u;cases o with
 | none =>
  obtain ⟨q,_⟩:=own;rw [q] at hlen;simp at hlen;omega
 | some id =>
  obtain ⟨t,h1,h2,h3⟩:=own;have hn:n=u.length:=by omega
  subst hn;refine ⟨id,j*2,fun op=>by rw [ku,wG hjl,Zaw],fun op => ?_⟩;show jg (T.get .no id h) _ _=_;rw [h1];show (bif Nat.ble (j*2+2) (u.length*2) then op (.agg (yJ t (j*2) 2)) else .no 8)=_;rw [Zab (by omega),cond_true];have e:∀ i,i<u.length*2->T.get .undef (.of i) t=(jJ u).getD i .undef:=fun i hi=>by
   have:=yC t 0 (u.length*2) i hi;rw [h3,Zaw] at this;rw [Zac,this];rfl
  have d:∀ i,(jJ u).getD (j*2+i) .undef=((jJ u).drop (j*2)).getD i .undef:=fun i=>by
   rw [Zac,Zac,List.getElem?_drop]
  have e2:yJ t (j*2) 2=[T.get .undef (.of (j*2)) t,T.get .undef (.of (j*2+1)) t]:=rfl;have d0:=d 0;rw [Nat.add_zero] at d0;obtain rfl:u[j]=c:=by rw [List.getElem?_eq_getElem hjl] at hj;exact Option.some.inj hj
  rw [e2,e _ (by omega),e _ (by omega),d 1,d0,zh5 hjl]
  rfl
theorem zej {h0 h:T Blk} {nx p id:Pa} {L:List Ob} {k n:Nat} {K:Kw Prop} {q s:List (AV×Sym)} (H:Hp h0 h nx L) (hk:L[k]? = some (.gro (some id) 2 n (jJ q))) (hql:q.length=n) (hn:n<=1000000) (hw:∀ a∈q,aH h id a.1 a.2.1/\a.2.1.length<=1000000)
  (hnd:(q.map (·.2)).Nodup) (hq:s.Perm q) (hs:s.Pairwise fun a b=>bZ a.2 b.2<=0) (hK:∀ h',Hp h0 h' nx (L.set k (.gro (some id) 2 n (jJ s)))->K (.tup []) h' nx=.ok True):(CS Tryz.prog B).fn 164 p [ku (some id) 2 n,.fn 162 (.of 162) []] h nx K=.ok True:=by
 obtain ⟨t,h1,h2,h3⟩:=H.own _ (Zaa hk);have hsl:(jJ s).length=n*2:=by rw [qG,hq.length_eq,hql]
 refine ziz (zk5 (ps:=q) (qs:=s) (off:=0) (o:=none) h1 (by omega) hn hql h3 hw hnd hq hs)
  (v:=.tup []) (h2:=T.set .no (.cells true (n*2) (jI (jJ s) t 0)) id h) (if_pos ⟨rfl,rfl,rfl⟩) (hK _ ?_)
 refine H.upd hk (by simp [Ob.names]) rfl ⟨_,T.get_set_same ..,hsl,?_⟩;have:=kJ t [] (jJ s) 0 rfl;rw [Zaw,List.nil_append,hsl] at this;exact this
theorem zjm {h0 h:T Blk} {nx p g:Pa} {L:List Ob} {k:Nat} {K:Kw Prop} {q s:List (AV×Sym)} (H:Hp h0 h nx L) (hg:L[k]? = some (.map g (ak q))) (hq0:0<q.length) (hql:q.length<=2000) (hw:∀ a∈q,zab L a/\a.2.1.length<=1000000)
  (hnd:(q.map (·.2)).Nodup) (hq:s.Perm q) (hs:s.Pairwise fun a b=>bZ a.2 b.2<=0) (hK:∀ o h' nx' A,Hp h0 h' nx' (.gro o 2 s.length (jJ s)::(A++L))->K (ku o 2 s.length) h' nx'=.ok True):(CS Tryz.prog B).fn 99 p [.map g] h nx K=.ok True:=by
 refine jH (p:=.of 99) (K:=K) (zS zW yt 10000000 fun hf => ?_) fun _ _ _ _ q=>q;rw [F99.go];refine H.range (k:=k) hg fun it h1 nx1 H1 => ?_;have hel:(ak q).length=q.length:=by simp [ak]
 refine F99.L1 (fun m' x2 h' nx'=>∃ (seen:List Nat) (o:Option Pa),x2=ku o 2 seen.length/\(gT q.length seen).length=m'/\seen.length+m'=q.length/\seen.Nodup/\(∀ i∈seen,i<q.length) /\
  Hp h0 h' nx' (.gro o 2 seen.length (jJ (seen.reverse.map fun i=>q.getD i (.undef,([],false))))::.iter it g (ak q).length seen (ak q).length::L)) (m:=q.length) (by omega)
  ⟨[],none,rfl,by (have e:gT q.length []=List.range q.length:=List.filter_eq_self.2 (by simp));rw [e];simp,by simp,by simp,by simp,H1.aG 2⟩ ?_
 rintro m' z2 z3 z7 h2 nx2 R ⟨seen,o,rfl,rfl,hsl,hns,hse,H2⟩ hR;refine H2.next (k:=1) (j:=k+2) rfl (by simpa using hg) (fun hall => ?_) fun i a b h3 hi hnin hab H3 => ?_
 ·simp only [yM,zC];have hsp:=zk6 hns hse fun i hi=>hall i (by rw [hel];exact hi);have hup:(seen.reverse.map fun i=>q.getD i (.undef,([],false))).Perm q:=by
   have e:=zkc q (.undef,([],false))
   conv=>rhs;rw [e]
   exact ((List.reverse_perm seen).trans hsp).map _
  have hul:=hup.length_eq;rw [Zaq,List.length_reverse] at hul;rw [hul] at H2 ⊢;rw [F99.k6];cases o with
  | none =>
   obtain ⟨e,_⟩:=H2.own _ (Zaj ..);omega
  | some id =>
   refine zej (k:=0) (s:=s) H2 rfl (by rw [hup.length_eq]) (by omega) (fun a ha=>⟨((hw a (hup.mem_iff.1 ha)).1.mono fun x hx=>Zao _ hx).at H2,(hw a (hup.mem_iff.1 ha)).2⟩) ((hup.map _).nodup_iff.2 hnd) (hq.trans hup.symm) hs fun h4 H4 => ?_;rw [H4.o8 (k:=0) rfl,<- hq.length_eq];rw [<- hq.length_eq] at H4
   refine F99.L7 (fun m x4 x10 h' nx'=>∃ (i:Nat) (o':Option Pa),x10=I i/\x4=ku o' 2 i/\m=s.length-i/\i<=s.length/\Hp h0 h' nx' (.gro o' 2 i (jJ (s.take i))::.gro (some id) 2 s.length (jJ s)::.iter it g (ak q).length seen (ak q).length::L)) (m:=s.length) (by rw [hq.length_eq];omega)
    ⟨0,none,rfl,rfl,by omega,by omega,H4.aG 2⟩ ?_
   rintro m z4 z5 z10 z11 h5 nx5 R' ⟨i,o',rfl,rfl,rfl,hi,H5⟩ hR';by_cases hlt:i<s.length
   case neg =>
    have ei:i=s.length:=by omega
    subst ei;simp only [je,show ¬ (s.length:Int)<(s.length:Int) by omega,decide_false,zC];rw [F99.k14];rw [Zal (Zak _)] at H5;exact hK _ _ _ [.gro (some id) 2 s.length (jJ s),.iter it g (ak q).length seen (ak q).length] H5
   simp only [je,show (i:Int)<(s.length:Int) by omega,decide_true,zD];have hx:s[i]? = some s[i]:=List.getElem?_eq_getElem hlt;obtain ⟨iu,ou,e1,e2⟩:=ztq (k:=1) H5 rfl hx;rw [e1,e2];refine H5.alloc fun b5 h6 nx6 H6 => ?_;refine H6.qm (k:=0) (n:=2) rfl rfl rfl fun h7 H7 => ?_;rw [H7.zi (k:=0) (n:=2) rfl rfl];refine H7.yc (l:=[s[i].1,.bool s[i].2.2]) rfl fun tb h8 nx8 H8 => ?_;rw [sZ];refine H8.appN (k:=2) (o:=o') (c:=1) (esz:=2) (new:=[s[i].1,.bool s[i].2.2]) rfl (jc.rd (l:=[s[i].1,.bool s[i].2.2]) (n:=1) (e:=2) (H8.own _ (Zaj ..)) rfl) rfl (by rw [List.all_cons,(hw _ (hq.mem_iff.1 (Zai hlt))).1.jf];rfl) (by decide) (by decide) (by rw [hq.length_eq] at hlt;omega) fun o'' h9 nx9 _ H9 => ?_;rw [jr (by rw [hq.length_eq] at hlt;omega)];refine hR' (s.length-(i+1)) _ _ _ _ _ _ (by omega) ⟨i+1,o'',by rfl,rfl,rfl,by omega,?_⟩;have ef:jJ (s.take i)++[s[i].1,.bool s[i].2.2]=jJ (s.take (i+1)):=by rw [Zam,hx];unfold jJ;rw [Zbt];rfl
   rw [ef] at H9;exact H9.drop.drop
 ·have hi':i<q.length:=by rw [<- hel];exact hi
  have hx:q[i]? = some q[i]:=List.getElem?_eq_getElem hi';have hent:(ak q)[i]? = some (.str (xk q[i].2),agP q[i]):=by rw [ak,List.getElem?_map,hx];rfl
  rw [hent] at hab;cases hab
  simp only [yM,zD];rw [H3.entry (k:=1) (j:=k+2) rfl (by simpa using hg) hent];simp only [yO];refine H3.alloc fun b5 h6 nx6 H6 => ?_;refine H6.qm (k:=0) (n:=2) rfl rfl rfl fun h7 H7 => ?_;rw [H7.zi (k:=0) (n:=2) rfl rfl];refine H7.yc (l:=[q[i].1,.bool q[i].2.2]) rfl fun tb h8 nx8 H8 => ?_;rw [sZ];refine H8.appN (k:=2) (o:=o) (c:=1) (esz:=2) (new:=[q[i].1,.bool q[i].2.2]) rfl (jc.rd (l:=[q[i].1,.bool q[i].2.2]) (n:=1) (e:=2) (H8.own _ (Zaj ..)) rfl) rfl (by rw [List.all_cons,(hw _ (Zai hi')).1.jf];rfl) (by decide) (by decide) (by omega) fun o'' h9 nx9 _ H9 => ?_;have hst:=zbi hi' hnin;refine hR (gT q.length (i::seen)).length _ _ _ _ _ (by omega) ⟨i::seen,o'',rfl,rfl,by simp;omega,List.nodup_cons.2 ⟨hnin,hns⟩,fun j hj => ?_,?_⟩
  ·rcases List.mem_cons.1 hj with rfl | r
   ·exact hi'
   ·exact hse j r
  ·have ef:jJ (seen.reverse.map fun i=>q.getD i (.undef,([],false)))++[q[i].1,.bool q[i].2.2]=jJ ((i::seen).reverse.map fun i=>q.getD i (.undef,([],false))):=by
    rw [List.reverse_cons,Zbz];simp [jJ,hx]
   rw [ef] at H9;exact H9.drop.drop
end Go.Ev
namespace Go.Ev
open Go Go.Proofs
theorem zqu {P:Program} {B:Nat} {f:Nat} {args:List AV} {h h0:T Blk} {nx:Pa} {r:AV} (hk0:uN h0 h) (hc:∀ K:Kw Prop,(∀ v h' nx',Fr h' nx'->uN h0 h'->sU h0 h' v r->K v h' nx'=.ok True)->(CS P B).fn f (.of f) args h nx K=.ok True)
  {E:Env} {w:World} {vs:Array Value} (H:HR P B E h nx w) (hv:VRL E args vs.toList) :
  ∃ fn:Func,P.funcs[f]? = some fn/\fn.body.isNone=false/\(fn.name == "runtime.NumGoroutine")=false/\∀ n,CallsIn Fence.wide n P f vs w fun e w'=>∃ u E',e=.returned u/\VR E' r u/\HR P B E' h0 nx w'/\Ex E E' w w':=by
 have hk:=hc (fun v h' nx'=>open Classical in if uN h0 h'/\sU h0 h' v r then .ok True else .no 0) (fun v h' nx' _ h1 h2=>if_pos ⟨h1,h2⟩);rw [rG] at hk;obtain ⟨fn,h1,h2,h3,h4⟩:=hk.1 E w vs H hv;refine ⟨fn,h1,h2,h3,fun n=>(h4 n).mono fun e w' he => ?_⟩
 cases e <;> first
  | exact he.elim
  |(obtain ⟨av,h',nx',E',k1,k2,k3,k4⟩:=he
    have k1':(open Classical in if uN h0 h'/\sU h0 h' av r then (Out.ok True:Out Prop) else .no 0)=.ok True:=k1;split at k1'
    ·rename_i hh;obtain ⟨hkp,hF⟩:=hh;have H0:=H.zfc hk0;obtain ⟨r1,r2,_⟩:=vR H0 k3 k4 hkp;exact ⟨_,_,rfl,zd5 H0 k3 k4 hkp hF k2,r1,r2⟩
    ·cases k1')
end Go.Ev
namespace Go.Ev
open Go Go.Proofs
variable {B:Nat}
theorem zqv {h0 h:T Blk} {nx:Pa} {L:List Ob} {o:Option Pa} {n k e:Nat} {l l':List AV} (H:Hp h0 h nx L) (hk:L[k]? = some (.gro o e n l)) (hl:l'.length=l.length) (hs:l'.all jf=true) (hf:∀ (i:Nat) (v v':AV),l[i]? = some v->l'[i]? = some v'->sU h0 h v v'):sU h0 h (ku o e n) (.lst e n l'):=by
 have own:=H.own _ (Zaa hk);have hoff:=H.off;cases o with
 | none =>
  obtain ⟨rfl,rfl⟩:=own;obtain rfl:l'=[]:=by simpa using hl
  exact .zbd e
 | some id =>
  obtain ⟨t,h1,h2,h3⟩:=own;refine .sl _ _ _ _ _ true _ t _ (hoff id (List.mem_flatMap.2 ⟨_,Zaa hk,by simp [Ob.names]⟩)) trivial h1 (by omega) (by rw [hl];exact h2) hs fun i v hi => ?_;have hil:i<l.length:=by rw [<- hl];exact (List.getElem?_eq_some_iff.1 hi).1
  have:=yC t 0 (n*e) i (by rw [<- h2];exact hil);rw [h3,List.getElem?_eq_getElem hil] at this;rw [<- Option.some.inj this];exact hf i _ _ (List.getElem?_eq_getElem hil) hi
noncomputable def zb2 (ns:List Pa) (h:T Blk):T Blk:=ns.foldl (fun h n=>T.set .no .no n h) h
theorem zb3:∀ (ns:List Pa) (h:T Blk) (j:Pa),(j∈ns\/T.get .no j h=.no)->T.get .no j (zb2 ns h)=.no
  | [],h,j,q=>by rcases q with q | q;· simp at q
                 · exact q
  | n::ns,h,j,q=>by
    show T.get .no j (zb2 ns (T.set .no .no n h))=_;refine zb3 ns _ j ?_;by_cases e:j=n
    · subst e;exact .inr (T.get_set_same _ _ _ _)
    · rcases q with q | q
      · rcases List.mem_cons.1 q with q | q
        · exact absurd q e
        · exact .inl q
      · exact .inr (by rw [T.zy _ _ _ _ _ e];exact q)
theorem zc5:∀ (ns:List Pa) (h:T Blk) (j:Pa),j∉ns->T.get .no j (zb2 ns h)=T.get .no j h
 | [],_,_,_=>rfl
 | n::ns,h,j,q=>by
  show T.get .no j (zb2 ns (T.set .no .no n h))=_;rw [zc5 ns _ j fun r=>q (Zao _ r),T.zy _ _ _ _ _ fun e=>q (by rw [e];exact Zaj ..)]
end Go.Ev
