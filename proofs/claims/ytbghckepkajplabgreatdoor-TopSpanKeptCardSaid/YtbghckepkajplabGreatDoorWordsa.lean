import Derived.Test.YtbghckepkajplabGreatDoorCodea
import Derived.Test.YtbghckepkajplabGreatDoorEvD
import GoSem.Core.Next
import Derived.Lib.Small
import Derived.Lib.Walk
import Derived.Deep.Draws
import Derived.Lib.Agree
import Derived.Shelf.SlLaysF
import Derived.Shelf.RegionOpenPlain
import Derived.WalkKit
import Derived.Deep.LoopGhost
import Derived.Test.YtbghckepkajplabGreatDoorProg
import Derived.Test.YtbghckepkajplabGreatDoorEvC
import Derived.Test.YtbghckepkajplabGreatDoorLaws
import Derived.Sort.Grow
import Derived.Sort.Row
import Derived.KernelRfl
import Derived.Shelf.SlSortCmp.Whole1
import Derived.Deep.Slices
import Derived.Shelf.SlSortCmp.InsertionK
import Derived.Shelf.SlSortCmp.WholeK
import Derived.Test.YtbghckepkajplabGreatDoorIrT
set_option linter.unusedSimpArgs false
set_option linter.unusedVariables false
noncomputable section
namespace Go.Ev
open Go Go.Proofs
theorem wm {B:Nat}:cE Tryz.prog B Prop:=zbi mixed
variable {B:Nat}
theorem zkk {a b:List Int} (ha:a.length<=1000000000):Pure Tryz.prog B 25 [encI a,encI b] (· = .bool (decide (a=b))):=by
 intro p h y K hK;refine zL zR wm (a.length+2) λhf => ?_;rw [F25.go];simp (disch:=omega) only [jg,xg,nk,qf,qj,yu,rq,kg,bq,zT,zW,zD,zC,yN,yJ,yU,yY,jB,yZ,jC,jW,jP,jK,jO,zS,yL,yH,zF,decide_true,decide_false,Zah,Zal,jL];by_cases hl:a.length=b.length
 .simp only [hl,decide_true,Zah,zC];refine F25.L2 (λm z3 h' y'=>∃ i:Nat,z3=I i/\m=a.length-i/\i<=a.length/\h'=h/\y'=y/\a.take i=b.take i) (m:=a.length) (by omega) ⟨0,rfl,by simp,by omega,rfl,rfl,by simp⟩ ?_;rintro m z2 z3 z5 z6 _ _ R ⟨i,rfl,rfl,hi,rfl,rfl,htk⟩ hR;simp (disch:=omega) only [jg,xg,nk,qf,qj,yu,rq,kg,bq,zT,zW,zD,zC,yN,yJ,yU,yY,jB,yZ,jC,jW,jP,jK,jO,zS,yL,yH,zF,decide_true,decide_false,Zah,Zal,jL];by_cases hlt:i<a.length
  .have h1:(i:Int)<a.length:=by omega
   have hb:i<b.length:=by omega
   simp only [h1,decide_true,zD];rw [xu rfl hlt,ldL (rH (Zgu hlt)),xu rfl hb,ldL (rH (Zgu hb))];simp (disch:=omega) only [jg,xg,nk,qf,qj,yu,rq,kg,bq,zT,zW,zD,zC,yN,yJ,yU,yY,jB,yZ,jC,jW,jP,jK,jO,zS,yL,yH,zF,decide_true,decide_false,Zah,Zal,jL];by_cases he:a[i]=b[i]
   .simp only [he,decide_true,Zah,zC];refine hR (a.length-(i+1)) _ _ _ _ _ _ (by omega) ⟨i+1,rfl,rfl,by omega,rfl,rfl,?_⟩;rw [Zar,Zar,htk,Zgu hlt,Zgu hb,he]
   .simp only [he,decide_false,Zal,zD];refine hK _ ?_ hf;rw [Zab];rintro rfl;exact he rfl
  .have h1:¬ (i:Int)<a.length:=by omega
   simp only [h1,decide_false,zC];rw [F25.k9];refine hK _ ?_ hf;rw [Zan (by omega),Zan (by omega)] at htk;rw [Zac htk]
 .have h1:¬ (a.length:Int)=b.length:=by omega
  simp only [h1,decide_false,Zal,zD];refine hK _ ?_ hf;rw [Zab];rintro rfl;exact hl rfl
end Go.Ev
namespace Go.Ev
open Go Go.Proofs
variable {B:Nat}
theorem pI (b:Bool) (e:Int):Pure Tryz.prog B 52 [.bool b,I e] (· = I (if b then e else 0)):=by
 intro p h y K hK;refine zL zR wm 9 λhf => ?_;rw [F52.go];cases b <;> simp (disch:=omega) only [jg,xg,nk,qf,qj,yu,rq,kg,bq,zT,zW,zD,zC,yN,yJ,yU,yY,jB,yZ,jC,jW,jP,jK,jO,zS,yL,yH,zF,decide_true,decide_false,Zah,Zal,jL] <;> exact hK _ rfl hf
def uT:List Int->Int
 | []=>0
 | e::l=>if e≠0 then e else uT l
theorem qK:∀ (l:List Int) (i:Nat),(∀ e∈l.take i,e=0)->uT l=uT (l.drop i)
 | l,0,_=>rfl
 | [],_+1,_=>rfl
 | e::l,i+1,h=>by
  have h0:e=0:=h e (by simp);rw [uT,if_neg (by simp [h0]),List.drop_succ_cons];exact qK l i λx hx=>h x (by simp [hx])
theorem zbx {l:List Int} (hl:l.length<=1000000):Pure Tryz.prog B 51 [encI l] (· = I (uT l)):=by
 intro p h y K hK;refine zL zR wm 10000000 λhf => ?_;rw [F51.go];simp (disch:=omega) only [jg,xg,nk,qf,qj,yu,rq,kg,bq,zT,zW,zD,zC,yN,yJ,yU,yY,jB,yZ,jC,jW,jP,jK,jO,zS,yL,yH,zF,decide_true,decide_false,Zah,Zal,jL];refine F51.L1 (λm z5 h' y'=>∃ i:Nat,z5=I i/\l.length-i=m/\i<=l.length/\h'=h/\y'=y/\∀ e∈l.take i,e=0) (m:=l.length) (by omega) ⟨0,rfl,rfl,by omega,rfl,rfl,by simp⟩ ?_;rintro m z1 z2 z5 z6 z7 _ _ R ⟨i,rfl,rfl,hi,rfl,rfl,htk⟩ hR;simp (disch:=omega) only [jg,xg,nk,qf,qj,yu,rq,kg,bq,zT,zW,zD,zC,yN,yJ,yU,yY,jB,yZ,jC,jW,jP,jK,jO,zS,yL,yH,zF,decide_true,decide_false,Zah,Zal,jL];by_cases hlt:i<l.length
 .simp only [show (i:Int)<(l.length:Int) by omega,decide_true,zD];have hx:l[i]? = some l[i]:=Zgu hlt;rw [xu rfl hlt,ldL (rH hx)];simp (disch:=omega) only [jg,xg,nk,qf,qj,yu,rq,kg,bq,zT,zW,zD,zC,yN,yJ,yU,yY,jB,yZ,jC,jW,jP,jK,jO,zS,yL,yH,zF,decide_true,decide_false,Zah,Zal,jL];have hd:l.drop i=l[i]::l.drop (i+1):=Zav hlt;by_cases h0:l[i]=0
  .simp only [h0,decide_true,Zah,zC];refine hR _ _ _ _ _ _ _ _ (by omega) ⟨i+1,rfl,rfl,by omega,rfl,rfl,λe he => ?_⟩;rw [Zar,hx] at he;rcases Zbb.1 he with q | q
   .exact htk e q
   .simp at q;rw [q];exact h0
  .simp only [h0,decide_false,Zal,zD];refine hK _ ?_ hf;rw [qK l i htk,hd,uT,if_pos h0]
 .simp only [show ¬ (i:Int)<(l.length:Int) by omega,decide_false,zC];rw [F51.k8];refine hK _ ?_ hf;rw [qK l i htk,Zbg (by omega)];rfl
theorem zrr {a b:List Int} (ha:a.length<=1000000000):Pure Tryz.prog B 120 [encI a,encI b] (· = .bool (decide (a=b))):=by
 intro p h y K hK;refine zL zR wm (a.length+2) λhf => ?_;rw [pz.go];simp (disch:=omega) only [jg,xg,nk,qf,qj,yu,rq,kg,bq,zT,zW,zD,zC,yN,yJ,yU,yY,jB,yZ,jC,jW,jP,jK,jO,zS,yL,yH,zF,decide_true,decide_false,Zah,Zal,jL];by_cases hl:a.length=b.length
 .simp only [hl,decide_true,Zah,zC];refine pz.L2 (λm z6 h' y'=>∃ i:Nat,z6=I i/\a.length-i=m/\i<=a.length/\h'=h/\y'=y/\a.take i=b.take i) (m:=a.length) (by omega) ⟨0,rfl,by simp,by omega,rfl,rfl,by simp⟩ ?_;rintro m z2 z3 z6 z7 z8 _ _ R ⟨i,rfl,rfl,hi,rfl,rfl,htk⟩ hR;simp (disch:=omega) only [jg,xg,nk,qf,qj,yu,rq,kg,bq,zT,zW,zD,zC,yN,yJ,yU,yY,jB,yZ,jC,jW,jP,jK,jO,zS,yL,yH,zF,decide_true,decide_false,Zah,Zal,jL];by_cases hlt:i<a.length
  .have hb:i<b.length:=by omega
   simp only [show (i:Int)<(b.length:Int) by omega,decide_true,zD];rw [xu rfl hlt,ldL (rH (Zgu hlt)),xu rfl hb,ldL (rH (Zgu hb))];simp (disch:=omega) only [jg,xg,nk,qf,qj,yu,rq,kg,bq,zT,zW,zD,zC,yN,yJ,yU,yY,jB,yZ,jC,jW,jP,jK,jO,zS,yL,yH,zF,decide_true,decide_false,Zah,Zal,jL];by_cases he:a[i]=b[i]
   .simp only [he,decide_true,Zah,zC];refine hR (a.length-(i+1)) _ _ _ _ _ _ _ (by omega) ⟨i+1,rfl,rfl,by omega,rfl,rfl,?_⟩;rw [Zar,Zar,htk,Zgu hlt,Zgu hb,he]
   .simp only [he,decide_false,Zal,zD];refine hK _ ?_ hf;rw [Zab];rintro rfl;exact he rfl
  .simp only [show ¬ (i:Int)<(b.length:Int) by omega,decide_false,zC];rw [pz.k9];refine hK _ ?_ hf;rw [Zan (by omega),Zan (by omega)] at htk;rw [Zac htk]
 .have h1:¬ (a.length:Int)=b.length:=by omega
  simp only [h1,decide_false,Zal,zD];refine hK _ ?_ hf;rw [Zab];rintro rfl;exact hl rfl
theorem zhq {h0 h:T Blk} {y:Pa} {L:List Ob} {k:Nat} {x p:Pa} {l:List Int} {prev:List (List Int)} {K:Kw Prop} (H:Hp h0 h y L) (hk:L[k]? = some (.arr x [encI l])) (hp:prev.length<=1000000) (hw:∀ q∈prev,q.length<=1000000)
  (hK:K (.bool (decide (l∈prev))) h y=.ok True):(CS Tryz.prog B).fn 118 p [uz prev,.fn 119 (.of 119) [.ptr x 0]] h y K=.ok True:=by
 refine j7 (p:=.of 118) (K:=K) (zL zR wm 9 λhf => ?_) λ_ _ _ _ q=>q;rw [aU.go];refine j7 (p:=.of 173) (K:=λv1 h2 n3=>za .geq .int v1 (I 0) λv4=>K v4 h2 n3) (zL zR wm 10000000 λhf => ?_) λ_ _ _ _ q=>q;rw [pu.go];simp (disch:=omega) only [jg,xg,nk,qf,qj,yu,rq,kg,bq,zT,zW,zD,zC,yN,yJ,yU,yY,jB,yZ,jC,jW,jP,jK,jO,zS,yL,yH,zF,decide_true,decide_false,Zah,Zal,jL];refine pu.L1 (λm z5 h' y'=>∃ i:Nat,z5=I i/\prev.length-i=m/\i<=prev.length/\h'=h/\y'=y/\l∉prev.take i) (m:=prev.length) (by omega) ⟨0,rfl,rfl,by omega,rfl,rfl,by simp⟩ ?_;rintro m z2 z3 z5 z6 z7 _ _ R ⟨i,rfl,rfl,hi,rfl,rfl,htk⟩ hR;simp (disch:=omega) only [jg,xg,nk,qf,qj,yu,rq,kg,bq,zT,zW,zD,zC,yN,yJ,yU,yY,jB,yZ,jC,jW,jP,jK,jO,zS,yL,yH,zF,decide_true,decide_false,Zah,Zal,jL];by_cases hlt:i<prev.length
 .simp only [show (i:Int)<(prev.length:Int) by omega,decide_true,zD];have hx:prev[i]? = some prev[i]:=Zgu hlt;rw [xu rfl hlt,ldL (getT hx),m5];refine j7 (p:=.of 119) (zL zR wm 9 λhf => ?_) λ_ _ _ _ q=>q;show zO tbl 9 _ (Pa.of 119) [encI prev[i],.ptr x 0] _ _ _=_;rw [aT.go,H.load (k:=k) (i:=0) hk rfl];refine zrr (Zbe (hw _ (Zas hlt)) (by omega)) _ _ _ _ ?_;rintro _ rfl _;by_cases he:prev[i]=l
  .simp only [he,decide_true,zD,bq,show (0:Int)<=(i:Int) by omega];rw [Zac (he ▸ Zas hlt)] at hK;exact hK
  .simp only [he,decide_false,zC];refine hR _ _ _ _ _ _ _ _ (by omega) ⟨i+1,rfl,rfl,by omega,rfl,rfl,λq => ?_⟩;rw [Zar,hx] at q;rcases Zbb.1 q with q | q
   .exact htk q
   .simp at q;exact he q.symm
 .simp only [show ¬ (i:Int)<(prev.length:Int) by omega,decide_false,zC];rw [pu.k8];rw [Zan (by omega)] at htk;rw [Zab htk] at hK;simp only [bq,show ¬ (0:Int) <= -1 by omega,decide_false];exact hK
def yQ (cells:Int):Option Int->List Int->Int
 | _,[]=>0
 | p,c::l=>if c<0\/cells<=c then 10 else if p.any (λq=>decide (c<=q)) then 11 else yQ cells (some c) l
def jM (cells:Int) (prev:List (List Int)) (l:List Int):Int:=if l=[] then 12 else if yQ cells none l≠0 then yQ cells none l else if l∈prev then 9 else 0
def gI (cells:Int):List (List Int)->List (List Int)->Int
 | _,[]=>0
 | prev,l::r=>if jM cells prev l≠0 then jM cells prev l else gI cells (prev++[l]) r
def yS (cells:Int) (lines:List (List Int)):Int:=if cells<1\/256<cells then 3 else if 128<lines.length then 5 else gI cells [] lines
def pv (l:List Int) (k:Nat):Option Int:=if k=0 then none else l[k-1]?
theorem bB {l:List Int} {k:Nat} (h:k<l.length):pv l (k+1)=some l[k]:=by simp [pv,h]
theorem zu7 {cells a b:Int} {lines:List (List Int)} (hb:b<=1000000):Pure Tryz.prog B 15 [.agg [I cells,uz lines],I a,I b] (· = .bool (decide ((lines.length:Int)<=b/\∀ l∈lines,(l.length:Int)<=a))):=by
 refine zV λh y K H0 hK=>zL zR wm 10000000 λhf => ?_;rw [F15.go];refine H0.box (l:=[I cells,uz lines]) rfl λbx h1 y1 H1 => ?_;rw [sFx,H1.load (k:=0) (i:=0+1) rfl rfl];simp (disch:=omega) only [jg,xg,nk,qf,qj,yu,rq,kg,bq,zT,zW,zD,zC,yN,yJ,yU,yY,jB,yZ,jC,jW,jP,jK,jO,zS,yL,yH,zF,decide_true,decide_false,Zah,Zal,jL];have ret:∀ v:Bool,v=decide ((lines.length:Int)<=b/\∀ l∈lines,(l.length:Int)<=a)->K (.bool v) h1 y1=.ok True:=λv hv=>by rw [hv];exact hK _ _ _ _ _ H1 (zK rfl) rfl
 by_cases hlen:b<(lines.length:Int)
 .simp only [hlen,decide_true,zD];refine ret _ ?_;rw [Zab];rintro ⟨q,_⟩;omega
 simp only [hlen,decide_false,zC];refine F15.L2 (λm z5 h' y'=>∃ i:Nat,z5=I i/\lines.length-i=m/\i<=lines.length/\h'=h1/\y'=y1/\∀ l∈lines.take i,(l.length:Int)<=a) (m:=lines.length) (by omega) ⟨0,rfl,rfl,by omega,rfl,rfl,by simp⟩ ?_;rintro m z4 z5 z7 z8 _ _ R ⟨i,rfl,rfl,hi,rfl,rfl,htk⟩ hR;rw [sFx,H1.load (k:=0) (i:=0+1) rfl rfl];simp (disch:=omega) only [jg,xg,nk,qf,qj,yu,rq,kg,bq,zT,zW,zD,zC,yN,yJ,yU,yY,jB,yZ,jC,jW,jP,jK,jO,zS,yL,yH,zF,decide_true,decide_false,Zah,Zal,jL];by_cases hlt:i<lines.length
 .simp only [show (i:Int)<(lines.length:Int) by omega,decide_true,zD];have hx:lines[i]? = some lines[i]:=Zgu hlt;rw [sFx,H1.load (k:=0) (i:=0+1) rfl rfl,xu rfl hlt,ldL (getT hx)];simp (disch:=omega) only [jg,xg,nk,qf,qj,yu,rq,kg,bq,zT,zW,zD,zC,yN,yJ,yU,yY,jB,yZ,jC,jW,jP,jK,jO,zS,yL,yH,zF,decide_true,decide_false,Zah,Zal,jL];by_cases hw:a<(lines[i].length:Int)
  .simp only [hw,decide_true,zD];refine ret _ ?_;rw [Zab];rintro ⟨_,q⟩;have:=q _ (Zas hlt);omega
  .simp only [hw,decide_false,zC];refine hR _ _ _ _ _ _ _ (by omega) ⟨i+1,rfl,rfl,by omega,rfl,rfl,λl hl => ?_⟩;rw [Zar,hx] at hl;rcases Zbb.1 hl with q | q
   .exact htk l q
   .simp at q;rw [q];omega
 .simp only [show ¬ (i:Int)<(lines.length:Int) by omega,decide_false,zC];rw [F15.k9];rw [Zan (by omega)] at htk;refine ret _ ?_;rw [Zac ⟨by omega,htk⟩]
theorem znr {prev:List (List Int)} {l:List Int} (hp:prev.length<=1000000) (hw:∀ q∈prev,q.length<=1000000000):Pure Tryz.prog B 42 [uz prev,encI l] (· = .bool (decide (l∈prev))):=by
 intro p h y K hK;refine zL zR wm 10000000 λhf => ?_;rw [F42.go];refine F42.L1 (λm z3 h' y'=>∃ i:Nat,z3=I i/\prev.length-i=m/\i<=prev.length/\h'=h/\y'=y/\l∉prev.take i) (m:=prev.length) (by omega) ⟨0,rfl,rfl,by omega,rfl,rfl,by simp⟩ ?_;rintro m z2 z3 z4 z5 _ _ R ⟨i,rfl,rfl,hi,rfl,rfl,htk⟩ hR;simp (disch:=omega) only [jg,xg,nk,qf,qj,yu,rq,kg,bq,zT,zW,zD,zC,yN,yJ,yU,yY,jB,yZ,jC,jW,jP,jK,jO,zS,yL,yH,zF,decide_true,decide_false,Zah,Zal,jL];by_cases hlt:i<prev.length
 .simp only [show (i:Int)<(prev.length:Int) by omega,decide_true,zD];have hx:prev[i]? = some prev[i]:=Zgu hlt;rw [xu rfl hlt,ldL (getT hx)];refine zkk (hw _ (Zas hlt)) _ _ _ _ ?_;rintro _ rfl _;by_cases he:prev[i]=l
  .simp only [he,decide_true,zD];refine hK _ ?_ hf;rw [Zac (he ▸ Zas hlt)]
  .simp only [he,decide_false,zC];refine hR _ _ _ _ _ _ _ (by omega) ⟨i+1,rfl,rfl,by omega,rfl,rfl,λq => ?_⟩;rw [Zar,hx] at q;rcases Zbb.1 q with q | q
   .exact htk q
   .simp at q;exact he q.symm
 .simp only [show ¬ (i:Int)<(prev.length:Int) by omega,decide_false,zC];rw [F42.k8];rw [Zan (by omega)] at htk;refine hK _ ?_ hf;rw [Zab htk]
theorem zlu {n i:Nat} {l:List AV} {op:AV->OP} (hn:1<=n) (hi:i<=n):xI 1 (.lst 1 n l) none (some (I (i:Int))) none op=op (.lst 1 i (l.take i)):=by
 show (bif Nat.beq 1 1&&Nat.ble 1 n then (match bnd (some (I (i:Int))) n n with | none=>Out.no 17 | some h=>match bnd none h 0 with | none=>.no 17 | some q=>op (.lst 1 (h-q) ((l.drop (q*1)).take ((h-q)*1)))) else .no 17)=_;rw [Zak hn];have:bnd (some (I (i:Int))) n n=some i:=by
  show (bif Nat.ble i n then some i else none)=_;rw [Zak hi];rfl
 rw [this];show op (.lst 1 (i-0) ((l.drop (0*1)).take ((i-0)*1)))=_;simp
theorem zrs {cells:Int} {lines:List (List Int)} (hw:∀ q∈lines,q.length<=1000000):Pure Tryz.prog B 16 [.agg [I cells,uz lines]] (· = I (yS cells lines)):=by
 refine zV λh g K H0 hK=>zL zR wm 10000000 λhf => ?_;rw [F16.go];refine H0.box (l:=[I cells,uz lines]) rfl λbx h1 g1 H1 => ?_;rw [sFx,H1.load (k:=0) (i:=0) rfl rfl];have ret:∀ v:Int,v=yS cells lines->K (I v) h1 g1=.ok True:=λv hv=>by rw [hv];exact hK _ _ _ _ _ H1 (zK rfl) rfl
 by_cases hc:cells<1\/256<cells
 .have hv:(3:Int)=yS cells lines:=by rw [yS,if_pos hc]
  by_cases c1:cells<1
  .simp only [yu,c1,decide_true,yU,zT,zD];exact ret 3 hv
  .simp only [yu,c1,decide_false,yJ];rw [sFx,H1.load (k:=0) (i:=0) rfl rfl];simp only [kg,show (256:Int)<cells by omega,decide_true,zW,zD];exact ret 3 hv
 simp only [yu,show ¬ cells<1 by omega,decide_false,yJ];rw [sFx,H1.load (k:=0) (i:=0) rfl rfl];simp only [kg,show ¬ (256:Int)<cells by omega,decide_false,zW,zC];rw [sFx,H1.load (k:=0) (i:=0+1) rfl rfl];simp (disch:=omega) only [jg,xg,nk,qf,qj,yu,rq,kg,bq,zT,zW,zD,zC,yN,yJ,yU,yY,jB,yZ,jC,jW,jP,jK,jO,zS,yL,yH,zF,decide_true,decide_false,Zah,Zal,jL];by_cases hm:128<lines.length
 .simp only [show (128:Int)<(lines.length:Int) by omega,decide_true,zD];exact ret 5 (by rw [yS,if_neg hc,if_pos hm])
 simp only [show ¬ (128:Int)<(lines.length:Int) by omega,decide_false,zC];have hs:yS cells lines=gI cells [] lines:=by rw [yS,if_neg hc,if_neg hm]
 refine F16.L3 (λm z3 h' g'=>∃ i:Nat,z3=I i/\lines.length-i=m/\i<=lines.length/\h'=h1/\g'=g1/\yS cells lines=gI cells (lines.take i) (lines.drop i)) (m:=lines.length) (by omega) ⟨0,rfl,rfl,by omega,rfl,rfl,by simpa using hs⟩ ?_;rintro m z2 z3 z4 z5 z8 z9 z10 z11 z12 z13 h1 g1 R ⟨i,rfl,rfl,hi,rfl,rfl,he⟩ hR;rw [sFx,H1.load (k:=0) (i:=0+1) rfl rfl];simp (disch:=omega) only [jg,xg,nk,qf,qj,yu,rq,kg,bq,zT,zW,zD,zC,yN,yJ,yU,yY,jB,yZ,jC,jW,jP,jK,jO,zS,yL,yH,zF,decide_true,decide_false,Zah,Zal,jL];by_cases hlt:i<lines.length
 case neg =>
  simp only [show ¬ (i:Int)<(lines.length:Int) by omega,decide_false,zC];rw [F16.k20];exact ret 0 (by rw [he,Zbg (by omega)];rfl)
 simp only [show (i:Int)<(lines.length:Int) by omega,decide_true,zD];obtain ⟨l,hx⟩:∃ l,lines[i]? = some l:=⟨_,Zgu hlt⟩;have hmem:=Zad hx;have hd:lines.drop i=l::lines.drop (i+1):=by
  rw [Zav hlt];rw [Zgu hlt] at hx;rw [Option.some.inj hx]
 have htake:lines.take (i+1)=lines.take i++[l]:=by rw [Zar,hx];rfl
 rw [sFx,H1.load (k:=0) (i:=0+1) rfl rfl,xu rfl hlt,ldL (getT hx)];simp (disch:=omega) only [jg,xg,nk,qf,qj,yu,rq,kg,bq,zT,zW,zD,zC,yN,yJ,yU,yY,jB,yZ,jC,jW,jP,jK,jO,zS,yL,yH,zF,decide_true,decide_false,Zah,Zal,jL];have hlw:=hw l hmem;have zrt:jM cells (lines.take i) l≠0->yS cells lines=jM cells (lines.take i) l:=λh=>by rw [he,hd,gI,if_pos h]
 by_cases h0:l.length=0
 .simp only [show (l.length:Int)=0 by omega,decide_true,zD];have hl0:l=[]:=Zcm h0;have e12:jM cells (lines.take i) l=12:=by rw [jM,if_pos hl0]
  exact ret 12 (by rw [zrt (by rw [e12];decide),e12])
 simp only [show ¬ (l.length:Int)=0 by omega,decide_false,zC];have hl0:l≠[]:=λq=>h0 (by rw [q];rfl);have hcell:yQ cells none l≠0->yS cells lines=yQ cells none l:=λh=>by
  have e:jM cells (lines.take i) l=yQ cells none l:=by rw [jM,if_neg hl0,if_pos h]
  rw [zrt (by rw [e];exact h),e]
 refine F16.L10 (λm z5 h' g'=>∃ k:Nat,z5=I k/\l.length-k=m/\k<=l.length/\h'=h1/\g'=g1/\yQ cells none l=yQ cells (pv l k) (l.drop k)) (m:=l.length) (by omega) ⟨0,rfl,rfl,by omega,rfl,rfl,rfl⟩ ?_;rintro m y2 y5 y10 y11 y12 h1 g1 R2 ⟨k,rfl,rfl,hk,rfl,rfl,hce⟩ hR2;simp (disch:=omega) only [jg,xg,nk,qf,qj,yu,rq,kg,bq,zT,zW,zD,zC,yN,yJ,yU,yY,jB,yZ,jC,jW,jP,jK,jO,zS,yL,yH,zF,decide_true,decide_false,Zah,Zal,jL];by_cases hkt:k<l.length
 case neg =>
  simp only [show ¬ (k:Int)<(l.length:Int) by omega,decide_false,zC];have hz:yQ cells none l=0:=by rw [hce,Zbg (by omega)];rfl
  rw [F16.k18,sFx,H1.load (k:=0) (i:=0+1) rfl rfl,zlu (by omega) (by omega)];have ep:AV.lst 1 i ((lines.map encI).take i)=uz (lines.take i):=by
   rw [<- Zfr];simp [uz,Zbv (Nat.le_of_lt hlt)]
  rw [ep];refine znr (by rw [Zaj];omega) (λq hq=>Zbe (hw q (Zbn hq)) (by omega)) _ _ _ _ ?_;rintro _ rfl _;by_cases hin:l∈lines.take i
  .simp only [hin,decide_true,zD];have e9:jM cells (lines.take i) l=9:=by rw [jM,if_neg hl0,if_neg (by rw [hz];simp),if_pos hin]
   exact ret 9 (by rw [zrt (by rw [e9];decide),e9])
  .simp only [hin,decide_false,zC];rw [F16.k19,jg (by omega)];have e0:jM cells (lines.take i) l=0:=by rw [jM,if_neg hl0,if_neg (by rw [hz];simp),if_neg hin]
   refine hR _ _ _ _ _ _ _ _ _ _ _ _ _ (by omega) ⟨i+1,rfl,rfl,by omega,rfl,rfl,?_⟩;rw [he,hd,gI,if_neg (by rw [e0];simp),htake]
 simp only [show (k:Int)<(l.length:Int) by omega,decide_true,zD];have hxk:l[k]? = some l[k]:=Zgu hkt;have hdk:l.drop k=l[k]::l.drop (k+1):=Zav hkt;rw [xu rfl hkt,ldL (rH hxk)];by_cases hbad:l[k]<0\/cells<=l[k]
 .have e10:yQ cells none l=10:=by rw [hce,hdk,yQ,if_pos hbad]
  have fin:=ret 10 (by rw [hcell (by rw [e10];decide),e10]);by_cases hneg:l[k]<0
  .simp only [yu,hneg,decide_true,yU,zT,zD];exact fin
  .simp only [yu,hneg,decide_false,yJ];rw [xu rfl hkt,ldL (rH hxk),sFx,H1.load (k:=0) (i:=0) rfl rfl];simp only [bq,show cells<=l[k] by omega,decide_true,zW,zD];exact fin
 simp only [yu,show ¬ l[k]<0 by omega,decide_false,yJ];rw [xu rfl hkt,ldL (rH hxk),sFx,H1.load (k:=0) (i:=0) rfl rfl];simp only [bq,show ¬ cells<=l[k] by omega,decide_false,zW,zC];rw [F16.k16];have next:∀ z12,(pv l k).any (λq=>decide (l[k]<=q))=false->R2 (F16.fr (.agg [I cells,uz lines]) (.ptr bx 0) y2 (I i) (encI l) (I ((k:Int)+1)) (.bool false) (.bool false) (.bool true) (.bool false) (.bool true) (.bool false) z12 z13) h1 g1=.ok True:=λz12 hany=>by
  refine hR2 _ _ _ _ _ _ _ _ (by omega) ⟨k+1,rfl,rfl,by omega,rfl,rfl,?_⟩;rw [hce,hdk,yQ,if_neg hbad,hany];simp [bB hkt]
 by_cases hk0:0<k
 .obtain ⟨k,rfl⟩:∃ j,k=j+1:=⟨k-1,by omega⟩;have hk1:k<l.length:=by omega
  have hxk1:l[k]? = some l[k]:=Zgu hk1;simp only [kg,show (0:Int)<((k+1:Nat):Int) by omega,decide_true,yN];rw [xu rfl hkt,ldL (rH hxk),xg (by omega),xu (i:=k) (by omega) hk1,ldL (rH hxk1)];rw [bB hk1] at next;by_cases hle:l[k+1]<=l[k]
  .simp only [rq,hle,decide_true,zT,zD];have e11:yQ cells none l=11:=by rw [hce,hdk,yQ,if_neg hbad,bB hk1,if_pos (by simp [hle])]
   exact ret 11 (by rw [hcell (by rw [e11];decide),e11])
  .simp only [rq,hle,decide_false,zT,zC];rw [F16.k17,jg (by omega)];exact next _ (by simp [hle])
 .obtain rfl:k=0:=by omega
  simp only [kg,show ¬ (0:Int)<((0:Nat):Int) by omega,decide_false,yY,zW,zC];rw [F16.k17,jg (by omega)];exact next _ (by simp [pv])
theorem q8 {P:Program} {f:Nat} {p id:Pa} {h0 h:T Blk} {y:Pa} {L:List Ob} {k:Nat} {l:List Int} {K:Kw Prop} {Q:AV->Prop} (H:Hp h0 h y L) (hk:L[k]? = some (.arr id (l.map I))) (hq:∀ B,Pure P B f [encI l] Q) (hpl:∀ v,Q v->Plain v)
  (hK:∀ v,Q v->K v h y=.ok True):(CS P B).fn f p [.sl id 0 l.length (some l.length) 1] h y K=.ok True :=
 zhf (.cons (jr.frz (H.own _ (Zad hk)) (T.rV _ id) (Zaf _) (by simp) λv hv=>by obtain ⟨x,_,rfl⟩:=Zao.1 hv;rfl) .nil) (by
  have:=zdi l;simp only [nns,rD.nn this,Bool.and_self]) hq hpl λv hv _=>hK v hv
theorem zby {h:T Blk} {y:Pa} {l:List Int} {g:Nat} {p q:Pa} {cap:List AV} {pr:Int->Bool} {K:Kw Prop} (hl:l.length<=1000000) (hcl:∀ x∈l,∀ K:Kw Prop,K (.bool (pr x)) h y=.ok True->(CS Tryz.prog B).fn g q (I x::cap) h y K=.ok True)
  (hK:K (.bool (l.any pr)) h y=.ok True):(CS Tryz.prog B).fn 33 p [encI l,.fn g q cap] h y K=.ok True:=by
 refine j7 (p:=.of 33) (K:=K) (zL zR wm 9 λhf => ?_) λ_ _ _ _ q=>q;rw [F33.go];refine j7 (p:=.of 65) (K:=λv1 h2 n3=>za .geq .int v1 (I 0) λv4=>K v4 h2 n3) (zL zR wm 10000000 λhf => ?_) λ_ _ _ _ q=>q;rw [F65.go];simp (disch:=omega) only [jg,xg,nk,qf,qj,yu,rq,kg,bq,zT,zW,zD,zC,yN,yJ,yU,yY,jB,yZ,jC,jW,jP,jK,jO,zS,yL,yH,zF,decide_true,decide_false,Zah,Zal,jL];refine F65.L1 (λm z5 h' y'=>∃ i:Nat,z5=I i/\l.length-i=m/\i<=l.length/\h'=h/\y'=y/\(l.take i).any pr=false) (m:=l.length) (by omega) ⟨0,rfl,rfl,by omega,rfl,rfl,by simp⟩ ?_;rintro m z2 z3 z5 z6 z7 _ _ R ⟨i,rfl,rfl,hi,rfl,rfl,htk⟩ hR;simp (disch:=omega) only [jg,xg,nk,qf,qj,yu,rq,kg,bq,zT,zW,zD,zC,yN,yJ,yU,yY,jB,yZ,jC,jW,jP,jK,jO,zS,yL,yH,zF,decide_true,decide_false,Zah,Zal,jL];by_cases hlt:i<l.length
 .simp only [show (i:Int)<(l.length:Int) by omega,decide_true,zD];have hx:l[i]? = some l[i]:=Zgu hlt;rw [xu rfl hlt,ldL (rH hx),m5];refine hcl _ (Zas hlt) _ ?_;cases he:pr l[i] with
  | true =>
   simp only [zD,bq,show (0:Int)<=(i:Int) by omega,decide_true];rw [Zft.2 ⟨_,Zas hlt,he⟩] at hK;exact hK
  | false =>
   simp only [zC];refine hR _ _ _ _ _ _ _ _ (by omega) ⟨i+1,rfl,rfl,by omega,rfl,rfl,?_⟩;rw [Zar,hx,List.any_append,htk];simp [he]
 .simp only [show ¬ (i:Int)<(l.length:Int) by omega,decide_false,zC];rw [F65.k8];rw [Zan (by omega)] at htk;rw [htk] at hK;simp only [bq,show ¬ (0:Int) <= -1 by omega,decide_false];exact hK
theorem zlv {a b:Int} {l:List Int} (hl:l.length<=1000000):Pure Tryz.prog B 53 [I a,I b,encI l] (· = I (if l.any (λx=>decide (x<a)||decide (b<x)) then 3 else 0)):=by
 refine zV λh y K H0 hK=>zL zR wm 1000 λhf => ?_;rw [F53.go];refine H0.box (l:=[I a]) rfl λx1 h1 y1 H1 => ?_;refine H1.box (l:=[I b]) rfl λx2 h2 y2 H2 => ?_;refine zby (pr:=λx=>decide (x<a)||decide (b<x)) hl (λx _ K hK => ?_) ?_
 .refine j7 (p:=.of 101) (K:=K) (zL zR wm 9 λhf => ?_) λ_ _ _ _ q=>q;show zO tbl 9 _ (Pa.of 101) [I x,.ptr x1 0,.ptr x2 0] _ _ _=_;rw [aV.go,H2.load (k:=1) (i:=0) rfl rfl];by_cases c:x<a
  .simp only [yu,c,decide_true,yU,zT];simpa [c] using hK
  .simp only [yu,c,decide_false,yJ];rw [H2.load (k:=0) (i:=0) rfl rfl];simp only [kg,zW];simpa [c] using hK
 .refine pI _ _ _ _ _ _ ?_;rintro _ rfl _;exact hK _ _ _ _ _ H2 (zK rfl) rfl
theorem zu8 {cells:Int} {lines:List (List Int)} {i:Nat} {l:List Int} (hi:lines[i]? = some l) (hn:lines.length<=1000000) (hw:∀ q∈lines,q.length<=1000000):Pure Tryz.prog B 58 [.agg [I cells,uz lines],I i] (· = I (jM cells (lines.take i) l)):=by
 refine zV λh g K H0 hK=>zL zR wm 10000000 λhf => ?_;have hlt:i<lines.length:=(Zgv.1 hi).1;have hlw:=hw l (Zad hi);rw [F58.go];refine H0.box (l:=[I cells,uz lines]) rfl λbx h1 g1 H1 => ?_;rw [sFx,H1.load (k:=0) (i:=0+1) rfl rfl,xu rfl hlt,ldL (getT hi)];refine H1.alloc λx h2 g2 H2 => ?_;refine H2.store (k:=0) rfl (by decide) rfl λh3 H3 => ?_;rw [H3.load (k:=0) (i:=0) rfl rfl];simp (disch:=omega) only [jg,xg,nk,qf,qj,yu,rq,kg,bq,zT,zW,zD,zC,yN,yJ,yU,yY,jB,yZ,jC,jW,jP,jK,jO,zS,yL,yH,zF,decide_true,decide_false,Zah,Zal,jL];have ret:∀ (v:Int) h' g' L,v=jM cells (lines.take i) l->Hp h h' g' L->K (I v) h' g'=.ok True:=λv h' g' L hv H'=>by rw [hv];exact hK _ _ _ _ _ H' (zK rfl) rfl
 by_cases h0:l.length=0
 .simp only [show (l.length:Int)=0 by omega,decide_true,zD];have hl0:l=[]:=Zcm h0;exact ret 12 _ _ _ (by rw [jM,if_pos hl0]) H3
 simp only [show ¬ (l.length:Int)=0 by omega,decide_false,zC];have hl0:l≠[]:=λq=>h0 (by rw [q];rfl);have hcell:yQ cells none l≠0->yQ cells none l=jM cells (lines.take i) l:=λh=>by rw [jM,if_neg hl0,if_pos h]
 rw [H3.load (k:=0) (i:=0) rfl rfl];simp (disch:=omega) only [jg,xg,nk,qf,qj,yu,rq,kg,bq,zT,zW,zD,zC,yN,yJ,yU,yY,jB,yZ,jC,jW,jP,jK,jO,zS,yL,yH,zF,decide_true,decide_false,Zah,Zal,jL];refine F58.L2 (λm z11 h' g'=>∃ k:Nat,z11=I k/\l.length-k=m/\k<=l.length/\Hp h h' g' [.arr x [encI l],.arr bx [I cells,uz lines]]/\yQ cells none l=yQ cells (pv l k) (l.drop k)) (m:=l.length) (by omega) ⟨0,rfl,rfl,by omega,H3,rfl⟩ ?_;rintro m z3 z5 z6 z7 z11 z12 z13 h1 g1 R ⟨k,rfl,rfl,hk,H1,hce⟩ hR;simp (disch:=omega) only [jg,xg,nk,qf,qj,yu,rq,kg,bq,zT,zW,zD,zC,yN,yJ,yU,yY,jB,yZ,jC,jW,jP,jK,jO,zS,yL,yH,zF,decide_true,decide_false,Zah,Zal,jL];by_cases hkt:k<l.length
 case neg =>
  simp only [show ¬ (k:Int)<(l.length:Int) by omega,decide_false,zC];have hz:yQ cells none l=0:=by rw [hce,Zbg (by omega)];rfl
  rw [F58.k9,sFx,H1.load (k:=1) (i:=0+1) rfl rfl,zlu (by omega) (by omega)];have ep:AV.lst 1 i ((lines.map encI).take i)=uz (lines.take i):=by
   rw [<- Zfr];simp [uz,Zbv (Nat.le_of_lt hlt)]
  rw [ep];refine zhq H1 (k:=0) rfl (by rw [Zaj];omega) (λq hq=>hw q (Zbn hq)) ?_;refine pI _ _ _ _ _ _ ?_;rintro _ rfl _;refine ret _ _ _ _ ?_ H1;have e9:jM cells (lines.take i) l=if l∈lines.take i then 9 else 0:=by rw [jM,if_neg hl0,if_neg (by rw [hz];simp)]
  rw [e9];by_cases hin:l∈lines.take i <;> simp [hin]
 simp only [show (k:Int)<(l.length:Int) by omega,decide_true,zD];have hxk:l[k]? = some l[k]:=Zgu hkt;have hdk:l.drop k=l[k]::l.drop (k+1):=Zav hkt;rw [xu rfl hkt,ldL (rH hxk)]
 have tail:∀ (b1 b2:Bool) (z:AV) (z':AV) (Z:AV->T Blk->Pa->Out Prop),b1=(decide (l[k]<0\/cells<=l[k]))->b2=(pv l k).any (λq=>decide (l[k]<=q)) ->
   (∀ (e:Int) h' g',e=(if l[k]<0\/cells<=l[k] then 10 else if (pv l k).any (λq=>decide (l[k]<=q)) then 11 else 0)->Hp h h' g' [.arr x [encI l],.arr bx [I cells,uz lines]]->Z (I e) h' g'=.ok True) ->
   (CS Tryz.prog B).fn 52 (.of 52) [.bool b2,I 11] h1 g1 (λv22 h23 n24=>y3 1 2 [(I 0)] [(0,1,I (if b1 then 10 else 0)),(1,1,v22)] h23 n24 λv25 h26 n27=>(CS Tryz.prog B).fn 51 (.of 51) [v25] h26 n27 Z)=.ok True:=by
  intro b1 b2 z z' Z e1 e2 hZ;refine pI _ _ _ _ _ _ ?_;rintro _ rfl _;refine H1.qw (l:=[I (if b1 then 10 else 0),I (if b2 then 11 else 0)]) rfl λid h4 g4 H4 => ?_;refine q8 (l:=[if b1 then 10 else 0,if b2 then 11 else 0]) H4 (k:=0) rfl (λB=>zbx (by simp)) (λv hv=>by rw [hv];exact .int _ _) ?_;rintro _ rfl;refine hZ _ _ _ ?_ H4.drop;subst e1 e2;by_cases c1:l[k]<0\/cells<=l[k]
  .simp [c1,uT]
  .cases c2:(pv l k).any (λq=>decide (l[k]<=q)) <;> simp [c1,uT]
 have fin:∀ (e:Int) h' g',e=(if l[k]<0\/cells<=l[k] then 10 else if (pv l k).any (λq=>decide (l[k]<=q)) then 11 else 0)->Hp h h' g' [.arr x [encI l],.arr bx [I cells,uz lines]] ->
   (za .neq .int (I e) (I 0) λv31=>yV v31 (K (I e) h' g') (R (F58.fr (.agg [I cells,uz lines]) (I i) (.ptr bx 0) z3 (.ptr x 0) (I k) (I l[k]) (I e) (.bool false) (encI l) (I l.length) (I ((k:Int)+1)) (.bool true) v31) h' g'))=.ok True:=by
  intro e h' g' he H';have hstep:yQ cells none l=if e≠0 then e else yQ cells (some l[k]) (l.drop (k+1)):=by
   rw [hce,hdk,yQ,he];by_cases c1:l[k]<0\/cells<=l[k]
   .simp [c1]
   .cases c2:(pv l k).any (λq=>decide (l[k]<=q)) <;> simp [c1]
  simp (disch:=omega) only [jg,xg,nk,qf,qj,yu,rq,kg,bq,zT,zW,zD,zC,yN,yJ,yU,yY,jB,yZ,jC,jW,jP,jK,jO,zS,yL,yH,zF,decide_true,decide_false,Zah,Zal,jL];by_cases c:e=0
  .simp only [c,decide_true,Zah,zC];refine hR _ _ _ _ _ _ _ _ _ _ (by omega) ⟨k+1,rfl,rfl,by omega,H',?_⟩;rw [hstep,if_neg (by simp [c]),bB hkt]
  .simp only [c,decide_false,Zal,zD];rw [if_pos c] at hstep;exact ret _ _ _ _ (by rw [<- hcell (by rw [hstep];exact c),hstep]) H'
 have mid:∀ b1:Bool,b1=decide (l[k]<0\/cells<=l[k]) ->
   (CS Tryz.prog B).fn 52 (.of 52) [.bool b1,I 10] h1 g1 (λv10 h11 n12 =>
    sG (.bool (decide (0<(k:Int)))) true (λk=>zH (.ptr x 0) h11 k) λv14=>sG (.bool (decide (0<(k:Int)))) true (λq=>q (I (k:Int))) λv15=>sG (.bool (decide (0<(k:Int)))) true (λk=>za .sub .int v15 (I 1) k) λv16=>sG (.bool (decide (0<(k:Int)))) true (λk=>zN 1 v14 v16 k) λv17=>sG (.bool (decide (0<(k:Int)))) true (λk=>zH v17 h11 k) λv18 =>
    sG (.bool (decide (0<(k:Int)))) true (λq=>q (I l[k])) λv19=>sG (.bool (decide (0<(k:Int)))) true (λk=>za .geq .int v18 v19 k) λv20=>yO (.bool (decide (0<(k:Int)))) v20 (.bool false) λv21 =>
    (CS Tryz.prog B).fn 52 (.of 52) [v21,I 11] h11 n12 λv22 h23 n24=>y3 1 2 [(I 0)] [(0,1,v10),(1,1,v22)] h23 n24 λv25 h26 n27=>(CS Tryz.prog B).fn 51 (.of 51) [v25] h26 n27 λv28 h29 n30 =>
    za .neq .int v28 (I 0) λv31=>yV v31 (K v28 h29 n30) (R (F58.fr (.agg [I cells,uz lines]) (I i) (.ptr bx 0) z3 (.ptr x 0) (I k) (I l[k]) v28 (.bool false) (encI l) (I l.length) (I ((k:Int)+1)) (.bool true) v31) h29 n30))=.ok True:=by
  intro b1 e1;refine pI _ _ _ _ _ _ ?_;rintro _ rfl _;by_cases ck:0<k
  .obtain ⟨k,rfl⟩:∃ j,k=j+1:=⟨k-1,by omega⟩;have hk1:k<l.length:=by omega
   have hxk1:l[k]? = some l[k]:=Zgu hk1;simp only [show (0:Int)<((k+1:Nat):Int) by omega,decide_true,yN,zT];rw [H1.load (k:=0) (i:=0) rfl rfl,xg (by omega),xu (i:=k) (by omega) hk1,ldL (rH hxk1)];simp only [bq];exact tail _ _ .u .u _ e1 (by rw [bB hk1];rfl) fin
  .obtain rfl:k=0:=by omega
   simp only [show ¬ (0:Int)<((0:Nat):Int) by omega,decide_false,yY,zW];exact tail _ _ .u .u _ e1 rfl fin
 by_cases c:l[k]<0
 .simp only [yu,c,decide_true,yU,zT];exact mid true (by simp [c])
 .simp only [yu,c,decide_false,yJ,sFx];rw [H1.load (k:=1) (i:=0) rfl rfl];simp only [bq,zW];exact mid _ (by simp [c])
theorem zru {cells:Int} {lines:List (List Int)} (hw:∀ q∈lines,q.length<=1000000):Pure Tryz.prog B 28 [.agg [I cells,uz lines]] (· = I (yS cells lines)):=by
 refine zV λh y K H0 hK=>zL zR wm 10000000 λhf => ?_;rw [F28.go];refine H0.box (l:=[I cells,uz lines]) rfl λbx h1 y1 H1 => ?_;rw [sFx,H1.load (k:=0) (i:=0) rfl rfl,sFx,H1.load (k:=0) (i:=0+1) rfl rfl];simp only [zS,kg];refine H1.qw (l:=[I cells]) rfl λid h2 y2 H2 => ?_;simp only [zF,zS];rw [H2.load (k:=1) (i:=0+1) rfl rfl];simp only [zF,sFx];refine zhf (args':=[I 1,I 256,encI [cells]]) (.cons (.int _ _) (.cons (.int _ _) (.cons (jr.frz (H2.own (.arr id [I cells]) (by simp)) (T.rV _ id) (Zaf _) rfl (λv hv=>by simp at hv;subst hv;rfl)) .nil))) rfl (λB=>zlv (l:=[cells]) (by simp)) (λv hv=>by rw [hv];exact .int _ _) ?_;rintro _ rfl _;rw [H2.load (k:=1) (i:=0+1) rfl rfl];simp only [zF,zS];refine pI _ _ _ _ _ _ ?_;rintro _ rfl _;refine H2.qw (l:=[I (if [cells].any (λx=>decide (x<1)||decide (256<x)) then 3 else 0),I (if decide (128<(lines.length:Int)) then 5 else 0)]) rfl λid3 h3 y3 H3 => ?_;refine q8 (l:=[if [cells].any (λx=>decide (x<1)||decide (256<x)) then 3 else 0,if decide (128<(lines.length:Int)) then 5 else 0]) H3 (k:=0) rfl (λB=>zbx (by simp)) (λv hv=>by rw [hv];exact .int _ _) ?_;rintro _ rfl;have ret:∀ (v:Int) h' y' L,v=yS cells lines->Hp h h' y' L->K (I v) h' y'=.ok True:=λv h' y' L hv H'=>by rw [hv];exact hK _ _ _ _ _ H' (zK rfl) rfl
 have ef:uT [if [cells].any (λx=>decide (x<1)||decide (256<x)) then 3 else 0,if decide (128<(lines.length:Int)) then 5 else 0]=if cells<1\/256<cells then 3 else if 128<lines.length then 5 else 0:=by
  by_cases c:cells<1\/256<cells
  .simp [uT,c]
  .by_cases c2:128<lines.length
   .have:(128:Int)<(lines.length:Int):=by omega
    simp [uT,c,c2,this]
   .have:¬ (128:Int)<(lines.length:Int):=by omega
    simp [uT,c,c2,this]
 rw [ef];simp only [qj];by_cases hc:cells<1\/256<cells
 .simp only [hc,if_true];simp only [show ¬ (3:Int)=0 by omega,decide_false,Zal,zD];exact ret 3 _ _ _ (by rw [yS,if_pos hc]) H3
 simp only [hc,if_false];by_cases hm:128<lines.length
 .simp only [hm,if_true];simp only [show ¬ (5:Int)=0 by omega,decide_false,Zal,zD];exact ret 5 _ _ _ (by rw [yS,if_neg hc,if_pos hm]) H3
 simp only [hm,if_false,decide_true,Zah,zC];rw [H3.load (k:=2) (i:=0+1) rfl rfl];simp only [zS];have hs:yS cells lines=gI cells [] lines:=by rw [yS,if_neg hc,if_neg hm]
 refine F28.L2 (λm z8 h' y'=>∃ i:Nat,z8=I i/\lines.length-i=m/\i<=lines.length/\Hp h h' y' [.arr bx [I cells,uz lines]]/\yS cells lines=gI cells (lines.take i) (lines.drop i)) (m:=lines.length) (by omega) ⟨0,rfl,rfl,by omega,H3.drop.drop,by simpa using hs⟩ ?_;rintro m z2 z4 z5 z8 z9 z10 h4 y4 R ⟨i,rfl,rfl,hi,H4,he⟩ hR;simp (disch:=omega) only [jg,xg,nk,qf,qj,yu,rq,kg,bq,zT,zW,zD,zC,yN,yJ,yU,yY,jB,yZ,jC,jW,jP,jK,jO,zS,yL,yH,zF,decide_true,decide_false,Zah,Zal,jL];by_cases hlt:i<lines.length
 case neg =>
  simp only [show ¬ (i:Int)<(lines.length:Int) by omega,decide_false,zC];rw [F28.k9];exact ret 0 _ _ _ (by rw [he,Zbg (by omega)];rfl) H4
 simp only [show (i:Int)<(lines.length:Int) by omega,decide_true,zD];obtain ⟨l,hx⟩:∃ l,lines[i]? = some l:=⟨_,Zgu hlt⟩;have hd:lines.drop i=l::lines.drop (i+1):=by
  rw [Zav hlt];rw [Zgu hlt] at hx;rw [Option.some.inj hx]
 have htake:lines.take (i+1)=lines.take i++[l]:=by rw [Zar,hx];rfl
 rw [H4.zi (k:=0) (n:=2) rfl rfl];refine zu8 hx (by omega) hw _ _ _ _ ?_;rintro _ rfl _;simp only [qj];by_cases c:jM cells (lines.take i) l=0
 .simp only [c,decide_true,Zah,zC];refine hR _ _ _ _ _ _ _ _ _ (by omega) ⟨i+1,rfl,rfl,by omega,H4,?_⟩;rw [he,hd,gI,if_neg (by rw [c];simp),htake]
 .simp only [c,decide_false,Zal,zD];exact ret _ _ _ _ (by rw [he,hd,gI,if_pos c]) H4
end Go.Ev
namespace Go.Ev
def AscL (cells:Nat) (l:List Int):Prop:=l≠[]/\l.Pairwise (· < ·)/\∀ c∈l,0<=c/\c<(cells:Int)
end Go.Ev
namespace Go.Ev
open Go Go.Proofs
variable {B:Nat}
theorem cells_ok {cells:Int}:∀ {l:List Int} {p:Option Int},yQ cells p l=0->(∀ c∈l,0<=c/\c<cells)/\l.Pairwise (· < ·)/\∀ q,p=some q->∀ c∈l,q<c
 | [],_,_=>⟨by simp,.nil,by simp⟩
 | c::l,p,h=>by
  rw [yQ] at h;by_cases c1:c<0\/cells<=c
  .rw [if_pos c1] at h;cases h
  rw [if_neg c1] at h;cases c2:p.any (λq=>decide (c<=q)) with
  | true=>rw [c2,if_pos rfl] at h;cases h
  | false =>
   rw [c2,if_neg (by simp)] at h;obtain ⟨h1,h2,h3⟩:=cells_ok h;have h4:=h3 c rfl;refine ⟨λx hx => ?_,Zek.2 ⟨h4,h2⟩,λq hq x hx => ?_⟩
   .rcases Zaq.1 hx with rfl | hx
    .omega
    .exact h1 x hx
   .subst hq;simp at c2;rcases Zaq.1 hx with rfl | hx
    .exact c2
    .have:=h4 x hx;omega
theorem zhr {cells:Int}:∀ {ls prev:List (List Int)},gI cells prev ls=0->∀ l∈ls,l≠[]/\yQ cells none l=0
 | [],_,_,l,h=>by simp at h
 | a::ls,prev,h,l,hl=>by
  rw [gI] at h;by_cases c:jM cells prev a≠0
  .rw [if_pos c] at h;exact absurd h c
  rw [if_neg c] at h;rcases Zaq.1 hl with rfl | hl
  .have c:jM cells prev l=0:=by simpa using c
   rw [jM] at c;by_cases c0:l=[]
   .rw [if_pos c0] at c;cases c
   rw [if_neg c0] at c;refine ⟨c0,?_⟩;by_cases c1:yQ cells none l≠0
   .rw [if_pos c1] at c;exact c
   .simpa using c1
  .exact zhr h l hl
theorem zkl {cells:Int} {lines:List (List Int)} (h:yS cells lines=0):∃ n:Nat,cells=n/\1<=n/\n<=256/\lines.length<=128/\∀ l∈lines,AscL n l:=by
 rw [yS] at h;by_cases c1:cells<1\/256<cells
 .rw [if_pos c1] at h;cases h
 rw [if_neg c1] at h;by_cases c2:128<lines.length
 .rw [if_pos c2] at h;cases h
 rw [if_neg c2] at h;refine ⟨cells.toNat,by omega,by omega,by omega,by omega,λl hl => ?_⟩;obtain ⟨h1,h2⟩:=zhr h l hl;obtain ⟨h3,h4,_⟩:=cells_ok h2;exact ⟨h1,h4,λc hc=>by have:=h3 c hc;omega⟩
end Go.Ev
namespace Go.Ev
abbrev srt (l:List Int):List Int:=l.mergeSort λx y=>decide (x<=y)
theorem qG (l:List Int):(srt l).Perm l:=List.mergeSort_perm l _
def Bd (d:List Int) (M:Nat):Prop:=∀ v∈d,0<=v/\v<=(M:Int)
end Go.Ev
namespace Go.Ev
open Go Go.Proofs
variable {B:Nat}
theorem zhs (x:Int):Pure Tryz.prog B 233 [I x] (· = .bool false):=by
 intro p h y K hK;refine zL zR wm 9 λhf => ?_;rw [aW.go];simp only [qj,decide_true,Zah];exact hK _ rfl hf
theorem qdc {l:List Int}:∀ v∈l.map I,rD v=true:=λv hv=>by obtain ⟨x,_,rfl⟩:=Zao.1 hv;rfl
theorem Hp.ax {h0 h:T Blk} {y:Pa} {L:List Ob} (H:Hp h0 h y L) (e:Nat):Hp h0 h y (.gro none e 0 []::L) :=
  ⟨H.keep,fun x hx=>by rcases Zaq.1 hx with rfl | q;· exact ⟨rfl,rfl⟩
                       . exact H.own x q,λn hn=>H.off n (by simpa [Ob.names] using hn),by have:=H.nd;simpa [Ob.names] using this,H.fr⟩
theorem zht (op:KW3->OP) (h:T Blk) (y:Pa) (k:KW3):sGW (.bool true) false op h y k=k .u h y:=nr rfl
theorem zrv (op:KW3->OP) (h:T Blk) (y:Pa) (k:KW3):sGW (.bool false) false op h y k=op k:=nr rfl
theorem zxs (op:KW3->OP) (h:T Blk) (y:Pa) (k:KW3):sGW (.bool true) true op h y k=op k:=nr rfl
theorem qdd (op:KW3->OP) (h:T Blk) (y:Pa) (k:KW3):sGW (.bool false) true op h y k=k .u h y:=nr rfl
theorem qde {cells a b:Int} {lines:List (List Int)} (ha:a<=1000) (hb:b<=1000000):Pure Tryz.prog B 4 [.agg [I cells,uz lines],I a,I b] (· = .bool (decide (((lines.length:Int)<=b/\∀ l∈lines,(l.length:Int)<=a)/\yS cells lines=0/\cells<=a))):=by
 refine zV λh y K H0 hK=>zL zR wm 1000 λhf => ?_;rw [F4.go];refine H0.box (l:=[I cells,uz lines]) rfl λbx h1 y1 H1 => ?_;rw [H1.zi (k:=0) (n:=2) rfl rfl];refine zu7 hb _ _ _ _ ?_;rintro _ rfl _;have ret:∀ b',b'=decide (((lines.length:Int)<=b/\∀ l∈lines,(l.length:Int)<=a)/\yS cells lines=0/\cells<=a)->K (.bool b') h1 y1=.ok True:=λb' hb'=>hK _ _ _ _ _ H1 (zK rfl) (by rw [hb']);by_cases hsh:(lines.length:Int)<=b/\∀ l∈lines,(l.length:Int)<=a
 case neg =>
  rw [Zab hsh];simp only [yY,qdd,zW];exact ret _ (by simp [hsh])
 rw [Zac hsh];have hw:∀ q∈lines,q.length<=1000000:=λq hq=>by have:=hsh.2 q hq;omega
 simp only [yN,zxs];rw [H1.zi (k:=0) (n:=2) rfl rfl];refine zrs hw _ _ _ _ ?_;rintro _ rfl _;simp only [qf,zT];by_cases hs:yS cells lines=0
 case neg =>
  simp only [hs,decide_false,yY,zW];exact ret _ (by simp [hs])
 simp only [hs,decide_true,yN,sFx];rw [H1.load (k:=0) (i:=0) rfl rfl];simp only [rq,zT];exact ret _ (decide_eq_decide.2 ⟨λq=>⟨hsh,hs,q⟩,λq=>q.2.2⟩)
theorem zrw (n:Int):Pure Tryz.prog B 17 [I n] (· = I (if n<0\/256<n then 3 else 0)):=by
 intro p h y K hK;refine zL zR wm 10 λhf => ?_;rw [F17.go];simp only [yu];by_cases c:n<0
 .simp only [c,decide_true,yU,zT,zD];exact hK _ (by rw [if_pos (.inl c)]) hf
 .simp only [c,decide_false,yJ,kg,zW];by_cases c2:256<n
  .simp only [c2,decide_true,zD];exact hK _ (by rw [if_pos (.inr c2)]) hf
  .simp only [c2,decide_false,zC];exact hK _ (by rw [if_neg (by omega)]) hf
def cu (l:List Int):Prop:=l.Nodup/\∀ x∈l,0<=x/\x<(l.length:Int)
def eF (n:Nat) (l:List Int):List Bool:=l.foldl (λs x=>s.set x.toNat true) (List.replicate n false)
theorem zhu:∀ (l:List Int) (s:List Bool) (k:Nat),(∀ x∈l,0<=x)->k<s.length->(l.foldl (λs x=>s.set x.toNat true) s)[k]? = some (s.getD k false||decide ((k:Int)∈l))
 | [],s,k,_,h=>by
  rw [List.foldl_nil,Zgu h,Zaa,Zgu h];simp
 | x::l,s,k,hl,h=>by
  rw [Zco,zhu l _ k (λy hy=>hl y (Zam _ hy)) (by simpa using h)];have h0:=hl x (Zai ..)
  congr 1
  rw [Zaa,Zaa,Zhm];by_cases e:x.toNat=k
  .have:(k:Int)=x:=by omega
   rw [if_pos e,if_pos (by omega)];simp [this]
  .have:¬ (k:Int)=x:=by omega
   rw [if_neg e];simp [this]
theorem fL (n:Nat) (l:List Int):(eF n l).length=n:=by
 have:∀ (l:List Int) (s:List Bool),(l.foldl (λs x=>s.set x.toNat true) s).length=s.length:=by
  intro l
  induction l with
  | nil=>intro s;rfl
  | cons x l ih=>intro s;rw [Zco,ih];simp
 rw [eF,this];simp
theorem zhv {n:Nat} {l:List Int} {k:Nat} (hl:∀ x∈l,0<=x) (hk:k<n):(eF n l)[k]? = some (decide ((k:Int)∈l)):=by
 rw [eF,zhu l _ k hl (by simpa using hk)]
 congr 1
 rw [Zaa,Zhn,if_pos hk];simp
theorem zdq (n:Nat) (l:List Int) (x:Int):eF n (l++[x])=(eF n l).set x.toNat true:=by simp [eF]
def xOf (n:Nat) (c:Bool) (x:Int):Int:=if c then (n:Int)+1-x else x
def xP (n:Nat) (c:Bool) (g f:List Int) (i:Nat):List Int:=(List.range i).foldl (λo k=>o.set (g.getD k 0).toNat (xOf n c (f.getD k 0))) (List.replicate n 0)
theorem xG (n:Nat) (c:Bool) (g f:List Int) (i:Nat):xP n c g f (i+1)=(xP n c g f i).set (g.getD i 0).toNat (xOf n c (f.getD i 0)):=by
 simp [xP,Zga]
theorem uL (n:Nat) (c:Bool) (g f:List Int):∀ i,(xP n c g f i).length=n
 | 0=>by simp [xP]
 | i+1=>by rw [xG];simp [uL n c g f i]
def kA (c:Bool) (g f:List Int):List Int:=xP f.length c g f f.length
end Go.Ev
namespace Go.Ev
def qdf (y:List Nat) (i k:Nat):List Nat:=y.set i ((y.getD i 0+k)%256)
def addL (y:List Nat) (idx:List Nat) (k:Nat):List Nat:=idx.foldl (λy i=>qdf y i k) y
def blk (x:List Nat) (idx:List Nat) (n:Nat):Nat->List (List Nat)
 | 0=>[]
 | j+1=>List.replicate n (addL x idx j)++blk x idx n j
theorem zns {n:Nat} {seen:List Nat} (nd:seen.Nodup) (h1:∀ i∈seen,i<n) (h2:∀ i,i<n->i∈seen):seen.Perm (List.range n):=by
 rw [List.perm_iff_count];intro a;rw [nd.count,List.nodup_range.count];by_cases e:a<n
 .rw [if_pos (h2 a e),if_pos (by simpa using e)]
 .rw [if_neg λq=>e (h1 a q),if_neg (by simpa using e)]
def fill (most:Nat):Nat->List (List Nat)
 | 0=>[[]]
 | n+1=>(fill most n).flatMap λx=>(List.range (most+1)).map λk=>x++[k]
def gC (fr:Nat) (f:List Nat) (c:Int):Nat:=if (fr:Int)<=c then f.getD (c-fr).toNat 0 else 0
def con (fr:Nat) (f:List Nat) (l:List Int):Nat:=(l.map (gC fr f)).sum
end Go.Ev
namespace Go.Ev
open Go Go.Proofs
variable {B:Nat}
abbrev Sym:=List Int×Bool
abbrev encS (g:Sym):AV:=.agg [encI g.1,.bool g.2]
def fM (G:List Sym):List AV:=G.flatMap λg=>[encI g.1,.bool g.2]
abbrev encG (G:List Sym):AV:=.lst 2 G.length (fM G)
instance (l:List Int):Decidable (cu l):=by unfold cu;infer_instance
def uP (l:List Int):Int:=if 256<l.length then 5 else if cu l then 0 else 14
theorem zu9 {l:List Int} (hl:l.length<=100000):Pure Tryz.prog B 18 [encI l] (· = I (uP l)):=by
 refine zV λh y K H0 hK=>zL zR wm 1000000 λhf => ?_;rw [F18.go];simp only [zS,kg];by_cases c:(256:Int)<(l.length:Int)
 .simp only [c,decide_true,zD];exact hK _ _ _ _ _ H0 (zK rfl) (by rw [uP,if_pos (by omega)])
 have hpe:uP l=if cu l then 0 else 14:=by rw [uP,if_neg (by omega)]
 simp only [c,decide_false,zC];refine H0.mk1 l.length rfl rfl (by omega) (by decide) λtb h1 y1 H1 => ?_;have e0:List.replicate l.length (AV.bool false)=(eF l.length []).map AV.bool:=by simp [eF]
 rw [e0] at H1
 refine F18.L2 (λm x3 h' y'=>∃ i:Nat,x3=I i/\m=l.length-i/\i<=l.length/\(l.take i).Nodup/\(∀ x∈l.take i,0<=x/\x<(l.length:Int))/\Hp h h' y' [.arr tb ((eF l.length (l.take i)).map AV.bool)]) (m:=l.length) (by omega)
  ⟨0,rfl,by omega,by omega,by simp,by simp,by simpa using H1⟩ ?_
 rintro m x1 x3 x5 x6 h2 y2 R ⟨i,rfl,rfl,hi,hnd,hrg,H2⟩ hR;simp only [zS,yu];by_cases hlt:i<l.length
 case neg =>
  simp only [show ¬ (i:Int)<(l.length:Int) by omega,decide_false,zC];rw [F18.k10];rw [Zan (by omega)] at hnd hrg;exact hK _ _ _ _ _ H2 (zK rfl) (by rw [hpe,if_pos ⟨hnd,hrg⟩])
 simp only [show (i:Int)<(l.length:Int) by omega,decide_true,zD];have hx:l[i]? = some l[i]:=Zgu hlt;have bad:¬ cu l->K (I 14) h2 y2=.ok True:=λq=>hK _ _ _ _ _ H2 (zK rfl) (by rw [hpe,if_neg q]);have hrange:cu l->0<=l[i]/\l[i]<(l.length:Int):=λq=>q.2 _ (Zas hlt);rw [xu rfl hlt,ldL (rH hx)];by_cases c1:l[i]<0
 .simp only [yu,c1,decide_true,yU,zT,zD];exact bad λq=>by have:=hrange q;omega
 simp only [yu,c1,decide_false,yJ];rw [xu rfl hlt,ldL (rH hx)];simp only [zS,bq,zW];by_cases c2:(l.length:Int)<=l[i]
 .simp only [c2,decide_true,yU,zT,zD];exact bad λq=>by have:=hrange q;omega
 simp only [c2,decide_false,yJ];have hk:(l[i]).toNat<l.length:=by omega
 have hg:((eF l.length (l.take i)).map AV.bool)[(l[i]).toNat]? = some (.bool (decide (l[i]∈l.take i))):=by
  rw [Zgw,zhv (λx hx=>(hrg x hx).1) hk,show (((l[i]).toNat:Nat):Int)=l[i] by omega];rfl
 rw [xu rfl hlt,ldL (rH hx),sIx (i:=(l[i]).toNat) (by omega) hk,H2.load (k:=0) rfl hg];simp only [zW];by_cases c3:l[i]∈l.take i
 .simp only [c3,decide_true,zD];refine bad λq => ?_;obtain ⟨j,hj⟩:=Zau.1 c3;have hjl:=(Zgv.1 hj).1;rw [Zaj] at hjl;rw [Zhb (by omega)] at hj;obtain ⟨a1,a2⟩:=Zgv.1 hj;exact Zca.1 q.1 j i a1 hlt (by omega) a2
 simp only [c3,decide_false,zC];rw [F18.k8,xu rfl hlt,ldL (rH hx),sIx (i:=(l[i]).toNat) (by omega) hk];refine H2.store (k:=0) rfl (by rw [Zae,fL];exact hk) rfl λh3 H3 => ?_;rw [F18.k9,jg (by omega)];have htk:l.take (i+1)=l.take i++[l[i]]:=by rw [Zar,hx];rfl
 refine hR _ _ _ _ _ _ _ (by omega) ⟨i+1,rfl,rfl,by omega,?_,?_,H3.cast ?_⟩
 .rw [htk];exact Zcf.2 ⟨hnd,by simp,λa ha b hb=>by simp at hb;subst hb;rintro rfl;exact c3 ha⟩
 .intro x hm;rw [htk] at hm;rcases Zbb.1 hm with q | q
  .exact hrg x q
  .simp at q;subst q;omega
 .rw [htk,zdq];simp [Zep]
def gB (g:List Int) (n:Int):Int:=if n<0\/256<n then 3 else if (g.length:Int)≠n then 2 else if cu g then 0 else 14
theorem zzq {g:List Int} {c:Bool} {n:Int}:Pure Tryz.prog B 5 [.agg [encI g,.bool c],I n] (· = I (gB g n)):=by
 refine zV λh y K H0 hK=>zL zR wm 1000 λhf => ?_;rw [F5.go];refine H0.box (l:=[encI g,.bool c]) rfl λbx h1 y1 H1 => ?_;refine zrw n _ _ _ _ ?_;rintro _ rfl _;simp only [qj];by_cases c1:n<0\/256<n
 .simp only [if_pos c1];exact hK _ _ _ _ _ H1 (zK rfl) (by rw [gB,if_pos c1])
 simp only [if_neg c1,decide_true,Zah,zC,sFx];rw [H1.load (k:=0) (i:=0) rfl rfl];simp only [zS,qj];by_cases c2:(g.length:Int)=n
 case neg =>
  simp only [c2,decide_false,Zal,zD];exact hK _ _ _ _ _ H1 (zK rfl) (by rw [gB,if_neg c1,if_pos c2])
 simp only [c2,decide_true,Zah,zC];rw [H1.load (k:=0) (i:=0) rfl rfl];refine zu9 (by omega) _ _ _ _ ?_;rintro _ rfl _;exact hK _ _ _ _ _ H1 (zK rfl) (by rw [gB,if_neg c1,if_neg (by simp [c2]),uP,if_neg (by omega)])
theorem qdg {a b:Bool} {K:AV->OP}:za .neq .bool (.bool a) (.bool b) K=K (.bool (a != b)):=by cases a <;> cases b <;> exact nr rfl
theorem cK {g:List Int} {n:Int} (h:gB g n=0):(0<=n/\n<=256)/\(g.length:Int)=n/\cu g:=by
 rw [gB] at h;by_cases c1:n<0\/256<n
 .rw [if_pos c1] at h;cases h
 rw [if_neg c1] at h;by_cases c2:(g.length:Int)=n
 .rw [if_neg (by simp [c2])] at h;by_cases c3:cu g
  .exact ⟨by omega,c2,c3⟩
  .rw [if_neg c3] at h;cases h
 .rw [if_pos c2] at h;cases h
end Go.Ev
namespace Go.Proofs
open Go.Shelf Go.Lib
def vz:List Int->List Int->Int
 | [],[]=>0
 | [],_::_ => -1
 | _::_,[]=>1
 | x::xs,y::ys=>if x<y then -1 else if y<x then 1 else vz xs ys
theorem zhs (x:Int) (w:World):Calls Tryz.prog 233 #[.int .i64 x] w λe w'=>e=.returned (.bool false)/\w'=w:=by
 have t3:=Tryz.underlying3;have a3:=Tryz.isAgg3;have z3:=Tryz.sizeOf3;have v3:=Tryz.zeroValue3;have t4:=Tryz.underlying4;have a4:=Tryz.isAgg4;have z4:=Tryz.sizeOf4;have v4:=Tryz.zeroValue4
 go_enter Tryz.func233,Tryz.ntmps233
 go_wp2
 go_ret
 exact ⟨by simp,rfl⟩
set_option maxRecDepth 100000 in
theorem zkm (x y:Int) (w:World):Calls Tryz.prog 216 #[.int .i64 x,.int .i64 y] w λe w'=>e=.returned (.int .i64 (Lib.compareInt x y))/\w'=w:=by
 have t3:=Tryz.underlying3;have a3:=Tryz.isAgg3;have z3:=Tryz.sizeOf3;have v3:=Tryz.zeroValue3;have t4:=Tryz.underlying4;have a4:=Tryz.isAgg4;have z4:=Tryz.sizeOf4;have v4:=Tryz.zeroValue4
 go_enter Tryz.func216,Tryz.ntmps216
 go_wp2_with (go_at_call 233;refine (zhs _ _).mono ?_;rintro e w' ⟨rfl,hw⟩;rw [hw])
 all_goals (go_ret;refine ⟨?_,rfl⟩;unfold Lib.compareInt;(repeat' split) <;> first | rfl | (exfalso;omega))
end Go.Proofs
namespace Go.Proofs
open Go.Shelf Go.Lib Go.RowKit
theorem znt {xs ys:List Int} {k:Nat} {x y:Int} (hx:k<xs.length) (hy:k<ys.length) (ex:xs[k]! = x) (ey:ys[k]! = y):vz (xs.drop k) (ys.drop k)=if x<y then -1 else if y<x then 1 else vz (xs.drop (k+1)) (ys.drop (k+1)):=by
 rw [List.drop_eq_getElem_cons hx,List.drop_eq_getElem_cons hy];rw [getElem!_pos xs k hx] at ex;rw [getElem!_pos ys k hy] at ey;rw [ex,ey,vz]
theorem znu {xs ys:List Int} {k:Nat} (hx:xs.length<=k):vz (xs.drop k) (ys.drop k)=if ys.length<=k then 0 else -1:=by
 rw [List.drop_eq_nil_of_le hx];by_cases h:ys.length<=k
 .rw [if_pos h,List.drop_eq_nil_of_le h,vz]
 .rw [if_neg h,List.drop_eq_getElem_cons (by omega),vz]
theorem znv {xs ys:List Int} {k:Nat} (hx:k<xs.length) (hy:ys.length<=k):vz (xs.drop k) (ys.drop k)=1:=by
 rw [List.drop_eq_nil_of_le hy,List.drop_eq_getElem_cons hx,vz]
set_option maxRecDepth 100000 in
theorem zkn (p1 p2:Option Addr) (n c m d:Nat) (xs ys:List Int) (w:World) (hn:n=xs.length) (hm:m=ys.length) (hbig:n<=1000000) (hbig2:m<=1000000)
  (hc1:n=0\/∃ b1 o1,p1=some ⟨b1,o1,none⟩/\∀ j,j<n->w.cell? ⟨b1,o1+j,none⟩=some (.int .i64 xs[j]!)) (hc2:m=0\/∃ b2 o2,p2=some ⟨b2,o2,none⟩/\∀ j,j<m->w.cell? ⟨b2,o2+j,none⟩=some (.int .i64 ys[j]!)) :
  Calls Tryz.prog 150 #[.slice p1 n c,.slice p2 m d] w λe w'=>e=.returned (.int .i64 (vz xs ys))/\∃ q,w'=w.drewN q:=by
 have H1:Aside (n=0\/∃ b1 o1,p1=some ⟨b1,o1,none⟩/\∀ j,j<n->w.cell? ⟨b1,o1+j,none⟩=some (.int .i64 xs[j]!)):=hc1;have H2:Aside (m=0\/∃ b2 o2,p2=some ⟨b2,o2,none⟩/\∀ j,j<m->w.cell? ⟨b2,o2+j,none⟩=some (.int .i64 ys[j]!)):=hc2
 clear hc1 hc2
 have mixed:Tryz.prog.follows .mixedOrders=true:=by kernel_rfl
 have t0:=Tryz.underlying0;have a0:=Tryz.isAgg0;have z0:=Tryz.sizeOf0;have v0:=Tryz.zeroValue0;have t3:=Tryz.underlying3;have a3:=Tryz.isAgg3;have z3:=Tryz.sizeOf3;have v3:=Tryz.zeroValue3;have t4:=Tryz.underlying4;have a4:=Tryz.isAgg4;have z4:=Tryz.sizeOf4;have v4:=Tryz.zeroValue4;have t46:=Tryz.underlying25;have a46:=Tryz.isAgg25;have z46:=Tryz.sizeOf25;have v46:=Tryz.zeroValue25;have A0:Aside (n=xs.length/\m=ys.length):=⟨hn,hm⟩
 clear hn hm
 go_enter Tryz.func150,Tryz.ntmps150
 go_wp2
 go_loopg [11] n (λg s11 wr=>∃ k q:Nat,k<=n/\k<=m/\n-k<=g/\s11=.int .i64 k/\wr=w.drewN q/\Aside (vz (xs.drop k) (ys.drop k)=vz xs ys))
 case atStart=>exact ⟨0,0,Nat.zero_le _,Nat.zero_le _,by omega,rfl,rfl,rfl⟩
 case round =>
  obtain ⟨k,q,hk,hkm,hg,rfl,rfl,A⟩:=hrel;by_cases hlt:k<n
  .by_cases hlm:k<m
   .obtain ⟨b1,o1,rfl,hc1⟩:=H1.out.resolve_left (by omega);obtain ⟨b2,o2,rfl,hc2⟩:=H2.out.resolve_left (by omega)
    clear H1 H2
    have g1:w.cell? ⟨b1,o1+k,none⟩=some (.int .i64 xs[k]!):=hc1 k hlt;have g2:w.cell? ⟨b2,o2+k,none⟩=some (.int .i64 ys[k]!):=hc2 k hlm
    clear hc1 hc2
    generalize hxk:xs[k]! = x at g1
    generalize hyk:ys[k]! = y at g2
    have B:Aside (xs[k]! = x/\ys[k]! = y):=⟨hxk,hyk⟩
    clear hxk hyk
    obtain ⟨r,C,hcon⟩:∃ r,Aside (r = -1/\x<y\/r=1/\y<x\/r=0/\x=y)/\∀ w,Calls Tryz.prog 216 #[.int .i64 x,.int .i64 y] w λe w'=>e=.returned (.int .i64 r)/\w'=w :=
     ⟨Lib.compareInt x y,(show Aside _ from by
      unfold Aside Lib.compareInt;by_cases c1:x<y
      .rw [if_pos c1];exact .inl ⟨rfl,c1⟩
      .rw [if_neg c1];by_cases c2:y<x
       .simp [c2]
       .have:x=y:=by omega
        simp [this]),λw=>zkm x y w⟩
    have D:=znt (A0.out.1 ▸ hlt) (A0.out.2 ▸ hlm) B.out.1 B.out.2;have D':Aside (vz (xs.drop k) (ys.drop k)=if x<y then -1 else if y<x then 1 else vz (xs.drop (k+1)) (ys.drop (k+1))):=D
    clear D
    by_cases hr:r=0
    .subst hr
     go_wp2_with (go_at_call 216;refine (hcon _).mono ?_;rintro e w' ⟨rfl,hw⟩;rw [hw])
     go_roundg (n-(k+1))
     case measure=>omega
     case rel =>
      refine ⟨k+1,q,by omega,by omega,by omega,by go_num,rfl,(show Aside _ from ?_)⟩;rcases C.out with ⟨c,_⟩ | ⟨c,_⟩ | ⟨_,rfl⟩
      .omega
      .omega
      .have:=D'.out;rw [if_neg (by omega),if_neg (by omega)] at this;exact this.symm.trans A.out
    .go_wp2_with (go_at_call 216;refine (hcon _).mono ?_;rintro e w' ⟨rfl,hw⟩;rw [hw])
     go_ret
     refine ⟨?_,q,rfl⟩;rw [<- A.out,D'.out];rcases C.out with ⟨rfl,c⟩ | ⟨rfl,c⟩ | ⟨c,_⟩
     .rw [if_pos c];rfl
     .rw [if_neg (show ¬ x<y by omega),if_pos c];rfl
     .exact absurd c hr
   .have D:Aside (vz (xs.drop k) (ys.drop k)=1):=znv (A0.out.1 ▸ hlt) (by have:=A0.out.2;omega);obtain ⟨b1,o1,rfl,hc1⟩:=H1.out.resolve_left (by omega)
    clear H1 H2
    have g1:w.cell? ⟨b1,o1+k,none⟩=some (.int .i64 xs[k]!):=hc1 k hlt
    clear hc1
    generalize hxk:xs[k]! = x at g1
    have hmk:m<=k:=by omega
    go_wp2
    go_ret
    refine ⟨?_,q,rfl⟩;rw [<- A.out,D.out];rfl
  .have hkn:k=n:=by omega
   have D:Aside (vz (xs.drop k) (ys.drop k)=if ys.length<=k then 0 else -1):=znu (by have:=A0.out.1;omega)
   clear H1 H2
   by_cases hlm:k<m
   .have D':Aside (vz (xs.drop k) (ys.drop k) = -1):=D.out.trans (if_neg (by have:=A0.out.2;omega))
    go_wp2
    go_ret
    refine ⟨?_,q,rfl⟩;rw [<- A.out,D'.out];rfl
   .have D':Aside (vz (xs.drop k) (ys.drop k)=0):=D.out.trans (if_pos (by have:=A0.out.2;omega))
    go_wp2
    go_ret
    refine ⟨?_,q,rfl⟩;rw [<- A.out,D'.out];rfl
end Go.Proofs
namespace Go.Proofs
theorem pU (x:Int) (xs:List Int) (y:Int) (ys:List Int):vz (x::xs) (y::ys)=if x<y then -1 else if y<x then 1 else vz xs ys:=by rw [vz]
theorem dU:∀ a b:List Int,vz b a = - vz a b
 | [],[]=>by rw [vz];rfl
 | [],_::_=>by rw [vz,vz];rfl
 | _::_,[]=>by rw [vz,vz]
 | x::xs,y::ys=>by
  rw [pU,pU,dU xs ys];by_cases h:x<y
  .simp only [if_pos h,if_neg (show ¬ y<x by omega)];rfl
  .rw [if_neg h];by_cases g:y<x
   .simp only [if_pos g,if_neg h]
   .simp only [if_neg g,if_neg h]
theorem pT:∀ {a b:List Int},vz a b=0->a=b
 | [],[],_=>rfl
 | [],_::_,h=>by rw [vz] at h;omega
 | _::_,[],h=>by rw [vz] at h;omega
 | x::xs,y::ys,h=>by
  rw [pU] at h;by_cases c:x<y
  .rw [if_pos c] at h;omega
  .rw [if_neg c] at h;by_cases g:y<x
   .rw [if_pos g] at h;omega
   .rw [if_neg g] at h;rw [pT h,show x=y by omega]
theorem cR (a:List Int):vz a a=0:=by have:=dU a a;omega
theorem xK:∀ {a b c:List Int},vz a b<=0->vz b c<=0->vz a c<=0
 | [],_,[],_,_=>by rw [vz];omega
 | [],_,_::_,_,_=>by rw [vz];omega
 | _::_,[],_,h,_=>by rw [vz] at h;omega
 | x::xs,y::ys,[],_,h=>by rw [vz] at h;omega
 | x::xs,y::ys,z::zs,h,g=>by
  rw [pU] at h g ⊢;by_cases c1:x<y
  .by_cases c2:y<z
   .rw [if_pos (by omega)];omega
   .rw [if_neg c2] at g;by_cases c3:z<y
    .rw [if_pos c3] at g;omega
    .rw [if_pos (by omega)];omega
  .rw [if_neg c1] at h;by_cases c4:y<x
   .rw [if_pos c4] at h;omega
   .rw [if_neg c4] at h;by_cases c2:y<z
    .rw [if_pos (by omega)];omega
    .rw [if_neg c2] at g;by_cases c3:z<y
     .rw [if_pos c3] at g;omega
     .rw [if_neg c3] at g;rw [if_neg (by omega),if_neg (by omega)];exact xK h g
theorem xJ {a b c:List Int} (h:vz a b<0) (g:vz b c<0):vz a c<0:=by
 have:=xK (Int.le_of_lt h) (Int.le_of_lt g);by_cases e:vz a c=0
 .have:=pT e;subst this;have:=dU a b;omega
 .omega
end Go.Proofs
namespace Go.Ev
open Go Go.Proofs Go.RowKit
def fD:List AV->Option (List (List UInt8))
 | []=>some []
 | .str s::l=>match fD l with
  | some xs=>some (s::xs)
  | none=>none
 | _=>none
def zxt (l:List AV) (sep:List UInt8):Option AV:=match fD l with
 | some xs=>bif Nat.ble (Lib.join xs sep).length 100000 then some (.str (Lib.join xs sep)) else none
 | none=>none
def zxu (cap:Option Nat) (ln:Nat):Bool:=match cap with
 | some k=>Nat.ble ln k
 | none=>true
def zrx (v:AV) (sep:List UInt8) (h:T Blk):Option AV:=match v with
 | .sl id off ln cap esz=>match T.get .no id h with
  | .cells _ m t=>bif Nat.beq esz 1&&Nat.ble (off+ln) m&&Nat.ble ln 100000&&zxu cap ln then zxt (yR t off ln) sep else none
  | _=>none
 | .zb=>some (.str [])
 | _=>none
def zrm (f:Nat) (args:List AV) (h:T Blk):Option (AV×T Blk):=bif Nat.beq f 223 then (match args with
 | [v,.str sep]=>match zrx v sep h with
  | some v=>some (v,h)
  | none=>none
 | _=>none) else none
theorem zhw:∀ {l:List AV} {xs:List (List UInt8)},fD l=some xs->l=xs.map .str
 | [],xs,h=>by simp [fD] at h;subst h;rfl
 | x::l,xs,h=>by
  cases x <;> first | (simp [fD] at h;done) | skip
  simp only [fD] at h;cases hl:fD l with
  | none=>simp [hl] at h
  | some ys=>simp [hl] at h;subst h;simp [zhw hl]
theorem HR.below {P:Program} {B:Nat} {E:Env} {h:T Blk} {y:Pa} {w w':World} (H:HR P B E h y w) (hb:Below w.heap.size w w'):HR P B E h y w'/\Ex E E w w':=by
 refine ⟨{
  blk:=λid hid=>by
   obtain ⟨b,n,o,q1,q2,q3⟩:=H.blk id hid;exact ⟨b,n,o,q1,by rw [hb.block b (H.lt _ _ _ q1).2];exact q2,q3⟩
  inj:=H.inj
  fresh:=H.fresh
  lt:=λid b n hid=>⟨(H.lt id b n hid).1,Zdc (H.lt id b n hid).2 hb.size⟩
  base:=Zbe H.base hb.size
  frz:=λb i v hf=>by
   obtain ⟨⟨c,ty,fr,q1,q2⟩,q3⟩:=H.frz b i v hf;exact ⟨⟨c,ty,fr,by rw [hb.block b (Zgy.1 q1).1];exact q1,q2⟩,q3⟩ },?_⟩
 exact ⟨.refl _,hb.os,hb.tape,hb.output,hb.size,λb hlt _=>hb.block b hlt,λid b n hid=>.inr ⟨id,n,hid⟩,λ_ _ v h=>.inr (.inl ⟨v,h⟩),λb L hL=>⟨L,by rw [hb.block b (Zgy.1 hL).1];exact hL,.refl _⟩⟩
theorem zro {B:Nat}:JOk Tryz.prog B zrm:=by
 intro E h y w f args vs v h2 H hv hj;unfold zrm at hj;cases hf:Nat.beq f 223 with
 | false=>simp [hf] at hj
 | true =>
  obtain rfl:=yM hf;rw [hf,cond_true] at hj;split at hj
  case h_2=>cases hj
  rename_i _ x sep;cases hjj:zrx x sep h with
  | none=>simp [hjj] at hj
  | some v0 =>
  simp only [hjj,Option.some.injEq,Prod.mk.injEq] at hj;obtain ⟨rfl,rfl⟩:=hj;have hj:=hjj
  clear hjj
  refine ⟨(),trivial,trivial,trivial,λn=>.inl ⟨_,Tryz.func223,by kernel_rfl,by kernel_rfl,callsIn_wide.2 ?_⟩⟩;obtain ⟨l⟩:=vs;simp only [VRL] at hv;obtain ⟨u,_,rfl,hu,s,_,rfl,hs,rfl⟩:=hv;simp only [VR] at hs;subst hs
  have fin:∀ (xs:List (List UInt8)) (w':World) (e:Ending),v0=.str (Lib.join xs sep)->e=.returned (.string ⟨(Lib.join ((xs.map λs=>(⟨s.toArray⟩:ByteArray)).map (·.data.toList)) (⟨sep.toArray⟩:ByteArray).data.toList).toArray⟩)->Below w.heap.size w w' ->
    ∃ u E',e=.returned u/\VR E' v0 u/\HR Tryz.prog B E' h y w'/\Ex E E' w w':=by
   intro xs w' e hve he hb;obtain ⟨h1,h2⟩:=H.below hb;refine ⟨_,E,he,?_,h1,h2⟩;rw [hve];simp only [VR,Zfe]
   congr 2
   have:(xs.map ((λx=>x.data.toList) ∘ λs=>(⟨s.toArray⟩:ByteArray)))=xs:=by
    conv=>rhs;rw [<- List.map_id xs]
    exact Zdg λ_ _=>rfl
   rw [this]
  unfold zrx at hj;split at hj
  .rename_i id off ln cap esz;split at hj
   .rename_i op m t hb;cases hq:(Nat.beq esz 1&&Nat.ble (off+ln) m&&Nat.ble ln 100000&&zxu cap ln) with
    | false=>simp [hq] at hj
    | true =>
     rw [hq,cond_true] at hj;simp only [Zap] at hq;obtain ⟨⟨⟨q1,q2⟩,q3⟩,q4⟩:=hq;obtain rfl:=yM q1;have q2:=yG q2;have q3:=yG q3;unfold zxt at hj;cases hx:fD (yR t off ln) with
     | none=>simp [hx] at hj
     | some xs =>
      simp only [hx] at hj;cases hl:Nat.ble (Lib.join xs sep).length 100000 with
      | false=>simp [hl] at hj
      | true =>
       rw [hl,cond_true] at hj;have hl:=yG hl;obtain rfl:=(Option.some.inj hj).symm;have hxs:=zhw hx;have hln:xs.length=ln:=by
        have:=congrArg List.length hxs;simpa using this.symm
       obtain ⟨b,n,c,hE,rfl,hcap⟩:=hu.si;obtain ⟨b',n',o,h1,h2,h3⟩:=H.blk id (by rw [hb];intro e;cases e);rw [hE] at h1;cases h1;rw [hb] at h3;obtain ⟨cs,ty,fr,rfl,_,_,_,_,hc⟩:=h3
       have hjn:=Tryz.strings_Join b off c (xs.map λs=>(⟨s.toArray⟩:ByteArray)) ⟨sep.toArray⟩ w (by
        intro j x hx2;rw [Zgw] at hx2;cases hxj:xs[j]? with
        | none=>simp [hxj] at hx2
        | some s =>
         simp [hxj] at hx2;subst hx2;have hjl:j<ln:=by rw [<- hln];exact (Zgv.1 hxj).1
         obtain ⟨_,v',g1,g2⟩:=hc (off+j) (by omega);have he:T.get .u (.of (off+j)) t=.str s:=by
          have e1:=yF t off ln j hjl;rw [hxs] at e1;simp [hxj] at e1;exact e1.symm
         rw [he] at g2;simp only [VR] at g2;subst g2
         simp [World.cell?,h2,g1]) (H.lt _ _ _ hE).2 (by simp;omega) (by
          simp only [Zae,hln];cases cap with
          | none=>exact hcap.1
          | some k =>
           have h4:ln<=k:=yG q4;have h5:c=k:=hcap;omega) (by
          have:((xs.map λs=>(⟨s.toArray⟩:ByteArray)).map (·.data.toList))=xs:=by
           rw [Zfe]
           conv=>rhs;rw [<- List.map_id xs]
           exact Zdg λ_ _=>rfl
          rw [this];show (Lib.join xs sep).length<=_;omega)
       rw [Zae,hln] at hjn;exact hjn.mono λe w' ⟨he,hb⟩=>fin xs w' e rfl he hb
   .cases hj
  .obtain rfl:=(Option.some.inj hj).symm;simp only [VR] at hu;subst hu;exact (Tryz.strings_Join_none none 0 _ w).mono λe w' ⟨he,hb⟩=>fin [] w' e rfl he (hb ▸ Below.refl _ _)
  .cases hj
end Go.Ev
namespace Go.Ev
open Go Go.Proofs Go.RowKit Go.Sort
def dZ:List AV->Option (List Int)
 | []=>some []
 | .int k n::l=>match k with
  | .i64=>match dZ l with
   | some xs=>some (n::xs)
   | none=>none
  | _=>none
 | _=>none
theorem zhx:∀ {l:List AV} {xs:List Int},dZ l=some xs->l=xs.map I
 | [],xs,h=>by simp [dZ] at h;subst h;rfl
 | x::l,xs,h=>by
  cases x <;> first | (simp [dZ] at h;done) | skip
  rename_i k n;cases k <;> first | (simp [dZ] at h;done) | skip
  simp only [dZ] at h;cases hl:dZ l with
  | none=>simp [hl] at h
  | some ys=>simp [hl] at h;subst h;simp [zhx hl]
theorem znw (l:List Int):dZ (l.map I)=some l:=by
 induction l with
 | nil=>rfl
 | cons a l ih=>show (match dZ (l.map I) with | some xs=>some (a::xs) | none=>none)=_;rw [ih]
def zdr (v:AV) (h:T Blk):Option (T Blk):=match v with
 | .sl id off ln _ esz=>match T.get .no id h with
  | .cells op m t=>bif Nat.beq esz 1&&Nat.ble (off+ln) m&&Nat.ble ln 1000000 then (match dZ (yR t off ln) with
   | some l=>some (T.set .no (.cells op m (jN ((srt l).map I) t off)) id h)
   | none=>none) else none
  | _=>none
 | .zb=>some h
 | _=>none
def zry (f:Nat) (args:List AV) (h:T Blk):Option (AV×T Blk):=bif Nat.beq f 64 then (match args with
 | [v]=>match zdr v h with
  | some h=>some (.tup [],h)
  | none=>none
 | _=>none) else none
theorem HR.sorted {P:Program} {B:Nat} {E:Env} {h:T Blk} {y:Pa} {w:World} (H:HR P B E h y w) {id:Pa} {op:Bool} {m off b n k:Nat} {t:T AV} {l l':List Int} {os:Array Obj} (hb:T.get .no id h=.cells op m t) (hE:E id=some (b,n))
  (hl':l'.length=l.length) (hm:off+l.length<=m) :
  HR P B E (T.set .no (.cells op m (jN (l'.map I) t off)) id h) y (grow (putRow (Value.int .i64) (Sort.ahead w k) b off l'.toArray) os)/\Ex E E w (grow (putRow (Value.int .i64) (Sort.ahead w k) b off l'.toArray) os):=by
 have hid:T.get .no id h≠.no:=by rw [hb];intro e;cases e
 obtain ⟨b',n',o,h1,h2,h3⟩:=H.blk id hid;rw [hE] at h1;cases h1;rw [hb] at h3;obtain ⟨c,ty,fr,rfl,q1,q2,q3,q4,q5⟩:=h3;have hcs:(putCells (Value.int .i64) off l'.toArray c).size=c.size:=by simp [putCells]
 have hbr:BR P E n (.cells op m (jN (l'.map I) t off)) (.cells (putCells (Value.int .i64) off l'.toArray c) ty fr):=by
  refine ⟨_,ty,fr,rfl,by rw [hcs];exact q1,by rw [hcs];exact q2,q3,q4,λi hi => ?_⟩;rw [uB];have hic:i<c.size:=by omega
  have hce:(putCells (Value.int .i64) off l'.toArray c)[i]? = some (if off<=i/\i<off+l'.length then Value.int .i64 (l'.toArray[i-off]!) else c[i]):=by
   simp [putCells,Zhd hic]
  rw [Zae];by_cases hr:off<=i/\i<off+l'.length
  .rw [if_pos hr];rw [if_pos hr] at hce;have hj:i-off<l'.length:=by omega
   have e1:(l'.map I).getD (i-off) .u=I l'[i-off]:=by
    rw [Zaa,Zgw,Zgu hj];rfl
   have e2:l'.toArray[i-off]! = l'[i-off]:=by simp [getElem!_pos,hj]
   rw [e1];exact ⟨rfl,_,hce,by rw [e2];simp only [VR]⟩
  .rw [if_neg hr];rw [if_neg hr] at hce;obtain ⟨r1,v,r2,r3⟩:=q5 i hi;rw [Zhd hic] at r2;exact ⟨r1,_,hce,by rw [Option.some.inj r2];exact r3⟩
 have H1:=H.put hid hE hbr;have X1:Ex E E w (w.putObj b (.cells (putCells (Value.int .i64) off l'.toArray c) ty fr)):=Ex.put hE h2 λL hL=>by cases hL
 have hbl:b<w.heap.size:=(Zgy.1 h2).1;have hBel:Below (w.putObj b (.cells (putCells (Value.int .i64) off l'.toArray c) ty fr)).heap.size (w.putObj b (.cells (putCells (Value.int .i64) off l'.toArray c) ty fr)) (grow (putRow (Value.int .i64) (Sort.ahead w k) b off l'.toArray) os):=by
  refine ⟨rfl,rfl,rfl,?_,λj hj => ?_⟩
  .rw [World.putObj_size];simp [grow,putRow,mapBlock,Sort.ahead]
  .rw [World.putObj_size] at hj;have e1:(grow (putRow (Value.int .i64) (Sort.ahead w k) b off l'.toArray) os).heap[j]? = (w.heap.modify b (onCells (putCells (Value.int .i64) off l'.toArray)))[j]? := by
    show (w.heap.modify b (onCells (putCells (Value.int .i64) off l'.toArray))++os)[j]? = _;rw [Array.getElem?_append_left (by simpa using hj)]
   rw [e1,Zhp];by_cases e:b=j
   .subst e;rw [if_pos rfl,h2,uK _ hbl];rfl
   .rw [if_neg e,yP _ (λq=>e q.symm)]
 obtain ⟨r1,r2⟩:=H1.below hBel;exact ⟨r1,X1.trans r2⟩
theorem zrz {B:Nat} (law:∀ (blk off cap:Nat) (zs:List Int) (w:World),Holds (Value.int .i64) w blk off zs.toArray->blk<w.heap.size->zs.length<4611686018427387904 ->
   Go.Calls Tryz.prog 64 #[.slice (some ⟨blk,off,none⟩) zs.length cap] w λe w'=>e=.returned (.tuple #[])/\∃ n os,w'=grow (putRow (Value.int .i64) (Sort.ahead w n) blk off (zs.mergeSort λx y=>decide (x<=y)).toArray) os)
  (law0:∀ (p:Option Addr) (cap:Nat) (w:World),Go.Calls Tryz.prog 64 #[.slice p 0 cap] w λe w'=>e=.returned (.tuple #[])/\w'=w):JOk Tryz.prog B zry:=by
 intro E h s w f args vs v h2 H hv hj;unfold zry at hj;cases hf:Nat.beq f 64 with
 | false=>simp [hf] at hj
 | true =>
  obtain rfl:=yM hf;rw [hf,cond_true] at hj;split at hj
  case h_2=>cases hj
  rename_i _ x;cases hjj:zdr x h with
  | none=>simp [hjj] at hj
  | some hs =>
  simp only [hjj,Option.some.injEq,Prod.mk.injEq] at hj;obtain ⟨rfl,rfl⟩:=hj;refine ⟨(),trivial,trivial,trivial,λn=>.inl ⟨_,Tryz.func64,by kernel_rfl,by kernel_rfl,callsIn_wide.2 ?_⟩⟩;obtain ⟨l⟩:=vs;simp only [VRL] at hv;obtain ⟨u,_,rfl,hu,rfl⟩:=hv;unfold zdr at hjj;split at hjj
  .rename_i id off ln cap esz;split at hjj
   .rename_i op m t hb;cases hq:(Nat.beq esz 1&&Nat.ble (off+ln) m&&Nat.ble ln 1000000) with
    | false=>simp [hq] at hjj
    | true =>
     rw [hq,cond_true] at hjj;simp only [Zap] at hq;obtain ⟨⟨q1,q2⟩,q3⟩:=hq;obtain rfl:=yM q1;have q2:=yG q2;have q3:=yG q3;cases hx:dZ (yR t off ln) with
     | none=>simp [hx] at hjj
     | some xs =>
      simp only [hx,Option.some.injEq] at hjj;subst hjj;have hxs:=zhx hx;have hln:xs.length=ln:=by
       have:=congrArg List.length hxs;simpa using this.symm
      obtain ⟨b,n,c,hE,rfl,hcap⟩:=hu.si;obtain ⟨b',n',o,h1,h2,h3⟩:=H.blk id (by rw [hb];intro e;cases e);rw [hE] at h1;cases h1;rw [hb] at h3;obtain ⟨cs,ty,fr,rfl,g1,g2,g3,g4,hc⟩:=h3;have hH:Holds (Value.int .i64) w b off xs.toArray:=by
       intro j hj;have hj:j<xs.length:=by simpa using hj
       obtain ⟨_,v',k1,k2⟩:=hc (off+j) (by omega);have he:T.get .u (.of (off+j)) t=I xs[j]:=by
        have e1:=yF t off ln j (by omega);rw [hxs,Zgw,Zgu hj] at e1;exact (Option.some.inj e1).symm
       rw [he] at k2;simp only [VR] at k2;subst k2;have e2:xs.toArray[j]! = xs[j]:=by simp [getElem!_pos,hj]
       rw [e2];refine ⟨by simp [World.cell?,h2,k1],?_⟩;have:=g1 (off+j) (Zgy.1 k1).1;simp only [World.frozen?,h2];obtain ⟨lo,hi⟩:=fr;simp only [Bool.and_eq_false_iff,decide_eq_false_iff_not];simp only at this;omega
      rw [<- hln];refine (law b off c xs w hH (H.lt _ _ _ hE).2 (by omega)).mono ?_;rintro e w' ⟨rfl,k,os,rfl⟩;have hp:(srt xs).length=xs.length:=(qG xs).length_eq;obtain ⟨r1,r2⟩:=H.sorted (off:=off) (l:=xs) (l':=srt xs) (k:=k) (os:=os) hb hE hp (by omega);exact ⟨_,E,rfl,by simp only [VR,VRL];exact ⟨_,rfl,rfl⟩,r1,r2⟩
   .cases hjj
  .obtain rfl:=(Option.some.inj hjj).symm;simp only [VR] at hu;subst hu;refine (law0 none 0 w).mono ?_;rintro e w' ⟨rfl,rfl⟩;exact ⟨_,E,rfl,by simp only [VR,VRL];exact ⟨_,rfl,rfl⟩,H,.refl _ _⟩
  .cases hjj
end Go.Ev
namespace Go.Ev
open Go.Proofs
def shr (lines:List (List Int)) (f:List Nat):List Int:=lines.map λl=>((con 0 f l:Nat):Int)
end Go.Ev
namespace Go.Ev
open Go Go.Proofs
variable {B:Nat}
theorem zr0 {k:IntKind} {x:Nat} {K:AV->OP}:wW .u8 (.int k (x:Int)) K=K (u8 (x%256)):=by
 show wu (kK .u8 (x:Int)) (λz=>K (.int .u8 z))=_;rw [uE,qE,IntKind.wrap_u8];have:u8 (x%256)=.int .u8 ((x:Int)%256):=by unfold u8;congr 1
 rw [this]
theorem zva {h0 h:T Blk} {y:Pa} {L:List Ob} {o:Option Pa} {n k:Nat} {l l':List AV} (H:Hp h0 h y L) (hk:L[k]? = some (.gro o 1 n l)) (hl:l'.length=l.length) (hs:l'.all gy=true) (hf:∀ (i:Nat) (v v':AV),l[i]? = some v->l'[i]? = some v'->sj h0 h v v'):sj h0 h (uf o 1 n) (.lst 1 n l'):=by
 have own:=H.own _ (Zad hk);have hoff:=H.off;cases o with
 | none =>
  obtain ⟨rfl,rfl⟩:=own;obtain rfl:l'=[]:=by simpa using hl
  exact .oQ 1
 | some id =>
  obtain ⟨t,h1,h2,h3⟩:=own;refine .sl _ _ _ _ _ true _ t _ (hoff id (Zby.2 ⟨_,Zad hk,by simp [Ob.names]⟩)) trivial h1 (by omega) (by rw [hl];exact h2) hs λi v hi => ?_;have hil:i<l.length:=by rw [<- hl];exact (Zgv.1 hi).1
  have:=yF t 0 (n*1) i (by rw [<- h2];exact hil);rw [h3,Zgu hil] at this;rw [<- Option.some.inj this];exact hf i _ _ (Zgu hil) hi
def zbz (ns:List Pa) (h:T Blk):T Blk:=ns.foldl (λh n=>T.set .no .no n h) h
theorem zb0:∀ (ns:List Pa) (h:T Blk) (j:Pa),(j∈ns\/T.get .no j h=.no)->T.get .no j (zbz ns h)=.no
  | [],h,j,q=>by rcases q with q | q;· simp at q
                 . exact q
  | n::ns,h,j,q=>by
    show T.get .no j (zbz ns (T.set .no .no n h))=_;refine zb0 ns _ j ?_;by_cases e:j=n
    . subst e;exact .inr (T.get_set_same _ _ _ _)
    . rcases q with q | q
      . rcases Zaq.1 q with q | q
        . exact absurd q e
        . exact .inl q
      . exact .inr (by rw [T.zk _ _ _ _ _ e];exact q)
theorem zds:∀ (ns:List Pa) (h:T Blk) (j:Pa),j∉ns->T.get .no j (zbz ns h)=T.get .no j h
 | [],_,_,_=>rfl
 | n::ns,h,j,q=>by
  show T.get .no j (zbz ns (T.set .no .no n h))=_;rw [zds ns _ j λr=>q (Zam _ r),T.zk _ _ _ _ _ λe=>q (by rw [e];exact Zai ..)]
theorem pH (b:Bool) (e:Int):Pure Tryz.prog B 60 [.bool b,I e] (· = I (if b then e else 0)):=by
 intro p h y K hK;refine zL zR wm 9 λhf => ?_;rw [F60.go];cases b <;> simp (disch:=omega) only [jg,xg,nk,qf,qj,yu,rq,kg,bq,zT,zW,zD,zC,yN,yJ,yU,yY,jB,yZ,jC,jW,jP,jK,jO,zS,yL,yH,zF,decide_true,decide_false,Zah,Zal,jL] <;> exact hK _ rfl hf
theorem zb1 {l:List Int} (hl:l.length<=1000000):Pure Tryz.prog B 27 [encI l] (· = I (uT l)):=by
 intro p h y K hK;refine zL zR wm 10000000 λhf => ?_;rw [F27.go];simp (disch:=omega) only [jg,xg,nk,qf,qj,yu,rq,kg,bq,zT,zW,zD,zC,yN,yJ,yU,yY,jB,yZ,jC,jW,jP,jK,jO,zS,yL,yH,zF,decide_true,decide_false,Zah,Zal,jL];refine F27.L1 (λm z5 h' y'=>∃ i:Nat,z5=I i/\l.length-i=m/\i<=l.length/\h'=h/\y'=y/\∀ e∈l.take i,e=0) (m:=l.length) (by omega) ⟨0,rfl,rfl,by omega,rfl,rfl,by simp⟩ ?_;rintro m z1 z2 z5 z6 z7 _ _ R ⟨i,rfl,rfl,hi,rfl,rfl,htk⟩ hR;simp (disch:=omega) only [jg,xg,nk,qf,qj,yu,rq,kg,bq,zT,zW,zD,zC,yN,yJ,yU,yY,jB,yZ,jC,jW,jP,jK,jO,zS,yL,yH,zF,decide_true,decide_false,Zah,Zal,jL];by_cases hlt:i<l.length
 .simp only [show (i:Int)<(l.length:Int) by omega,decide_true,zD];have hx:l[i]? = some l[i]:=Zgu hlt;rw [xu rfl hlt,ldL (rH hx)];simp (disch:=omega) only [jg,xg,nk,qf,qj,yu,rq,kg,bq,zT,zW,zD,zC,yN,yJ,yU,yY,jB,yZ,jC,jW,jP,jK,jO,zS,yL,yH,zF,decide_true,decide_false,Zah,Zal,jL];have hd:l.drop i=l[i]::l.drop (i+1):=Zav hlt;by_cases h0:l[i]=0
  .simp only [h0,decide_true,Zah,zC];refine hR _ _ _ _ _ _ _ _ (by omega) ⟨i+1,rfl,rfl,by omega,rfl,rfl,λe he => ?_⟩;rw [Zar,hx] at he;rcases Zbb.1 he with q | q
   .exact htk e q
   .simp at q;rw [q];exact h0
  .simp only [h0,decide_false,Zal,zD];refine hK _ ?_ hf;rw [qK l i htk,hd,uT,if_pos h0]
 .simp only [show ¬ (i:Int)<(l.length:Int) by omega,decide_false,zC];obtain rfl:i=l.length:=by omega
  rw [F27.k8];refine hK _ ?_ hf;have:=qK l l.length htk;rw [this,List.drop_length];rfl
theorem zr1 (n:Int):Pure Tryz.prog B 59 [I n] (· = I (if n<0\/256<n then 3 else 0)):=by
 intro p h y K hK;refine zL zR wm 9 λhf => ?_;rw [F59.go];simp only [yu];by_cases c1:n<0
 .simp only [c1,decide_true,yU,zT];refine pH _ _ _ _ _ _ ?_;rintro _ rfl hf2;exact hK _ (by rw [if_pos (.inl c1)];rfl) hf2
 .simp only [c1,decide_false,yJ,kg,zW];refine pH _ _ _ _ _ _ ?_;rintro _ rfl hf2;refine hK _ ?_ hf2;by_cases c2:256<n
  .rw [if_pos (.inr c2),if_pos (Zac c2)]
  .rw [if_neg (by omega),if_neg (by simpa using c2)]
theorem zvb {l:List Int} (hl:l.length<=100000):Pure Tryz.prog B 121 [encI l] (· = I (uP l)):=by
 refine zV λh y K H0 hK=>zL zR wm 1000000 λhf => ?_;rw [ku.go];rw [zS];simp only [kg];by_cases c:(256:Int)<(l.length:Int)
 .simp only [c,decide_true,zD];exact hK _ _ _ _ _ H0 (zK rfl) (by rw [uP,if_pos (by omega)])
 have hpe:uP l=if cu l then 0 else 14:=by rw [uP,if_neg (by omega)]
 simp only [c,decide_false,zC];rw [zS];refine H0.mk1 l.length rfl rfl (by omega) (by decide) λtb h1 y1 H1 => ?_;rw [zS];have e0:List.replicate l.length (AV.bool false)=(eF l.length []).map AV.bool:=by simp [eF]
 rw [e0] at H1
 refine ku.L2 (λm x3 h' y'=>∃ i:Nat,x3=I i/\m=l.length-i/\i<=l.length/\(l.take i).Nodup/\(∀ x∈l.take i,0<=x/\x<(l.length:Int))/\Hp h h' y' [.arr tb ((eF l.length (l.take i)).map AV.bool)]) (m:=l.length) (by omega)
  ⟨0,rfl,by omega,by omega,by simp,by simp,by simpa using H1⟩ ?_
 rintro m z1 z3 z7 z8 z9 h2 y2 R ⟨i,rfl,rfl,hi,hnd,hrg,H2⟩ hR;simp only [yu];by_cases hlt:i<l.length
 case neg =>
  simp only [show ¬ (i:Int)<(l.length:Int) by omega,decide_false,zC];rw [ku.k10];rw [Zan (by omega)] at hnd hrg;exact hK _ _ _ _ _ H2 (zK rfl) (by rw [hpe,if_pos ⟨hnd,hrg⟩])
 simp only [show (i:Int)<(l.length:Int) by omega,decide_true,zD];have hx:l[i]? = some l[i]:=Zgu hlt;have bad:¬ cu l->K (I 14) h2 y2=.ok True:=λq=>hK _ _ _ _ _ H2 (zK rfl) (by rw [hpe,if_neg q]);have hrange:cu l->0<=l[i]/\l[i]<(l.length:Int):=λq=>q.2 _ (Zas hlt);rw [xu rfl hlt,ldL (rH hx)];by_cases c1:l[i]<0
 .simp only [yu,c1,decide_true,yU,zT,zD];exact bad λq=>by have:=hrange q;omega
 simp only [yu,c1,decide_false,yJ];rw [zS];simp only [bq,zW];by_cases c2:(l.length:Int)<=l[i]
 .simp only [c2,decide_true,yU,zT,zD];exact bad λq=>by have:=hrange q;omega
 simp only [c2,decide_false,yJ];have hk:(l[i]).toNat<l.length:=by omega
 have hg:((eF l.length (l.take i)).map AV.bool)[(l[i]).toNat]? = some (.bool (decide (l[i]∈l.take i))):=by
  rw [Zgw,zhv (λx hx=>(hrg x hx).1) hk,show (((l[i]).toNat:Nat):Int)=l[i] by omega];rfl
 rw [sIx (i:=(l[i]).toNat) (by omega) hk,H2.load (k:=0) rfl hg];simp only [zW];by_cases c3:l[i]∈l.take i
 .simp only [c3,decide_true,zD];refine bad λq => ?_;obtain ⟨j,hj⟩:=Zau.1 c3;have hjl:=(Zgv.1 hj).1;rw [Zaj] at hjl;rw [Zhb (by omega)] at hj;obtain ⟨a1,a2⟩:=Zgv.1 hj;exact Zca.1 q.1 j i a1 hlt (by omega) a2
 simp only [c3,decide_false,zC];rw [ku.k8,sIx (i:=(l[i]).toNat) (by omega) hk];refine H2.store (k:=0) rfl (by rw [Zae,fL];exact hk) rfl λh3 H3 => ?_;rw [ku.k9,jg (by omega)];have htk:l.take (i+1)=l.take i++[l[i]]:=by rw [Zar,hx];rfl
 refine hR _ _ _ _ _ _ _ _ (by omega) ⟨i+1,rfl,rfl,by omega,?_,?_,H3.cast ?_⟩
 .rw [htk];exact Zcf.2 ⟨hnd,by simp,λa ha b hb=>by simp at hb;subst hb;rintro rfl;exact c3 ha⟩
 .intro x hm;rw [htk] at hm;rcases Zbb.1 hm with q | q
  .exact hrg x q
  .simp at q;subst q;omega
 .rw [htk,zdq];simp [Zep]
theorem znx {l:List Int} (hl:l.length<=100000):Pure Tryz.prog B 61 [encI l] (· = .bool (decide (uP l=0))):=by
 intro p h y K hK;refine zL zR wm 100 λhf => ?_;rw [F61.go];refine zvb hl _ _ _ _ ?_;rintro _ rfl hf2;simp only [qf];exact hK _ rfl hf2
theorem zr2 {g:List Int} {c:Bool} {n:Int} (hl:g.length<=100000):Pure Tryz.prog B 29 [.agg [encI g,.bool c],I n] (· = I (gB g n)):=by
 refine zV λh y K H0 hK=>zL zR wm 1000 λhf => ?_;rw [F29.go];refine H0.box (l:=[encI g,.bool c]) rfl λbx h1 y1 H1 => ?_;rw [sFx,H1.load (k:=0) (i:=0+0) rfl rfl];simp only [zS,qj];rw [sFx,H1.load (k:=0) (i:=0+0) rfl rfl];refine zr1 n _ _ _ _ ?_;rintro _ rfl _;rw [H1.load (k:=0) (i:=0+0) rfl rfl];simp only [zF,sFx,qj,zS];rw [H1.load (k:=0) (i:=0+0) rfl rfl];simp only [zF];refine pH _ _ _ _ _ _ ?_;rintro _ rfl _;rw [H1.load (k:=0) (i:=0+0) rfl rfl];simp only [zF];refine znx hl _ _ _ _ ?_;rintro _ rfl _;simp only [jB];refine pH _ _ _ _ _ _ ?_;rintro _ rfl _;refine H1.qw (l:=[I (if n<0\/256<n then 3 else 0),I (if (!decide ((g.length:Int)=n))=true then 2 else 0),I (if (!decide (uP g=0))=true then 14 else 0)]) rfl λid h4 y4 H4 => ?_;refine q8 (l:=[if n<0\/256<n then 3 else 0,if (!decide ((g.length:Int)=n))=true then 2 else 0,if (!decide (uP g=0))=true then 14 else 0]) H4 (k:=0) rfl (λB=>zb1 (by simp)) (λv hv=>by rw [hv];exact .int _ _) ?_;rintro _ rfl;refine hK _ _ _ _ _ H4 (zK rfl) ?_
 congr 1
 rw [gB];by_cases c1:n<0\/256<n
 .rw [if_pos c1,if_pos c1];rfl
 rw [if_neg c1,if_neg c1];by_cases c2:(g.length:Int)=n
 case neg=>rw [if_pos (show (g.length:Int)≠n from c2),Zab c2];rfl
 rw [if_neg (show ¬ ((g.length:Int)≠n) from λq=>q c2),Zac c2];have:uP g=if cu g then 0 else 14:=by rw [uP,if_neg (by omega)]
 rw [this];by_cases c3:cu g
 .rw [if_pos c3];rfl
 .rw [if_neg c3];rfl
theorem zr3 {N:Pa->Prop} {O:AV->Prop} {hh:T Blk} {a b a' b':AV} (h1:Frz True N O hh a a') (h2:Frz True N O hh b b') (hs:([a',b']:List AV).all gy=true):Frz True N O hh (.agg [a,b]) (.agg [a',b']):=by
 refine .agg _ _ rfl hs λi v v' hi hi' => ?_
 match i with
 | 0=>simp at hi hi';subst hi;subst hi';exact h1
 | 1=>simp at hi hi';subst hi;subst hi';exact h2
 | i+2=>simp at hi
def keyN (a:Sym):List Nat:=a.1.map Int.toNat++(if a.2 then [1] else [])
def rW (a:Sym):List UInt8:=(keyN a).map UInt8.ofNat
def DS (n:Nat) (a:Sym):Prop:=a.1.length=n/\∀ x∈a.1,0<=x/\x<(n:Int)
theorem Hp.zlw {K:AV->T Blk->Pa->OP} {h0 h:T Blk} {g:Pa} {L:List Ob} {k n c bytes:Nat} {id:Pa} {l:List AV} {v x:AV} (H:Hp h0 h g L) (hk:L[k]? = some (.arr id l)) (hl:l.length=c) (hn:n<c) (hx:∀ (no:OP) (K':List AV->Nat->OP),dR x h no K'=K' [v] 1) (hs:Go.Ev.gy v=true) (hb:bytes*1000000<=70368744177664) (hc:c<=1000000)
  (hK:∀ h',Hp h0 h' g (L.set k (.arr id (l.set n v)))->K (.sl id 0 (n+1) (some c) 1) h' g=.ok True):tJ 1 bytes (.sl id 0 n (some c) 1) x h g K=.ok True:=by
 have hcc:(Nat.ble (bytes*1000000) 70368744177664&&Nat.beq [v].length (1*1)&&Nat.ble 1 1&&[v].all Go.Ev.gy)=true:=by
  rw [Zak hb];simp [hs]
 unfold tJ appA;rw [hx,hcc,cond_true];obtain ⟨op,t,h1,h2⟩:jr h id l:=H.own _ (Zad hk);show (bif Nat.beq 1 1&&Nat.ble (n+1) 1000000 then qb (T.get .no id h) _ (.no 35) else .no 36)=_;rw [h1,Zak (by omega)];show (bif Nat.ble (0+n*1) l.length then (bif Nat.ble (n+1) c then (bif Nat.ble (0+(n+1)*1) l.length then vN id 0 n (some c) 1 op l.length t [v] 1 h g K else .no 32) else xQ 0 n 1 t [v] 1 h g K) else .no 34)=_;rw [Zak (by omega),Zak (show n+1<=c by omega),Zak (by omega),cond_true,cond_true,cond_true];unfold vN;rw [jQ,T.jo,y4];refine hK _ (H.upd hk (by simp [Ob.names]) rfl ?_);have:=jr.set (v:=v) h1 h2 (show n<l.length by omega);rw [Zcn,Zbd];exact this
theorem zr4:∀ l:List Nat,b2sA (l.map u8)=some (l.map UInt8.ofNat)
 | []=>rfl
 | x::l=>by
  show (match b2sA (l.map u8) with
   | some s=>some (UInt8.ofNat ((x:Int)).toNat::s)
   | none=>none)=_
  rw [zr4 l];rfl
theorem Hp.b2s {h0 h:T Blk} {g:Pa} {L:List Ob} {k n:Nat} {id:Pa} {cap:Option Nat} {l:List AV} {y:List Nat} {op:AV->OP} (H:Hp h0 h g L) (hk:L[k]? = some (.arr id l)) (hn:n<=l.length) (hy:l.take n=y.map u8):sB2s (.sl id 0 n cap 1) h op=op (.str (y.map UInt8.ofNat)):=by
  obtain ⟨o,t,h1,h2⟩:jr h id l:=H.own _ (Zad hk);show qb (T.get .no id h) _ _=_;rw [h1]
  show (bif Nat.ble (0+n) l.length then (match b2sA (yR t 0 n) with
          | some s=>op (.str s)
          | none=>.no 21) else .no 21)=_
  have e:yR t 0 n=l.take n:=by
    refine Zbp λi => ?_;by_cases hi:i<n
    . rw [yF _ _ _ _ hi,Zhb hi]
      conv=>rhs;rw [<- h2]
      rw [yF _ _ _ _ (by omega)]
    . rw [Zgz (by simp;omega),Zgz (by simp;omega)]
  rw [Zak (by omega),cond_true,e,hy,zr4]
def padN (y:List Nat) (c:Nat):List AV:=y.map u8++List.replicate (c-y.length) (.int .u8 0)
theorem bE {y:List Nat} {c:Nat} (h:y.length<=c):(padN y c).length=c:=by simp [padN];omega
theorem zhy {y:List Nat} {c x:Nat} (h:y.length<c):(padN y c).set y.length (u8 x)=padN (y++[x]) c:=by
 rw [padN,padN,Zfx _ _ (by simp),Zae,Zcv,show c-y.length=(c-(y++[x]).length)+1 by simp;omega,Zex,Zff];simp
theorem zr5 {a:Sym} (ha:∀ x∈a.1,0<=x/\x<256) (hl:a.1.length<=1000):Pure Tryz.prog B 62 [encS a] (· = .str (rW a)):=by
 refine zV λh g K H0 hK=>zL zR wm 1000000 λhf => ?_;rw [F62.go];refine H0.box (l:=[encI a.1,.bool a.2]) rfl λba h1 g1 H1 => ?_;rw [sFx,H1.load (k:=0) (i:=0+0) rfl rfl,zS,jg (by omega)];refine H1.mkN (n:=0) (c:=a.1.length+1) rfl (by omega) (by omega) (by omega) (by omega) λtb h2 g2 H2 => ?_;rw [sFx,H2.load (k:=1) (i:=0+0) rfl rfl,zS];have e0:fe (a.1.length+1) [AV.int .u8 0]=padN [] (a.1.length+1):=by rw [zbk];rfl
 refine F62.L1 (λm x3 x7 h' g'=>∃ i:Nat,x7=I i/\x3=.sl tb 0 i (some (a.1.length+1)) 1/\a.1.length-i=m/\i<=a.1.length/\Hp h h' g' [.arr tb (padN ((a.1.take i).map Int.toNat) (a.1.length+1)),.arr ba [encI a.1,.bool a.2]]) (m:=a.1.length) (by omega) ⟨0,rfl,rfl,rfl,by omega,H2.cast (by rw [e0];rfl)⟩ ?_;rintro m z3 z4 z7 z8 h3 g3 R ⟨i,rfl,rfl,rfl,hi,H3⟩ hR;simp only [yu];have hlen:((a.1.take i).map Int.toNat).length=i:=by simp;omega
 by_cases hlt:i<a.1.length
 .simp only [show (i:Int)<(a.1.length:Int) by omega,decide_true,zD];have hx:a.1[i]? = some a.1[i]:=Zgu hlt;obtain ⟨q1,q2⟩:=ha _ (Zas hlt);obtain ⟨c,hc⟩:∃ c:Nat,a.1[i]=(c:Int):=⟨a.1[i].toNat,by omega⟩;rw [xu rfl hlt,ldL (rH hx),hc,zr0,Zbx (by omega)];refine H3.qw (l:=[u8 c]) rfl λt1 h4 g4 H4 => ?_;refine H4.zlw (k:=1) (n:=i) (v:=u8 c) rfl (bE (by omega)) (by omega) (jr.rd (l:=[u8 c]) (n:=1) (H4.own _ (Zai ..)) rfl) rfl (by decide) (by omega) λh5 H5 => ?_;rw [jg (by omega)];refine hR _ _ _ _ _ _ _ (by omega) ⟨i+1,rfl,rfl,rfl,by omega,H5.drop.cast ?_⟩;have e1:(a.1.take (i+1)).map Int.toNat=(a.1.take i).map Int.toNat++[c]:=by
   rw [Zar,hx,Zbi,hc];rfl
  have:=zhy (y:=(a.1.take i).map Int.toNat) (c:=a.1.length+1) (x:=c) (by omega);rw [hlen] at this;rw [e1,<- this];rfl
 .simp only [show ¬ (i:Int)<(a.1.length:Int) by omega,decide_false,zC];obtain rfl:i=a.1.length:=by omega
  rw [Zcs] at H3 hlen;rw [F62.k8,sFx,H3.load (k:=1) (i:=0+1) rfl rfl];cases h2:a.2 with
  | false =>
   simp only [zC];rw [H3.b2s (k:=0) (y:=a.1.map Int.toNat) rfl (by rw [bE (by omega)];omega) (by rw [padN,Zfb (by simp)])];exact hK _ _ _ _ _ H3 (zK rfl) (by rw [rW,keyN,h2];simp)
  | true =>
   simp only [zD];refine H3.qw (l:=[u8 1]) rfl λt1 h4 g4 H4 => ?_;refine H4.zlw (k:=1) (n:=a.1.length) (v:=u8 1) rfl (bE (by omega)) (by omega) (jr.rd (l:=[u8 1]) (n:=1) (H4.own _ (Zai ..)) rfl) rfl (by decide) (by omega) λh5 H5 => ?_;have:=zhy (y:=a.1.map Int.toNat) (c:=a.1.length+1) (x:=1) (by omega);rw [hlen] at this;have H6:=H5.drop;rw [this] at H6;rw [H6.b2s (k:=0) (y:=a.1.map Int.toNat++[1]) rfl (by rw [bE (by simp)];exact Zaf _) (by rw [padN,Zfb (by simp)])];exact hK _ _ _ _ _ H6 (zK rfl) (by rw [rW,keyN,h2];simp)
theorem zny (q:List Sym):(fM q).length=q.length*2:=by
 induction q with
 | nil=>rfl
 | cons a q ih=>rw [fM,Zcx,Zag,<- fM,ih];simp;omega
theorem zdu {C:Calls Prop} {esz bytes e n:Nat} {o:Option Pa} {x:AV} {h:T Blk} {y:Pa} {K:KW3}:zc4 C esz bytes (uf o e n) x h y K=tJ esz bytes (uf o e n) x h y K:=by cases o <;> exact nr rfl
end Go.Ev
set_option linter.unusedSectionVars false
namespace Go.Ev
section
variable {G:Type} [DecidableEq G] (mul:G->G->G) (e:G) (D:G->Prop)
variable {mul e D}
theorem subG:∀ (l r:List G),l.Nodup->(∀ x∈l,x∈r)->∃ s,r.Perm (l++s)
 | [],r,_,_=>⟨r,.refl _⟩
 | a::l,r,hn,hs=>by
  obtain ⟨h1,h2⟩:=Zcc.1 hn;have ha:=hs a (by simp);obtain ⟨s,hp⟩:=subG l (r.erase a) h2 λx hx=>(Zgb (by rintro rfl;exact h1 hx)).2 (hs x (by simp [hx]));exact ⟨s,(Zgc ha).trans (.cons a hp)⟩
theorem lenG {l r:List G} (h1:l.Nodup) (h2:∀ x∈l,x∈r):l.length<=r.length:=by
 obtain ⟨s,hs⟩:=subG l r h1 h2;rw [hs.length_eq,Zag];omega
end
end Go.Ev
set_option maxRecDepth 100000
namespace Go.Ev
open Go Go.Proofs Go.RowKit Go.Sort
def aM (h:T Blk) (id0:Pa) (a:AV) (l:List Int):Prop :=
 a=encI l\/∃ id off o op m t,id≠id0/\a=.sl id off l.length o 1/\T.get .no id h=.cells op m t/\off+l.length<=m/\yR t off l.length=l.map I
theorem aM.gy {h:T Blk} {id0:Pa} {a:AV} {l:List Int} (R:aM h id0 a l):gy a=true:=by
 rcases R with rfl | ⟨_,_,_,_,_,_,_,rfl,_⟩ <;> rfl
theorem aM.set {h:T Blk} {id0:Pa} {a:AV} {l:List Int} {b:Blk} (R:aM h id0 a l):aM (T.set .no b id0 h) id0 a l:=by
 rcases R with rfl | ⟨id,off,o,op,m,t,h1,h2,h3,h4,h5⟩
 .exact .inl rfl
 .exact .inr ⟨id,off,o,op,m,t,h1,h2,by rw [T.zk (h:=h1)];exact h3,h4,h5⟩
theorem aM.cells {P:Program} {B:Nat} {E:Env} {h:T Blk} {y:Pa} {w:World} {id0:Pa} {a:AV} {l:List Int} {v:Value} (H:HR P B E h y w) (R:aM h id0 a l) (hv:VR E a v) :
  ∃ p c,v=.slice p l.length c/\(l.length=0\/∃ b o,p=some ⟨b,o,none⟩/\∀ j,j<l.length->w.cell? ⟨b,o+j,none⟩=some (.int .i64 l[j]!)):=by
 rcases R with rfl | ⟨id,off,o,op,m,t,h1,rfl,h3,h4,h5⟩
 .obtain ⟨_,_,p,c,rfl,hh⟩:=hv.aP;refine ⟨p,c,rfl,?_⟩;rcases hh with h0 | ⟨b,off,rfl,_,hf⟩
  .exact .inl h0
  .refine .inr ⟨b,off,rfl,λj hj => ?_⟩;obtain ⟨v,hv1,hv2⟩:=VRF.get hf (i:=j) (a:=I l[j]) (by rw [Zgw,Zgu hj];rfl);simp only [VR] at hv2;subst hv2;obtain ⟨⟨c,ty,fr,q1,q2⟩,_⟩:=H.frz _ _ _ hv1;rw [getElem!_pos l j hj];simp [World.cell?,q1,q2]
 .obtain ⟨b,n,c,hE,rfl,hcap⟩:=hv.si;refine ⟨_,c,rfl,.inr ⟨b,off,rfl,λj hj => ?_⟩⟩;obtain ⟨b',n',ob,q1,q2,q3⟩:=H.blk id (by rw [h3];intro e;cases e);rw [hE] at q1;cases q1;rw [h3] at q3;obtain ⟨cs,ty,fr,rfl,g1,g2,g3,g4,hc⟩:=q3;obtain ⟨_,v',k1,k2⟩:=hc (off+j) (by omega);have he:T.get .u (.of (off+j)) t=I l[j]:=by
   have e1:=yF t off l.length j (by omega);rw [h5,Zgw,Zgu hj] at e1;exact (Option.some.inj e1).symm
  rw [he] at k2;simp only [VR] at k2;subst k2;rw [getElem!_pos l j hj];simp [World.cell?,q2,k1]
theorem qQ {β γ:Type} {f:β->γ}:∀ {l:List β},(l.map f).Nodup->∀ {a b:β},a∈l->b∈l->f a=f b->a=b
 | [],_,_,_,h,_,_=>by cases h
 | x::l,hn,a,b,ha,hb,e=>by
  rw [Zdh,Zcc] at hn;rcases Zaq.1 ha with ea | ha'
  .rcases Zaq.1 hb with eb | hb'
   .exact ea.trans eb.symm
   .exact (hn.1 (Zao.2 ⟨b,hb',(ea ▸ e).symm⟩)).elim
  .rcases Zaq.1 hb with eb | hb'
   .exact (hn.1 (Zao.2 ⟨a,ha',(eb ▸ e)⟩)).elim
   .exact qQ hn.2 ha' hb' e
end Go.Ev
namespace Go.Proofs
open Go.Shelf Go.Lib Go.RowKit Go.Sort
def rJ (a b:List Int×Bool):Int:=if vz a.1 b.1≠0\/a.2=b.2 then vz a.1 b.1 else if a.2 then 1 else -1
theorem drew_grow (w:World) (X Y:Obj) (q:Nat):((w.alloc X).alloc Y).drewN q=grow (w.drewN q) #[X,Y]:=by
 have e:(w.heap.push X).push Y=w.heap ++ #[X,Y]:=by apply Array.ext';simp
 unfold World.drewN World.alloc grow
 dsimp only
 rw [e]
theorem dC {w:World} {X:Obj} {a:Addr} {v:Value} (h:w.cell? a=some v):(w.alloc X).cell? a=some v:=by
 unfold World.cell? World.alloc at *
 cases e:w.heap[a.block]? with
 | none=>rw [e] at h;cases h
 | some o =>
  have hl:a.block<w.heap.size:=(Array.getElem?_eq_some_iff.1 e).1;have:(w.heap.push X)[a.block]? = w.heap[a.block]? := by rw [Array.getElem?_push,if_neg (by omega)]
  simp only [this,e] at *
  exact h
set_option maxRecDepth 100000 in
theorem zhz (p1 p2:Option Addr) (n c m d:Nat) (xs ys:List Int) (a b:Bool) (w:World) (hn:n=xs.length) (hm:m=ys.length) (hbig:n<=1000000) (hbig2:m<=1000000)
  (hc1:n=0\/∃ b1 o1,p1=some ⟨b1,o1,none⟩/\∀ j,j<n->w.cell? ⟨b1,o1+j,none⟩=some (.int .i64 xs[j]!)) (hc2:m=0\/∃ b2 o2,p2=some ⟨b2,o2,none⟩/\∀ j,j<m->w.cell? ⟨b2,o2+j,none⟩=some (.int .i64 ys[j]!)) :
  Calls Tryz.prog 97 #[.agg #[.slice p1 n c,.bool a],.agg #[.slice p2 m d,.bool b]] w λe w'=>e=.returned (.int .i64 (rJ (xs,a) (ys,b)))/\∃ q os',w'=grow (w.drewN q) os':=by
 have H1:Aside (n=0\/∃ b1 o1,p1=some ⟨b1,o1,none⟩/\∀ j,j<n->w.cell? ⟨b1,o1+j,none⟩=some (.int .i64 xs[j]!)):=hc1;have H2:Aside (m=0\/∃ b2 o2,p2=some ⟨b2,o2,none⟩/\∀ j,j<m->w.cell? ⟨b2,o2+j,none⟩=some (.int .i64 ys[j]!)):=hc2
 clear hc1 hc2
 have mixed:Tryz.prog.follows .mixedOrders=true:=by kernel_rfl
 have t0:=Tryz.underlying0;have a0:=Tryz.isAgg0;have z0:=Tryz.sizeOf0;have v0:=Tryz.zeroValue0;have t3:=Tryz.underlying3;have a3:=Tryz.isAgg3;have z3:=Tryz.sizeOf3;have v3:=Tryz.zeroValue3;have t4:=Tryz.underlying4;have a4:=Tryz.isAgg4;have z4:=Tryz.sizeOf4;have v4:=Tryz.zeroValue4;have t35:=Tryz.underlying25;have a35:=Tryz.isAgg25;have z35:=Tryz.sizeOf25;have v35:=Tryz.zeroValue25;have t112:=Tryz.underlying69;have a112:=Tryz.isAgg69;have z112:=Tryz.sizeOf69;have v112:=Tryz.zeroValue69;have S0:Aside (n=xs.length/\m=ys.length):=⟨hn,hm⟩
 have hcall:∃ r,Aside (vz xs ys=r)/\∀ X Y,Calls Tryz.prog 150 #[.slice p1 n c,.slice p2 m d] ((w.alloc X).alloc Y) λe w'=>e=.returned (.int .i64 r)/\∃ q,w'=((w.alloc X).alloc Y).drewN q :=
  ⟨vz xs ys,rfl,λX Y=>zkn p1 p2 n c m d xs ys _ hn hm hbig hbig2
   (H1.out.imp id λ⟨b1,o1,e,f⟩=>⟨b1,o1,e,λj hj=>dC (dC (f j hj))⟩)
   (H2.out.imp id λ⟨b1,o1,e,f⟩=>⟨b1,o1,e,λj hj=>dC (dC (f j hj))⟩)⟩
 obtain ⟨r,hr,hcall⟩:=hcall
 clear H1 H2
 have fin:∀ v:Int,Aside (v=if r≠0\/a=b then r else if a then 1 else -1)->Aside (v=rJ (xs,a) (ys,b)):=λv e=>by
  unfold Aside at *
  rw [e,<- hr];rfl
 clear hn hm hr
 by_cases h0:r=0
 .subst h0;have h0:(0:Int)=0:=rfl;cases a <;> cases b
  all_goals
   go_enter Tryz.func97,Tryz.ntmps97
   go_wp2_with (go_at_call 150;refine (hcall _ _).mono ?_;rintro e w' ⟨rfl,q,rfl⟩)
   all_goals (go_ret;exact ⟨congrArg (λv=>Ending.returned (.int .i64 v)) (fin _ (by unfold Aside;simp [h0])).out,q,_,drew_grow _ _ _ _⟩)
 .cases a <;> cases b
  all_goals
   go_enter Tryz.func97,Tryz.ntmps97
   go_wp2_with (go_at_call 150;refine (hcall _ _).mono ?_;rintro e w' ⟨rfl,q,rfl⟩)
   all_goals (go_ret;exact ⟨congrArg (λv=>Ending.returned (.int .i64 v)) (fin _ (by unfold Aside;simp [h0])).out,q,_,drew_grow _ _ _ _⟩)
end Go.Proofs
namespace Go.Proofs
theorem zdv {a b:List Int} (h:a≠b):vz a b≠0:=λe=>h (pT e)
theorem dT (a b:List Int×Bool):rJ a b=if a.1=b.1 then (if a.2=b.2 then 0 else if a.2 then 1 else -1) else vz a.1 b.1:=by
 unfold rJ;by_cases h:a.1=b.1
 .rw [if_pos h,h,cR];by_cases g:a.2=b.2
  .rw [if_pos (.inr g),if_pos g]
  .rw [if_neg (by simp [g]),if_neg g]
 .rw [if_neg h,if_pos (.inl (zdv h))]
theorem kN (a b:List Int×Bool):rJ b a = - rJ a b:=by
 rw [dT,dT];by_cases h:a.1=b.1
 .rw [if_pos h,if_pos h.symm];cases a.2 <;> cases b.2 <;> rfl
 .rw [if_neg h,if_neg (λe=>h e.symm)];exact dU _ _
theorem znz (a:List Int×Bool):rJ a a=0:=by rw [dT,if_pos rfl,if_pos rfl]
theorem zfp {a b:List Int×Bool} (e:rJ a b=0):a=b:=by
 rw [dT] at e;by_cases h:a.1=b.1
 .rw [if_pos h] at e;refine Prod.ext h ?_;by_cases g:a.2=b.2
  .exact g
  .rw [if_neg g] at e
   revert e;cases a.2 <;> simp
 .rw [if_neg h] at e;exact absurd e (zdv h)
theorem mC {a b c:List Int×Bool} (h1:rJ a b<0) (h2:rJ b c<0):rJ a c<0:=by
 rw [dT] at h1 h2 ⊢;by_cases e1:a.1=b.1
 .rw [if_pos e1] at h1;by_cases e2:b.1=c.1
  .rw [if_pos e2] at h2;rw [if_pos (e1.trans e2)]
   revert h1 h2
   cases a.2 <;> cases b.2 <;> cases c.2 <;> simp
  .rw [if_neg e2] at h2;rw [if_neg (λe=>e2 (e1.symm.trans e)),e1];exact h2
 .rw [if_neg e1] at h1;by_cases e2:b.1=c.1
  .rw [if_neg (λe=>e1 (e.trans e2.symm)),<- e2];exact h1
  .rw [if_neg e2] at h2;have:=xJ h1 h2;rw [if_neg (λe=>by rw [e,cR] at this;omega)];exact this
theorem mD {a b c:List Int×Bool} (h1:0<=rJ a b) (h2:0<=rJ b c):0<=rJ a c:=by
 by_cases e1:rJ a b=0
 .rw [zfp e1];exact h2
 by_cases e2:rJ b c=0
 .rw [<- zfp e2];exact h1
 have n1:=kN a b;have n2:=kN b c;have n3:=kN a c;have:=mC (a:=c) (b:=b) (c:=a) (by omega) (by omega);omega
end Go.Proofs
namespace Go.Ev
open Go Go.Proofs Go.RowKit Go.Sort
theorem HR.zvc {P:Program} {B:Nat} {E:Env} {h:T Blk} {y:Pa} {w:World} {A:List AV} {F:Array Value} (hA:A.length=F.size) (hva:∀ i,i<F.size->gy (A.getD i .u)=true/\VR E (A.getD i .u) F[i]!)
  (H:HR P B E h y w) {id:Pa} {op:Bool} {m off b n k:Nat} {t:T AV} {os:Array Obj} (hb:T.get .no id h=.cells op m t) (hE:E id=some (b,n)) (hm:off+F.size<=m) :
  HR P B (E) (T.set .no (.cells op m (jN A t off)) id h) y (grow (putRow (λv:Value=>v) (Sort.ahead w k) b off F) os)/\Ex E E w (grow (putRow (λv:Value=>v) (Sort.ahead w k) b off F) os):=by
 have hid:T.get .no id h≠.no:=by rw [hb];intro e;cases e
 obtain ⟨b',n',o,h1,h2,h3⟩:=H.blk id hid;rw [hE] at h1;cases h1;rw [hb] at h3;obtain ⟨c,ty,fr,rfl,q1,q2,q3,q4,q5⟩:=h3;have hcs:(putCells (λv:Value=>v) off F c).size=c.size:=by simp [putCells]
 have hbr:BR P E n (.cells op m (jN A t off)) (.cells (putCells (λv:Value=>v) off F c) ty fr):=by
  refine ⟨_,ty,fr,rfl,by rw [hcs];exact q1,by rw [hcs];exact q2,q3,q4,λi hi => ?_⟩;rw [uB];have hic:i<c.size:=by omega
  have hce:(putCells (λv:Value=>v) off F c)[i]? = some (if off<=i/\i<off+F.size then F[i-off]! else c[i]):=by
   simp [putCells,Zhd hic]
  rw [hA];by_cases hr:off<=i/\i<off+F.size
  .rw [if_pos hr];rw [if_pos hr] at hce;obtain ⟨r1,r2⟩:=hva (i-off) (by omega);exact ⟨r1,_,hce,r2⟩
  .rw [if_neg hr];rw [if_neg hr] at hce;obtain ⟨r1,v,r2,r3⟩:=q5 i hi;rw [Zhd hic] at r2;exact ⟨r1,_,hce,by rw [Option.some.inj r2];exact r3⟩
 have H1:=H.put hid hE hbr;have X1:Ex E E w (w.putObj b (.cells (putCells (λv:Value=>v) off F c) ty fr)):=Ex.put hE h2 λL hL=>by cases hL
 have hbl:b<w.heap.size:=(Zgy.1 h2).1;have hBel:Below (w.putObj b (.cells (putCells (λv:Value=>v) off F c) ty fr)).heap.size (w.putObj b (.cells (putCells (λv:Value=>v) off F c) ty fr)) (grow (putRow (λv:Value=>v) (Sort.ahead w k) b off F) os):=by
  refine ⟨rfl,rfl,rfl,?_,λj hj => ?_⟩
  .rw [World.putObj_size];simp [grow,putRow,mapBlock,Sort.ahead]
  .rw [World.putObj_size] at hj;have e1:(grow (putRow (λv:Value=>v) (Sort.ahead w k) b off F) os).heap[j]? = (w.heap.modify b (onCells (putCells (λv:Value=>v) off F)))[j]? := by
    show (w.heap.modify b (onCells (putCells (λv:Value=>v) off F))++os)[j]? = _;rw [Array.getElem?_append_left (by simpa using hj)]
   rw [e1,Zhp];by_cases e:b=j
   .subst e;rw [if_pos rfl,h2,uK _ hbl];rfl
   .rw [if_neg e,yP _ (λq=>e q.symm)]
 obtain ⟨r1,r2⟩:=H1.below hBel;exact ⟨r1,X1.trans r2⟩
end Go.Ev
set_option maxRecDepth 100000
namespace Go.Ev
open Go Go.Proofs Go.RowKit Go.Sort
def j3 (ps:List (AV×Sym)):List AV:=ps.flatMap λp=>[p.1,.bool p.2.2]
theorem p5:∀ (ps:List (AV×Sym)) (i:Nat),(j3 ps)[i]? = (ps[i / 2]?).map λp=>if i%2=0 then p.1 else .bool p.2.2
 | [],i=>by simp [j3]
 | p::ps,0=>rfl
 | p::ps,1=>rfl
 | p::ps,i+2=>by
  rw [show (i+2) / 2=i / 2+1 by omega,show (i+2)%2=i%2 by omega,Zhg,<- p5 ps i]
  rfl
theorem vG:∀ (ps:List (AV×Sym)),(j3 ps).length=ps.length*2
 | []=>rfl
 | p::ps=>by
  show (j3 ps).length+2=_;rw [vG ps,Zbc];omega
theorem zn0 {B:Nat} {h:T Blk} {id:Pa} {op:Bool} {m off n:Nat} {o:Option Nat} {t:T AV} {ps qs:List (AV×Sym)} (hb:T.get .no id h=.cells op m t) (hm:off+n*2<=m) (hn:n<=1000000) (hl:ps.length=n) (hp:yR t off (n*2)=j3 ps)
  (hr:∀ p∈ps,aM h id p.1 p.2.1/\p.2.1.length<=1000000) (hnd:(ps.map (·.2)).Nodup) (hq:qs.Perm ps) (hqs:qs.Pairwise λa b=>rJ a.2 b.2<=0) :
  JOk Tryz.prog B (λf a h'=>open Classical in if f=96/\a=[.sl id off n o 2,.fn 97 (.of 97) []]/\h'=h then some (.tup [],T.set .no (.cells op m (jN (j3 qs) t off)) id h) else none):=by
 intro E h' s w f args vs v h2 H hv hj
 dsimp only at hj
 by_cases hc:f=96/\args=[AV.sl id off n o 2,.fn 97 (.of 97) []]/\h'=h
 case neg=>rw [if_neg hc] at hj;cases hj
 rw [if_pos hc] at hj;obtain ⟨rfl,rfl,rfl⟩:=hc;simp only [Option.some.injEq,Prod.mk.injEq] at hj;obtain ⟨rfl,rfl⟩:=hj;refine ⟨(),trivial,trivial,trivial,λnn=>.inl ⟨_,Tryz.func96,by kernel_rfl,by kernel_rfl,callsIn_wide.2 ?_⟩⟩;obtain ⟨l⟩:=vs;simp only [VRL] at hv;obtain ⟨u,_,rfl,hu,u2,_,rfl,hu2,rfl⟩:=hv;simp only [VR,VRL] at hu2;obtain ⟨_,vs2,rfl,hvs2⟩:=hu2;obtain rfl:vs2 = #[]:=by cases vs2;simpa using hvs2
 obtain ⟨b,bn,c,hE,rfl,hcap⟩:=hu.si;obtain ⟨b',n',ob,h1,h2,h3⟩:=H.blk id (by rw [hb];intro e;cases e);rw [hE] at h1;cases h1;have h3':=h3;rw [hb] at h3;obtain ⟨cs,ty,fr,rfl,g1,g2,g3,g4,hc⟩:=h3
 let α:={x:(AV×Sym)×Value // aM h' id x.1.1 x.1.2.1/\x.1.2.1.length<=1000000/\VR E x.1.1 x.2}
 haveI:Inhabited α:=⟨⟨((encI [],([],false)),.slice none 0 0),.inl rfl,by simp,by simp only [VR];exact ⟨rfl,rfl,none,0,rfl,.inl ⟨rfl,λ_=>rfl⟩⟩⟩⟩
 let enc:α->List Value:=λx=>[x.1.2,.bool x.1.1.2.2]
 let cf:α->α->Int:=λx y=>rJ x.1.1.2 y.1.1.2
 have hk:∀ x,(enc x).length=2:=λ_=>rfl;have hone:∀ x,∀ v∈enc x,v.oneCell'=true:=λx v hv=>by
  obtain ⟨p,c,e,_⟩:=x.2.1.cells H x.2.2.2;simp only [enc,Zaq,List.not_mem_nil,or_false] at hv;rcases hv with rfl | rfl
  .rw [e];rfl
  .rfl
 have hO:SWO (ltOf cf):={
  irrefl:=λx=>by show decide (rJ _ _<0)=false;rw [znz];rfl
  trans:=λx y z p q=>by
   have p:=of_decide_eq_true p;have q:=of_decide_eq_true q;exact Zac (mC p q)
  ntrans:=λx y z p q=>by
   have p:=of_decide_eq_false p;have q:=of_decide_eq_false q;exact Zab (Zfz.2 (mD (Zfz.1 p) (Zfz.1 q))) }
 have rd:∀ i,i<n*2->∃ p,ps[i / 2]? = some p/\T.get .u (.of (off+i)) t=(if i%2=0 then p.1 else .bool p.2.2)/\∃ v',cs[off+i]? = some v'/\VR E (if i%2=0 then p.1 else .bool p.2.2) v'/\w.frozen? ⟨b,off+i,none⟩=false:=by
  intro i hi;have hjp:i / 2<ps.length:=by omega
  have e1:=yF t off (n*2) i hi;rw [hp,p5,Zgu hjp] at e1;have he:=(Option.some.inj e1).symm;obtain ⟨_,v',k1,k2⟩:=hc (off+i) (by omega);rw [he] at k2;refine ⟨_,Zgu hjp,he,v',k1,k2,?_⟩;have:=g1 (off+i) (Zgy.1 k1).1;simp only [World.frozen?,h2];obtain ⟨lo,hi⟩:=fr;simp only [Bool.and_eq_false_iff,decide_eq_false_iff_not];simp only at this;omega
 have each:∀ j,j<n->∃ x:α,ps[j]? = some x.1.1/\w.cell? ⟨b,off+j*2,none⟩=some x.1.2/\w.cell? ⟨b,off+(j*2+1),none⟩=some (.bool x.1.1.2.2):=by
  intro j hj;obtain ⟨p,a1,a2,v1,a3,a4,a5⟩:=rd (j*2) (by omega);obtain ⟨p',b1,b2,v2,b3,b4,b5⟩:=rd (j*2+1) (by omega);rw [show j*2 / 2=j by omega] at a1;rw [show (j*2+1) / 2=j by omega,a1] at b1;cases b1
  rw [if_pos (by omega)] at a4;rw [if_neg (by omega)] at b4;simp only [VR] at b4;subst b4;obtain ⟨r1,r2⟩:=hr _ (Zad a1);exact ⟨⟨(p,v1),r1,r2,a4⟩,a1,by simp [World.cell?,h2,a3],by simp [World.cell?,h2,b3]⟩
 obtain ⟨D,hD⟩:=Go.Deep.choose_lt each;have hsz:((List.range n).map D).toArray.size=n:=by simp
 have hget:∀ j,j<n->((List.range n).map D).toArray[j]! = D j:=λj hj=>by simp [getElem!_pos,hj]
 have hH:HoldsK enc 2 w b off ((List.range n).map D).toArray:=by
  intro i hi;rw [size_flatK,hsz] at hi;rw [get_flatK _ _ _ _ (by rw [hsz];exact hi),hget _ (by omega)];obtain ⟨_,d1,d2⟩:=hD (i / 2) (by omega);obtain ⟨_,_,_,_,_,_,fz⟩:=rd i hi;refine ⟨?_,fz⟩;rcases Nat.mod_two_eq_zero_or_one i with e | e
  .rw [e];rw [show i / 2*2=i by omega] at d1;exact d1
  .rw [e];rw [show i / 2*2+1=i by omega] at d2;exact d2
 have hsort:∀ (k:Nat) (os:Array Obj) (dk:Array α),dk.size=n->HR Tryz.prog B E (T.set .no (.cells op m (jN (j3 (dk.toList.map λx=>x.1.1)) t off)) id h') s (sortWorldK enc 2 w b off k dk os)/\Ex E E w (sortWorldK enc 2 w b off k dk os):=by
  intro k os dk hs;have hfs:(flatK enc 2 dk).size=n*2:=by rw [size_flatK,hs]
  refine H.zvc (F:=flatK enc 2 dk) (by rw [vG,hfs,Zae,Array.length_toList,hs]) (λi hi => ?_) hb hE (by rw [hfs];exact hm);rw [hfs] at hi;have hlt:i / 2<dk.size:=by omega
  rw [get_flatK _ _ _ _ (by rw [hs];exact hi),Zaa,p5,Zgw,Zhq,Zhd hlt,getElem!_pos dk _ hlt];simp only [Zcy,Option.getD_some];rcases Nat.mod_two_eq_zero_or_one i with e | e
  .rw [e,if_pos rfl];exact ⟨dk[i / 2].2.1.gy,dk[i / 2].2.2.2⟩
  .rw [e,if_neg (by decide)];exact ⟨rfl,by show VR E (.bool _) (.bool _);simp only [VR]⟩
 have hcmp:CmpLays Tryz.prog 97 #[] enc 2 cf b off ((List.range n).map D).toArray.size w:=by
  intro k os dk hs x y;rw [hsz] at hs;obtain ⟨H',_⟩:=hsort k os dk hs;obtain ⟨p1,c1,e1,m1⟩:=(x.2.1.set (b:=.cells op m (jN (j3 (dk.toList.map λx=>x.1.1)) t off))).cells H' x.2.2.2;obtain ⟨p2,c2,e2,m2⟩:=(y.2.1.set (b:=.cells op m (jN (j3 (dk.toList.map λx=>x.1.1)) t off))).cells H' y.2.2.2;have:=zhz p1 p2 _ c1 _ c2 x.1.1.2.1 y.1.1.2.1 x.1.1.2.2 y.1.1.2.2 (sortWorldK enc 2 w b off k dk os) rfl rfl x.2.2.1 y.2.2.1 m1 m2;show Go.Calls Tryz.prog 97 #[.agg #[x.1.2,.bool x.1.1.2.2],.agg #[y.1.2,.bool y.1.1.2.2]] _ _;rw [e1,e2];exact this
 have key:=AnyQ.slices_SortFunc Tryz.sortS 2 Tryz.isAgg69 Tryz.sizeOf69 enc hk hone cf hO 97 #[] b off c ((List.range n).map D).toArray w (enters_of Tryz.func97 (by kernel_rfl) rfl) hcmp hH (H.lt _ _ _ hE).2 (by rw [hsz];omega);rw [hsz] at key;refine key.mono ?_;rintro e w' ⟨rfl,d',k,os,hP,hS,rfl⟩;obtain ⟨hd1,_,hperm⟩:=hP;rw [hsz] at hd1;have e1:d'.extract 0 n=d':=by rw [<- hd1];exact Array.extract_size
 have e2:((List.range n).map D).toArray.extract 0 n=((List.range n).map D).toArray:=by
  have := @Array.extract_size _ ((List.range n).map D).toArray
  rwa [hsz] at this
 rw [e1,e2] at hperm;have hps:((List.range n).map D).map (λx:α=>x.1.1)=ps:=by
  refine Zbp λj => ?_;rw [Zgw,Zgw];by_cases hj:j<n
  .rw [Zhr hj,(hD j hj).1];rfl
  .rw [Zgz (by simp;omega),Zgz (by omega)];rfl
 have hpm:(d'.toList.map λx:α=>x.1.1).Perm ps:=by rw [<- hps];exact hperm.map _
 have hqe:(d'.toList.map λx:α=>x.1.1)=qs:=by
  refine List.Perm.eq_of_pairwise (le:=λa b=>rJ a.2 b.2<=0) ?_ ?_ hqs (hpm.trans hq.symm)
  .intro a a' ha ha' p q;have e:a.2=a'.2:=zfp (by have:=kN a.2 a'.2;omega);have ma:=hpm.mem_iff.1 ha;have ma':=hq.mem_iff.1 ha';exact qQ hnd ma ma' e
  .rw [Zdz,Zca];intro i j hi hj hij;have hi':i<d'.size:=by simpa using hi
   have hj':j<d'.size:=by simpa using hj
   have:=hS i j (Zdl _) hij (by omega);rw [getElem!_pos d' j hj',getElem!_pos d' i hi'] at this;have:=of_decide_eq_false this;have e:rJ d'[j].1.1.2 d'[i].1.1.2 = - rJ d'[i].1.1.2 d'[j].1.1.2:=kN _ _;have f:¬ rJ d'[j].1.1.2 d'[i].1.1.2<0:=this;simp only [Array.getElem_toList];omega
 obtain ⟨r1,r2⟩:=hsort k os d' hd1;rw [hqe] at r1;exact ⟨_,E,rfl,by simp only [VR,VRL];exact ⟨_,rfl,rfl⟩,r1,r2⟩
end Go.Ev
namespace Go.Ev
open Go Go.Proofs
variable {B:Nat}
theorem Hp.zzr {h0 h:T Blk} {g:Pa} {L:List Ob} {j k:Nat} {x y:Ob} {a b:Pa} (H:Hp h0 h g L) (hk:L[k]? = some x) (hj:L[j]? = some y) (hjk:j≠k) (ha:a∈x.names) (hb:b∈y.names):b≠a:=by
 have hnd:=(H.front hk).nd;rw [Zcx] at hnd;have hy:y∈L.take k++L.drop (k+1):=by
  rcases Nat.lt_or_gt_of_ne hjk with c | c
  .exact Zcr _ (Zad (i:=j) (by rw [Zhb c];exact hj))
  .exact Zda _ (Zad (i:=j-(k+1)) (by rw [Zhe,show k+1+(j-(k+1))=j by omega];exact hj))
 rintro rfl;exact (Zcf.1 hnd).2.2 b ha b (Zby.2 ⟨y,hy,hb⟩) rfl
def oU (L:List Ob) (p:AV×Sym):Prop:=p.1=encI p.2.1\/∃ rid,p.1=.sl rid 0 p.2.1.length (some p.2.1.length) 1/\Ob.arr rid (p.2.1.map I)∈L
theorem oU.gy {L:List Ob} {p:AV×Sym} (h:oU L p):gy p.1=true:=by rcases h with e | ⟨_,e,_⟩ <;> rw [e] <;> rfl
theorem oU.mono {L L':List Ob} {p:AV×Sym} (h:oU L p) (hl:∀ x∈L,x∈L'):oU L' p:=h.imp id λ⟨r,e,m⟩=>⟨r,e,hl _ m⟩
theorem oU.at {h0 h:T Blk} {y id:Pa} {L:List Ob} {n:Nat} {z:List AV} {p:AV×Sym} (H:Hp h0 h y (.gro (some id) 2 n z::L)) (hp:oU L p):aM h id p.1 p.2.1:=by
 rcases hp with e | ⟨rid,e,hj⟩
 .exact .inl e
 .obtain ⟨op,t,h1,h2⟩:=H.own _ (Zam _ hj);rw [Zae] at h1 h2;obtain ⟨j,hj⟩:=Zhk hj;exact .inr ⟨rid,0,some p.2.1.length,op,p.2.1.length,t,H.zzr (k:=0) (j:=j+1) rfl hj (by omega) (by simp [Ob.names]) (by simp [Ob.names]),e,h1,by omega,h2⟩
abbrev agP (p:AV×Sym):AV:=.agg [p.1,.bool p.2.2]
def eG (ps:List (AV×Sym)):List (AV×AV):=ps.map λp=>(.str (rW p.2),agP p)
theorem mQ:∀ (q:List (AV×Sym)) (i:Nat),(j3 q).drop (i*2)=j3 (q.drop i)
 | q,0=>by simp
 | [],i+1=>by simp [j3]
 | p::q,i+1=>by
  rw [List.drop_succ_cons,<- mQ q i,show (i+1)*2=i*2+1+1 by omega]
  rfl
theorem zko {q:List (AV×Sym)} {i:Nat} (h:i<q.length):(j3 q).drop (i*2)=q[i].1::.bool q[i].2.2::(j3 q).drop ((i+1)*2):=by
 rw [mQ,mQ,Zav h];rfl
theorem zzs {h0 h:T Blk} {y:Pa} {L:List Ob} {k j n:Nat} {o:Option Pa} {u:List (AV×Sym)} {c:AV×Sym} (H:Hp h0 h y L) (hk:L[k]? = some (.gro o 2 n (j3 u))) (hj:u[j]? = some c):∃ id off,(∀ op:AV->OP,zN 2 (uf o 2 n) (I (j:Int)) op=op (.ptr id off))/\∀ op:AV->OP,zI 2 (.ptr id off) h op=op (agP c):=by
 have own:=H.own _ (Zad hk);have hjl:=(Zgv.1 hj).1;have hlen:=vG u;cases o with
 | none =>
  obtain ⟨q,_⟩:=own;rw [q] at hlen;simp at hlen;omega
 | some id =>
  obtain ⟨t,h1,h2,h3⟩:=own;have hn:n=u.length:=by omega
  subst hn;refine ⟨id,j*2,λop=>by rw [uf,qZ hjl,Zbd],λop => ?_⟩;show qb (T.get .no id h) _ _=_;rw [h1];show (bif Nat.ble (j*2+2) (u.length*2) then op (.agg (yR t (j*2) 2)) else .no 8)=_;rw [Zak (by omega),cond_true];have e:∀ i,i<u.length*2->T.get .u (.of i) t=(j3 u).getD i .u:=λi hi=>by
   have:=yF t 0 (u.length*2) i hi;rw [h3,Zbd] at this;rw [Zaa,this];rfl
  have d:∀ i,(j3 u).getD (j*2+i) .u=((j3 u).drop (j*2)).getD i .u:=λi=>by
   rw [Zaa,Zaa,Zhe]
  have e2:yR t (j*2) 2=[T.get .u (.of (j*2)) t,T.get .u (.of (j*2+1)) t]:=rfl;have d0:=d 0;rw [Zee] at d0;obtain rfl:u[j]=c:=by rw [Zgu hjl] at hj;exact Option.some.inj hj
  rw [e2,e _ (by omega),e _ (by omega),d 1,d0,zko hjl]
  rfl
theorem zfq {h0 h:T Blk} {y p id:Pa} {L:List Ob} {k n:Nat} {K:Kw Prop} {q s:List (AV×Sym)} (H:Hp h0 h y L) (hk:L[k]? = some (.gro (some id) 2 n (j3 q))) (hql:q.length=n) (hn:n<=1000000) (hw:∀ a∈q,aM h id a.1 a.2.1/\a.2.1.length<=1000000)
  (hnd:(q.map (·.2)).Nodup) (hq:s.Perm q) (hs:s.Pairwise λa b=>rJ a.2 b.2<=0) (hK:∀ h',Hp h0 h' y (L.set k (.gro (some id) 2 n (j3 s)))->K (.tup []) h' y=.ok True):(CS Tryz.prog B).fn 96 p [uf (some id) 2 n,.fn 97 (.of 97) []] h y K=.ok True:=by
 obtain ⟨t,h1,h2,h3⟩:=H.own _ (Zad hk);have hsl:(j3 s).length=n*2:=by rw [vG,hq.length_eq,hql]
 refine zlo (zn0 (ps:=q) (qs:=s) (off:=0) (o:=none) h1 (by omega) hn hql h3 hw hnd hq hs)
  (v:=.tup []) (h2:=T.set .no (.cells true (n*2) (jN (j3 s) t 0)) id h) (if_pos ⟨rfl,rfl,rfl⟩) (hK _ ?_)
 refine H.upd hk (by simp [Ob.names]) rfl ⟨_,T.get_set_same ..,hsl,?_⟩;have:=pO t [] (j3 s) 0 rfl;rw [Zbd,Zbf,hsl] at this;exact this
theorem zvd {h0 h:T Blk} {y p g:Pa} {L:List Ob} {k:Nat} {K:Kw Prop} {q s:List (AV×Sym)} (H:Hp h0 h y L) (hg:L[k]? = some (.map g (eG q))) (hq0:0<q.length) (hql:q.length<=2000) (hw:∀ a∈q,oU L a/\a.2.1.length<=1000000)
  (hnd:(q.map (·.2)).Nodup) (hq:s.Perm q) (hs:s.Pairwise λa b=>rJ a.2 b.2<=0) (hK:∀ o h' y' A,Hp h0 h' y' (.gro o 2 s.length (j3 s)::(A++L))->K (uf o 2 s.length) h' y'=.ok True):(CS Tryz.prog B).fn 48 p [.map g] h y K=.ok True:=by
 refine j7 (p:=.of 48) (K:=K) (zL zR wm 10000000 λhf => ?_) λ_ _ _ _ q=>q;rw [F48.go];refine H.range (k:=k) hg λit h1 y1 H1 => ?_;have hel:(eG q).length=q.length:=by simp [eG]
 refine F48.L1 (λm' x2 h' y'=>∃ (seen:List Nat) (o:Option Pa),x2=uf o 2 seen.length/\(u5 q.length seen).length=m'/\seen.length+m'=q.length/\seen.Nodup/\(∀ i∈seen,i<q.length) /\
  Hp h0 h' y' (.gro o 2 seen.length (j3 (seen.reverse.map λi=>q.getD i (.u,([],false))))::.iter it g (eG q).length seen (eG q).length::L)) (m:=q.length) (by omega)
  ⟨[],none,rfl,by (have e:u5 q.length []=List.range q.length:=List.filter_eq_self.2 (by simp));rw [e];simp,by simp,by simp,by simp,H1.ax 2⟩ ?_
 rintro m' z2 z3 z7 h2 y2 R ⟨seen,o,rfl,rfl,hsl,hns,hse,H2⟩ hR;refine H2.next (k:=1) (j:=k+2) rfl (by simpa using hg) (λhall => ?_) λi a b h3 hi hnin hab H3 => ?_
 .simp only [yZ,zC];have hsp:=zns hns hse λi hi=>hall i (by rw [hel];exact hi);have hup:(seen.reverse.map λi=>q.getD i (.u,([],false))).Perm q:=by
   have e:=znd q (.u,([],false))
   conv=>rhs;rw [e]
   exact ((List.reverse_perm seen).trans hsp).map _
  have hul:=hup.length_eq;rw [Zae,Zbm] at hul;rw [hul] at H2 ⊢;rw [F48.k6];cases o with
  | none =>
   obtain ⟨e,_⟩:=H2.own _ (Zai ..);omega
  | some id =>
   refine zfq (k:=0) (s:=s) H2 rfl (by rw [hup.length_eq]) (by omega) (λa ha=>⟨((hw a (hup.mem_iff.1 ha)).1.mono λx hx=>Zam _ hx).at H2,(hw a (hup.mem_iff.1 ha)).2⟩) ((hup.map _).nodup_iff.2 hnd) (hq.trans hup.symm) hs λh4 H4 => ?_;rw [H4.oH (k:=0) rfl,<- hq.length_eq];rw [<- hq.length_eq] at H4
   refine F48.L7 (λm x4 x10 h' y'=>∃ (i:Nat) (o':Option Pa),x10=I i/\x4=uf o' 2 i/\m=s.length-i/\i<=s.length/\Hp h0 h' y' (.gro o' 2 i (j3 (s.take i))::.gro (some id) 2 s.length (j3 s)::.iter it g (eG q).length seen (eG q).length::L)) (m:=s.length) (by rw [hq.length_eq];omega)
    ⟨0,none,rfl,rfl,by omega,by omega,H4.ax 2⟩ ?_
   rintro m z4 z5 z10 z11 h5 y5 R' ⟨i,o',rfl,rfl,rfl,hi,H5⟩ hR';by_cases hlt:i<s.length
   case neg =>
    have ei:i=s.length:=by omega
    subst ei;simp only [yu,show ¬ (s.length:Int)<(s.length:Int) by omega,decide_false,zC];rw [F48.k14];rw [Zan (Zaf _)] at H5;exact hK _ _ _ [.gro (some id) 2 s.length (j3 s),.iter it g (eG q).length seen (eG q).length] H5
   simp only [yu,show (i:Int)<(s.length:Int) by omega,decide_true,zD];have hx:s[i]? = some s[i]:=Zgu hlt;obtain ⟨iu,ou,e1,e2⟩:=zzs (k:=1) H5 rfl hx;rw [e1,e2];refine H5.alloc λb5 h6 y6 H6 => ?_;refine H6.jc (k:=0) (n:=2) rfl rfl rfl λh7 H7 => ?_;rw [H7.zi (k:=0) (n:=2) rfl rfl];refine H7.qw (l:=[s[i].1,.bool s[i].2.2]) rfl λtb h8 y8 H8 => ?_;rw [zdu];refine H8.appN (k:=2) (o:=o') (c:=1) (esz:=2) (new:=[s[i].1,.bool s[i].2.2]) rfl (jr.rd (l:=[s[i].1,.bool s[i].2.2]) (n:=1) (e:=2) (H8.own _ (Zai ..)) rfl) rfl (by rw [Zev,(hw _ (hq.mem_iff.1 (Zas hlt))).1.gy];rfl) (by decide) (by decide) (by rw [hq.length_eq] at hlt;omega) λo'' h9 y9 _ H9 => ?_;rw [jg (by rw [hq.length_eq] at hlt;omega)];refine hR' (s.length-(i+1)) _ _ _ _ _ _ (by omega) ⟨i+1,o'',by rfl,rfl,rfl,by omega,?_⟩;have ef:j3 (s.take i)++[s[i].1,.bool s[i].2.2]=j3 (s.take (i+1)):=by rw [Zar,hx];unfold j3;rw [List.flatMap_append];rfl
   rw [ef] at H9;exact H9.drop.drop
 .have hi':i<q.length:=by rw [<- hel];exact hi
  have hx:q[i]? = some q[i]:=Zgu hi';have hent:(eG q)[i]? = some (.str (rW q[i].2),agP q[i]):=by rw [eG,Zgw,hx];rfl
  rw [hent] at hab;cases hab
  simp only [yZ,zD];rw [H3.entry (k:=1) (j:=k+2) rfl (by simpa using hg) hent];simp only [jC];refine H3.alloc λb5 h6 y6 H6 => ?_;refine H6.jc (k:=0) (n:=2) rfl rfl rfl λh7 H7 => ?_;rw [H7.zi (k:=0) (n:=2) rfl rfl];refine H7.qw (l:=[q[i].1,.bool q[i].2.2]) rfl λtb h8 y8 H8 => ?_;rw [zdu];refine H8.appN (k:=2) (o:=o) (c:=1) (esz:=2) (new:=[q[i].1,.bool q[i].2.2]) rfl (jr.rd (l:=[q[i].1,.bool q[i].2.2]) (n:=1) (e:=2) (H8.own _ (Zai ..)) rfl) rfl (by rw [Zev,(hw _ (Zas hi')).1.gy];rfl) (by decide) (by decide) (by omega) λo'' h9 y9 _ H9 => ?_;have hst:=zj7 hi' hnin;refine hR (u5 q.length (i::seen)).length _ _ _ _ _ (by omega) ⟨i::seen,o'',rfl,rfl,by simp;omega,Zcc.2 ⟨hnin,hns⟩,λj hj => ?_,?_⟩
  .rcases Zaq.1 hj with rfl | r
   .exact hi'
   .exact hse j r
  .have ef:j3 (seen.reverse.map λi=>q.getD i (.u,([],false)))++[q[i].1,.bool q[i].2.2]=j3 ((i::seen).reverse.map λi=>q.getD i (.u,([],false))):=by
    rw [Zfn,Zbi];simp [j3,hx]
   rw [ef] at H9;exact H9.drop.drop
end Go.Ev
namespace Go.Ev
open Go Go.Proofs
theorem zve {P:Program} {B:Nat} {f:Nat} {args:List AV} {h h0:T Blk} {y:Pa} {r:AV} (hk0:u7 h0 h) (hc:∀ K:Kw Prop,(∀ v h' y',Fr h' y'->u7 h0 h'->sj h0 h' v r->K v h' y'=.ok True)->(CS P B).fn f (.of f) args h y K=.ok True)
  {E:Env} {w:World} {vs:Array Value} (H:HR P B E h y w) (hv:VRL E args vs.toList) :
  ∃ _:Unit,True/\True/\True/\∀ n,oO n P f vs w λe w'=>∃ u E',e=.returned u/\VR E' r u/\HR P B E' h0 y w'/\Ex E E' w w':=by
 have hk:=hc (λv h' y'=>open Classical in if u7 h0 h'/\sj h0 h' v r then .ok True else .no 0) (λv h' y' _ h1 h2=>if_pos ⟨h1,h2⟩);rw [aC] at hk;obtain ⟨fn,h1,h2,h3,h4⟩:=hk.1 E w vs H hv;refine ⟨fn,h1,h2,h3,λn=>(h4 n).mono λe w' he => ?_⟩
 cases e <;> first
  | exact he.elim
  |(obtain ⟨av,h',y',E',k1,k2,k3,k4⟩:=he
    have k1':(open Classical in if u7 h0 h'/\sj h0 h' av r then (Out.ok True:Out Prop) else .no 0)=.ok True:=k1;split at k1'
    .rename_i hh;obtain ⟨hkp,hF⟩:=hh;have H0:=H.zqn hk0;obtain ⟨r1,r2,_⟩:=zbj H0 k3 k4 hkp;exact ⟨_,_,rfl,zfg H0 k3 k4 hkp hF k2,r1,r2⟩
    .cases k1')
theorem zvf {h0 h:T Blk} {y:Pa} {L:List Ob} {o:Option Pa} {n k e:Nat} {l l':List AV} (H:Hp h0 h y L) (hk:L[k]? = some (.gro o e n l)) (hl:l'.length=l.length) (hs:l'.all gy=true) (hf:∀ (i:Nat) (v v':AV),l[i]? = some v->l'[i]? = some v'->sj h0 h v v'):sj h0 h (uf o e n) (.lst e n l'):=by
 have own:=H.own _ (Zad hk);have hoff:=H.off;cases o with
 | none =>
  obtain ⟨rfl,rfl⟩:=own;obtain rfl:l'=[]:=by simpa using hl
  exact .oQ e
 | some id =>
  obtain ⟨t,h1,h2,h3⟩:=own;refine .sl _ _ _ _ _ true _ t _ (hoff id (Zby.2 ⟨_,Zad hk,by simp [Ob.names]⟩)) trivial h1 (by omega) (by rw [hl];exact h2) hs λi v hi => ?_;have hil:i<l.length:=by rw [<- hl];exact (Zgv.1 hi).1
  have:=yF t 0 (n*e) i (by rw [<- h2];exact hil);rw [h3,Zgu hil] at this;rw [<- Option.some.inj this];exact hf i _ _ (Zgu hil) hi
end Go.Ev
namespace Go.Ev
open Go Go.Proofs
variable {B:Nat}
def insP (x:AV×Sym):List (AV×Sym)->List (AV×Sym)
 | []=>[x]
 | y::l=>if rJ x.2 y.2<=0 then x::y::l else y::insP x l
def srtP:List (AV×Sym)->List (AV×Sym)
 | []=>[]
 | x::l=>insP x (srtP l)
theorem cX (x:AV×Sym):∀ l,(insP x l).Perm (x::l)
 | []=>.refl _
 | y::l=>by
  rw [insP];split
  .exact .refl _
  .exact ((cX x l).cons y).trans (.swap x y l)
theorem zdw:∀ l,(srtP l).Perm l
 | []=>.refl _
 | x::l=>(cX x _).trans ((zdw l).cons x)
theorem zcz {a b c:Sym} (h1:rJ a b<=0) (h2:rJ b c<=0):rJ a c<=0:=by
 have n1:=kN a b;have n2:=kN b c;have n3:=kN a c;have:=mD (a:=c) (b:=b) (c:=a) (by omega) (by omega);omega
theorem zh0 {x:AV×Sym}:∀ {l:List (AV×Sym)},l.Pairwise (λa b=>rJ a.2 b.2<=0)->(insP x l).Pairwise (λa b=>rJ a.2 b.2<=0)
 | [],_=>by simp [insP]
 | y::l,h=>by
  have h':=Zek.1 h;rw [insP];split
  .rename_i c;refine Zek.2 ⟨λz hz => ?_,h⟩;rcases Zaq.1 hz with rfl | r
   .exact c
   .exact zcz c (h'.1 z r)
  .rename_i c;refine Zek.2 ⟨λz hz => ?_,zh0 h'.2⟩;rcases Zaq.1 ((cX x l).mem_iff.1 hz) with rfl | r
   .have:=kN z.2 y.2;omega
   .exact h'.1 z r
theorem zh1:∀ l,(srtP l).Pairwise (λa b=>rJ a.2 b.2<=0)
 | []=>.nil
 | _::l=>zh0 (zh1 l)
def zh2:List AV->Option (List Int)
 | []=>some []
 | .int .i64 v::l=>match zh2 l with
  | some r=>some (v::r)
  | none=>none
 | _=>none
theorem zh3:∀ {l:List AV} {xs:List Int},zh2 l=some xs->l=xs.map I
 | [],xs,h=>by rw [zh2] at h;cases h;rfl
 | a::l,xs,h=>by
  unfold zh2 at h;split at h
  .rename_i he;cases he
  .rename_i v l' he;cases he
   split at h
   .rename_i r hr;cases h
    rw [zh3 hr];rfl
   .cases h
  .cases h
def zkp (h:T Blk) (a:AV):Option (Pa×List Int):=match a with
 | .sl rid off n (some c) e=>match T.get .no rid h with
  | .cells _ m t=>if off=0/\e=1/\m=n/\c=n then (match zh2 (yR t 0 n) with
   | some l=>some (rid,l)
   | none=>none) else none
  | _=>none
 | _=>none
theorem zn1 {h:T Blk} {a:AV} {rid:Pa} {l:List Int} (e:zkp h a=some (rid,l)):a=.sl rid 0 l.length (some l.length) 1/\jr h rid (l.map I):=by
 unfold zkp at e;split at e
 case h_2=>cases e
 rename_i r off n c ee he0;split at e
 case h_2=>cases e
 rename_i op m t ht;split at e
 case isFalse=>cases e
 rename_i hc;obtain ⟨rfl,rfl,rfl,rfl⟩:=hc;split at e
 case h_2=>cases e
 rename_i l' hl;cases e
 have e1:=zh3 hl;have e2:l.length=ee:=by
  have:=congrArg List.length e1;rw [Zae,gO] at this;exact this.symm
 subst e2;exact ⟨rfl,op,t,by rw [Zae];exact ht,by rw [Zae];exact e1⟩
def zb2 (h:T Blk):List (AV×AV)->Option (List (Pa×(AV×Sym)))
 | []=>some []
 |(.str k,.agg [a,.bool c])::es=>match zkp h a,zb2 h es with
  | some (rid,l),some r=>if rW (l,c)=k then some ((rid,(a,(l,c)))::r) else none
  | _,_=>none
 | _=>none
theorem zdx {h:T Blk}:∀ {es:List (AV×AV)} {r:List (Pa×(AV×Sym))},zb2 h es=some r->es=eG (r.map (·.2))/\∀ x∈r,x.2.1=.sl x.1 0 x.2.2.1.length (some x.2.2.1.length) 1/\jr h x.1 (x.2.2.1.map I)
 | [],r,e=>by rw [zb2] at e;cases e;exact ⟨rfl,λx hx=>by cases hx⟩
 | p::es,r,e=>by
  unfold zb2 at e;split at e
  .rename_i he;cases he
  .rename_i k a c es' he;cases he
   split at e
   .rename_i rid l r' h1 h2;split at e
    .rename_i hk;cases e
     obtain ⟨i1,i2⟩:=zdx h2;obtain ⟨j1,j2⟩:=zn1 h1;refine ⟨by rw [i1,<- hk];rfl,λx hx => ?_⟩;rcases Zaq.1 hx with rfl | q
     .exact ⟨j1,j2⟩
     .exact i2 x q
    .cases e
   .cases e
  .cases e
def zrl (f:Nat) (a:List AV) (h:T Blk):Option (AV×T Blk):=if f=48 then (match a with
 | [.map g]=>match T.get .no g h with
  | .map n es=>match zb2 h es with
   | some r=>if n=es.length/\0<r.length/\r.length<=2000/\((g::r.map (·.1)).map Pa.toNat).Nodup/\(r.map (·.2.2)).Nodup/\(∀ x∈r,x.2.2.1.length<=1000000) then some (encG ((srtP (r.map (·.2))).map (·.2)),zbz (g::r.map (·.1)) h) else none
   | none=>none
  | _=>none
 | _=>none) else none
theorem zb3:∀ (qs:List Sym),(fM qs).all gy=true
 | []=>rfl
 | _::qs=>zb3 qs
theorem zdy:∀ (ps:List Sym) (i:Nat),(fM ps)[i]? = (ps[i / 2]?).map λp=>if i%2=0 then encI p.1 else .bool p.2
 | [],i=>by simp [fM]
 | p::ps,0=>rfl
 | p::ps,1=>rfl
 | p::ps,i+2=>by
  rw [show (i+2) / 2=i / 2+1 by omega,show (i+2)%2=i%2 by omega,Zhg,<- zdy ps i]
  rfl
theorem bF {α β:Type} {f:α->β}:∀ {l:List α},(l.map f).Nodup->l.Nodup
 | [],_=>.nil
 | a::l,h=>by
  rw [Zdh,Zcc] at h;exact Zcc.2 ⟨λm=>h.1 (Zao.2 ⟨a,m,rfl⟩),bF h.2⟩
theorem zrn:JOk Tryz.prog B zrl:=by
 intro E h y w f args vs v h2 H hv hj;unfold zrl at hj;split at hj
 case isFalse=>cases hj
 rename_i hf;subst hf;split at hj
 case h_2=>cases hj
 rename_i g;split at hj
 case h_2=>cases hj
 rename_i n es hg;split at hj
 case h_2=>cases hj
 rename_i r hr;split at hj
 case isFalse=>cases hj
 rename_i hc;obtain ⟨rfl,hr0,hrl,hnd1,hnd2,hlen⟩:=hc;cases hj
 have hnd1:=bF hnd1;obtain ⟨rfl,hrow⟩:=zdx hr;have names:(Ob.map g (eG (r.map (·.2)))::r.map λx=>Ob.arr x.1 (x.2.2.1.map I)).flatMap Ob.names=g::r.map (·.1):=by
  have e:∀ r:List (Pa×(AV×Sym)),(r.map λx=>Ob.arr x.1 (x.2.2.1.map I)).flatMap Ob.names=r.map (·.1):=by
   intro r
   induction r with
   | nil=>rfl
   | cons x r ih=>show x.1::_=x.1::_;rw [<- ih];rfl
  show g::_=_;rw [<- e];rfl
 have H0:Hp (zbz (g::r.map (·.1)) h) h y (.map g (eG (r.map (·.2)))::r.map λx=>.arr x.1 (x.2.2.1.map I)):=⟨λj hj=>by
   by_cases q:j∈g::r.map (·.1)
   .exact absurd (zb0 _ h j (.inl q)) hj
   .exact (zds _ h j q).symm,λy hy=>by
   rcases Zaq.1 hy with rfl | q
   .exact hg
   .obtain ⟨x,hx,rfl⟩:=Zao.1 q;exact (hrow x hx).2,λm hm=>zb0 _ h m (.inl (by rw [names] at hm;exact hm)),by rw [names];exact hnd1,H.fr⟩
 refine zve (h0:=zbz (g::r.map (·.1)) h) H0.keep (λK hK => ?_) H hv;have hp:=zdw (r.map (·.2));refine zvd (k:=0) (q:=r.map (·.2)) (s:=srtP (r.map (·.2))) H0 rfl (by rw [Zae];exact hr0) (by rw [Zae];exact hrl) (λp hq => ?_) (by rw [Zfe];exact hnd2) hp (zh1 _) λo h' y' A H'=>hK _ _ _ H'.fr H'.keep ?_
 .obtain ⟨x,hx,rfl⟩:=Zao.1 hq;exact ⟨.inr ⟨x.1,(hrow x hx).1,Zam _ (Zao.2 ⟨x,hx,rfl⟩)⟩,hlen x hx⟩
 .have:=zvf (k:=0) (l':=fM ((srtP (r.map (·.2))).map (·.2))) H' rfl (by rw [zny,vG,Zae]) (zb3 _) λi a b h1 h2 => ?_
  .show sj _ _ (uf o 2 _) (.lst 2 ((srtP (r.map (·.2))).map (·.2)).length _);rw [Zae];exact this
  rw [p5] at h1;rw [zdy,Zgw] at h2;cases hx:(srtP (r.map (·.2)))[i / 2]? with
  | none=>rw [hx] at h1;cases h1
  | some p =>
   rw [hx] at h1 h2;simp only [Zcy,Option.some.injEq] at h1 h2;subst h1;subst h2;by_cases c:i%2=0
   .rw [if_pos c,if_pos c];obtain ⟨x,hxm,rfl⟩:=Zao.1 (hp.mem_iff.1 (Zad hx));rw [(hrow x hxm).1];have hin:Ob.arr x.1 (x.2.2.1.map I)∈(.gro o 2 (srtP (r.map (·.2))).length (j3 (srtP (r.map (·.2))))::(A++(.map g (eG (r.map (·.2)))::r.map λx=>Ob.arr x.1 (x.2.2.1.map I)))):=by
     refine Zam _ (Zda _ (Zam _ (Zao.2 ⟨x,hxm,rfl⟩)))
    obtain ⟨k,hk⟩:=Zhk hin;exact H'.zbm hk (by show zdf _ (some _);simp [zdf]) (by simp) (λv hv=>by obtain ⟨z,_,rfl⟩:=Zao.1 hv;rfl)
   .rw [if_neg c,if_neg c];exact zK rfl
end Go.Ev
namespace Go.Ev
def bv (b:Nat):List Nat->Nat
 | []=>0
 | x::l=>x+b*bv b l
theorem wB (b:Nat):∀ l m:List Nat,bv b (l++m)=bv b l+b ^ l.length*bv b m
 | [],m=>by simp [bv]
 | x::l,m=>by
  rw [Zbs,bv,wB b l m,bv,Zbc,Zdu,Zem,Zcu,Zdb (b ^ l.length) b,Zej]
theorem nC (b:Nat) (l:List Nat) (x:Nat):bv b (l++[x])=bv b l+b ^ l.length*x:=by
 rw [wB];simp [bv]
def Dg (b:Nat) (l:List Nat):Prop:=∀ x∈l,x<b
theorem zdz {b:Nat} (hb:0<b):∀ {l:List Nat},Dg b l->bv b l<b ^ l.length
 | [],_=>by simp [bv]
 | x::l,h=>by
  have h1:=zdz hb (l:=l) λy hy=>h y (by simp [hy]);have h2:=h x (by simp);rw [bv,Zbc,Zdu,Zdb (b ^ l.length) b];have h3:b*(bv b l+1)<=b*b ^ l.length:=Zgf b h1;rw [Zem,Zcn] at h3;omega
def Nm (l:List Nat):Prop:=l.getLast? ≠ some 0
def dg (b:Nat) (z:Nat):List Nat:=if h:z=0\/b<2 then [] else z%b::dg b (z / b)
termination_by z
decreasing_by
 have h1:z≠0:=λq=>h (.inl q);have h2:¬ b<2:=λq=>h (.inr q);exact Nat.div_lt_self (Zfd h1) (by omega)
theorem gH (b:Nat):dg b 0=[]:=by rw [dg];simp
theorem kS {b z:Nat} (hb:2<=b) (hz:z≠0):dg b z=z%b::dg b (z / b):=by
 rw [dg,dif_neg (by omega)]
theorem qM {b:Nat} (hb:2<=b) (z:Nat):bv b (dg b z)=z/\Dg b (dg b z)/\Nm (dg b z):=by
 induction z using Nat.strongRecOn with
 | ind z ih =>
  by_cases hz:z=0
  .subst hz;rw [gH];exact ⟨rfl,λx hx=>by simp at hx,by simp [Nm]⟩
  .obtain ⟨h1,h2,h3⟩:=ih (z / b) (Nat.div_lt_self (Zfd hz) (by omega));rw [kS hb hz];refine ⟨?_,?_,?_⟩
   .rw [bv,h1];exact Nat.mod_add_div z b
   .intro x hx;rcases Zaq.1 hx with rfl | hx
    .exact Zdr _ (by omega)
    .exact h2 x hx
   .unfold Nm at *
    by_cases hd:z / b=0
    .rw [hd,gH];have:z<b:=by
      rcases Nat.div_eq_zero_iff.1 hd with q | q
      .omega
      .exact q
     simp [Zbx this];exact hz
    .rw [kS hb hd] at h3 ⊢;rw [List.getLast?_cons_cons];exact h3
theorem c8 {b:Nat} (hb:2<=b):∀ {l:List Nat},Dg b l->Nm l->l=dg b (bv b l)
 | [],_,_=>by rw [bv,gH]
 | x::l,h,hn=>by
  have hx:=h x (by simp);have hl:Dg b l:=λy hy=>h y (by simp [hy]);have hnl:Nm l:=by
   unfold Nm at *
   cases l with
   | nil=>simp
   | cons y l=>rw [List.getLast?_cons_cons] at hn;exact hn
  have ih:=c8 hb hl hnl;have hz:bv b (x::l)≠0:=by
   rw [bv];intro q;have hx0:x=0:=by omega
   have hv:bv b l=0:=by
    have:b*bv b l=0:=by omega
    rcases Nat.mul_eq_zero.1 this with q | q
    .omega
    .exact q
   rw [hv,gH] at ih;subst ih;subst hx0;simp [Nm] at hn
  rw [kS hb hz,bv];have e1:(x+b*bv b l)%b=x:=by rw [Nat.add_mul_mod_self_left,Zbx hx]
  have e2:(x+b*bv b l) / b=bv b l:=by rw [Nat.add_mul_div_left _ _ (by omega),Zes hx,Zbd]
  rw [e1,e2,<- ih]
theorem dE {b:Nat} {l:List Nat} {i x:Nat} (h:l[i]? = some x):bv b (l.take (i+1))=bv b (l.take i)+b ^ i*x:=by
 have hi:i<l.length:=(Zgv.1 h).1;rw [Zar,h];show bv b (l.take i++[x])=_;rw [nC,Zaj,Zbv (by omega)]
theorem zzt {U V q r:Nat} (h:U=q*V+r) (hr:r<V):U / V=q/\U%V=r:=by
 have hv:0<V:=by omega
 subst h;refine ⟨?_,?_⟩
 .rw [Zdt,Nat.add_mul_div_right _ _ hv,Zes hr,Zbd]
 .rw [Zdt,Nat.add_mul_mod_self_right,Zbx hr]
end Go.Ev
namespace Go.Ev
open Go Go.Proofs
variable {B:Nat}
set_option maxRecDepth 100000
theorem yK {B:Nat}:cE Tryz.prog B Prop:=zbi mixed
abbrev U (m:Nat):AV:=.int .u64 (m:Int)
def encW (l:List Nat):AV:=.lst 1 l.length (l.map U)
theorem zxv {z:Int} (h:0<=z/\z<18446744073709551616):IntKind.wrap .u64 z=z:=by
 have e:IntKind.wrap .u64 z=z%18446744073709551616:=by
  unfold IntKind.wrap;first | rfl | simp [IntKind.bits,IntKind.signed] | skip
 rw [e];omega
theorem zr6 {m:Nat}:IntKind.wrap .u64 (m:Int)=((m%18446744073709551616:Nat):Int):=by
 have e:IntKind.wrap .u64 (m:Int)=(m:Int)%18446744073709551616:=by
  unfold IntKind.wrap;first | rfl | simp [IntKind.bits,IntKind.signed] | skip
 rw [e];omega
theorem zzu {z:Int}:IntKind.wrap .u64 z=z%18446744073709551616:=by
 unfold IntKind.wrap;first | rfl | simp [IntKind.bits,IntKind.signed]
theorem uAdd {a b:Nat} {K:AV->OP}:za .add .int (U a) (U b) K=K (U ((a+b)%18446744073709551616)):=by
 rw [zxk,show (a:Int)+(b:Int)=((a+b:Nat):Int) by omega,zr6]
theorem uMul {a b:Nat} {K:AV->OP}:za .mul .int (U a) (U b) K=K (U ((a*b)%18446744073709551616)):=by
 rw [qcw,show (a:Int)*(b:Int)=((a*b:Nat):Int) by simp,zr6]
theorem uShr {m n:Nat} {k:IntKind} {K:AV->OP} (hn:n<=64):za .shr .int (U m) (.int k (n:Int)) K=K (U (m / 2 ^ n)):=by
 have e:za .shr .int (U m) (.int k (n:Int)) K=(bif ilt (n:Int) 0 then Out.no 5 else wu ((m:Int).fdiv (2 ^ (min (n:Int).toNat IntKind.u64.bits))) λz=>K (.int .u64 z)):=by cases k <;> rfl
 have h0:ilt (n:Int) 0=false:=rfl;rw [e,h0,cond_false,uE];have hb:IntKind.u64.bits=64:=rfl;rw [hb,Zgq,Zbv hn,Int.fdiv_eq_ediv_of_nonneg _ (Zfl (by omega))]
 congr 2
theorem zb4 {m:Nat} {k:IntKind} {K:AV->OP}:za .shr .int (U m) (.int k 32) K=K (U (m / 4294967296)):=uShr (n:=32) (by omega)
theorem uAnd {m:Nat} {K:AV->OP} (hm:m<18446744073709551616):za .and .int (U m) (.int .u64 4294967295) K=K (U (m%4294967296)):=by
 have e:za .and .int (U m) (U 4294967295) K=wu (IntKind.u64.wrap ((BitVec.ofInt 64 (m:Int) &&& BitVec.ofInt 64 ((4294967295:Nat):Int)).toNat:Int)) λz=>K (.int .u64 z):=rfl;have h1:(BitVec.ofInt 64 (m:Int) &&& BitVec.ofInt 64 ((4294967295:Nat):Int)).toNat=m%4294967296:=by
  rw [BitVec.ofInt_natCast,BitVec.ofInt_natCast,BitVec.toNat_and,BitVec.toNat_ofNat,BitVec.toNat_ofNat,Zbx hm];exact Nat.and_two_pow_sub_one_eq_mod m 32
 have e2:za .and .int (U m) (.int .u64 4294967295) K=za .and .int (U m) (U 4294967295) K:=rfl;rw [e2,e,uE,h1,zxv (by omega)]
theorem uLeq {a b:Nat} {K:AV->OP}:za .leq .int (U a) (U b) K=K (.bool (decide (a<=b))):=by rw [rq];simp only [Int.ofNat_le]
theorem uGeq {a b:Nat} {K:AV->OP}:za .geq .int (U a) (U b) K=K (.bool (decide (b<=a))):=by rw [bq];simp only [Int.ofNat_le]
theorem uEql {a b:Nat} {K:AV->OP}:za .eql .int (U a) (U b) K=K (.bool (decide (a=b))):=by rw [qf];simp only [Int.natCast_inj]
theorem qdh {a:Nat} {K:AV->OP}:za .eql .int (U a) (.int .u64 0) K=K (.bool (decide (a=0))):=uEql (b:=0)
theorem zxw {k:IntKind} {z:Int} {m:Nat} {K:AV->OP} (h:z=(m:Int)) (hm:m<18446744073709551616):wW .u64 (.int k z) K=K (U m):=by
 show wu (kK .u64 z) (λz=>K (.int .u64 z))=_;rw [uE,qE,zxv (by omega),h]
theorem zzv {k:IntKind} {z:Int} {K:AV->OP} (h : -9223372036854775808<=z/\z<0):wW .u64 (.int k z) K=K (U (z+18446744073709551616).toNat):=by
 show wu (kK .u64 z) (λz=>K (.int .u64 z))=_;rw [uE,qE,zzu,show z%18446744073709551616=((z+18446744073709551616).toNat:Int) by omega]
theorem zfr {k:IntKind} {z:Int} {K:AV->OP} (h : -9223372036854775808<=z/\z<=9223372036854775807):wW .i64 (.int k z) K=K (I z):=by
 show wu (kK .i64 z) (λz=>K (.int .i64 z))=_;rw [uE,qE,qY h]
theorem uNeg {z:Int} {K:AV->OP} (h : -9223372036854775807<=z/\z<=9223372036854775808):sNeg (I z) K=K (I (-z)):=by
 show wu (kK .i64 (0-z)) (λz=>K (.int .i64 z))=_;rw [uE,qE,qY (by omega),Int.zero_sub]
theorem qdi {K:AV->OP}:sNeg (I (-9223372036854775808)) K=K (I (-9223372036854775808)):=nr rfl
theorem uGet {l:List Nat} {i x:Nat} (h:l[i]? = some x):(l.map U)[i]? = some (U x):=by rw [Zgw,h];rfl
theorem uLen {l:List Nat} {K:AV->OP}:sLen (encW l) K=K (I l.length):=zS ..
theorem uIx {l:List Nat} {i:Nat} {j:Int} {op:AV->OP} (hj:j=(i:Int)) (hi:i<l.length):zN 1 (encW l) (I j) op=op (.fp ((l.map U).drop (i*1))):=xu hj hi
theorem uLd {l:List Nat} {i x:Nat} {h:T Blk} {op:AV->OP} (hx:l[i]? = some x):zH (.fp ((l.map U).drop (i*1))) h op=op (U x):=ldL (uGet hx)
theorem Hp.zr7 {h0 h:T Blk} {g id:Pa} {L:List Ob} {l:List AV} (H:Hp h0 h g (.arr id l::L)):Hp h0 (T.set .no .no id h) g L:=by
 have hid:T.get .no id h0=.no:=H.off id (by simp [Ob.names]);have H3:=H.drop;have nd:=H.nd;simp only [Zcx,Ob.names] at nd;have hni:id∉L.flatMap Ob.names:=λhi=>(Zcf.1 nd).2.2 id (by simp) id hi rfl;have other:∀ j,j≠id->T.get .no j (T.set .no .no id h)=T.get .no j h:=λj hj=>T.zk _ _ _ _ _ hj;refine ⟨λj hj => ?_,λy hy => ?_,H3.off,H3.nd,λj hj => ?_⟩
 .rw [other j (by rintro rfl;exact hj hid)];exact H.keep j hj
 .exact (H3.own y hy).congr λm hm=>other m (by rintro rfl;exact hni (Zby.2 ⟨y,hy,hm⟩))
 .by_cases e:j=id
  .subst e;exact T.get_set_same _ _ _ _
  .rw [other j e];exact H.fr j hj
theorem zzw {a b:Nat} (ha:a<18446744073709551616) (hb:b<18446744073709551616):Pure Tryz.prog B 240 [U a,U b] (· = .tup [U (a*b / 18446744073709551616),U (a*b%18446744073709551616)]):=by
 intro p h y K hK;refine zL zR yK 10 λhf => ?_;rw [jd.go,jd.t23,zA,jd.zu,zA,jd.zo,uAnd ha,zA,jd.yt,zb4,zA,jd.vk,uAnd hb,zA,jd.nY,zb4];have ha0:a%4294967296<4294967296:=by omega
 have ha1:a / 4294967296<4294967296:=by omega
 have hb0:b%4294967296<4294967296:=by omega
 have hb1:b / 4294967296<4294967296:=by omega
 have ea:a=a / 4294967296*4294967296+a%4294967296:=by omega
 have eb:b=b / 4294967296*4294967296+b%4294967296:=by omega
 generalize a / 4294967296=a1 at *
 generalize a%4294967296=a0 at *
 generalize b / 4294967296=b1 at *
 generalize b%4294967296=b0 at *
 have m00:a0*b0<=4294967295*4294967295:=Zbl (by omega) (by omega);have m10:a1*b0<=4294967295*4294967295:=Zbl (by omega) (by omega);have m01:a0*b1<=4294967295*4294967295:=Zbl (by omega) (by omega);have m11:a1*b1<=4294967295*4294967295:=Zbl (by omega) (by omega);have hp:a*b=a1*b1*18446744073709551616+(a1*b0+a0*b1)*4294967296+a0*b0:=by
  rw [ea,eb];simp only [Zbu,Zem];have e1:a1*4294967296*(b1*4294967296)=a1*b1*18446744073709551616:=by
   rw [Nat.mul_mul_mul_comm]
  have e2:a1*4294967296*b0=a1*b0*4294967296:=by rw [Nat.mul_right_comm]
  have e3:a0*(b1*4294967296)=a0*b1*4294967296:=by rw [Zej]
  rw [e1,e2,e3];omega
 rw [zA,jd.dz,uMul,Zbx (show a0*b0<18446744073709551616 by omega),zA,jd.uj,uMul,Zbx (show a1*b0<18446744073709551616 by omega),zb4,uAdd,Zbx (show a1*b0+a0*b0 / 4294967296<18446744073709551616 by omega),zA,jd.ng,uAnd (by omega),zA,jd.rE,zb4,zA,jd.rF,uMul,Zbx (show a0*b1<18446744073709551616 by omega),uAdd,zA,jd.rC,uMul,Zbx (show a1*b1<18446744073709551616 by omega),uAdd,zb4,uAdd,zA,jd.qz,uMul];simp only [zG,zQ];rw [jd.ret];refine hK _ ?_ hf;rw [hp]
 generalize a0*b0=p00 at *
 generalize a1*b0=p10 at *
 generalize a0*b1=p01 at *
 generalize a1*b1=p11 at *
 congr 3
 congr 1
 omega
theorem zfs {z:Int} (h : -9223372036854775808<=z/\z<=9223372036854775807):Pure Tryz.prog B 241 [I z] (· = U z.natAbs):=by
 refine zV λhh y K H0 hK=>zL zR yK 100 λhf => ?_;have ret:∀ {m:Nat},m=z.natAbs->K (U m) hh y=.ok True:=λe=>hK _ _ _ _ _ H0 (zK rfl) (by rw [e]);rw [xk.go,xk.t9,zA,xk.zu,zA,zA,xk.zo,yu,zB,xk.v2];by_cases c:z<0
 .rw [Zac c,zD,zA,xk.yt];by_cases d:z = -9223372036854775808
  .subst d;rw [qdi,zzv (by omega)];simp only [zG,zQ];rw [xk.ret];exact ret (by decide)
  .rw [uNeg (by omega),zxw (m:=z.natAbs) (by omega) (by omega)];simp only [zG,zQ];rw [xk.ret];exact ret rfl
 .rw [Zab c,zC,zE,zA,xk.uj,zxw (m:=z.natAbs) (by omega) (by omega)];simp only [zG,zQ];rw [xk.ret];exact ret rfl
theorem zvg {l:List Nat} {k x:Nat} (h:l[k]? = some x) (hx:x≠0):Nm (l.take (k+1)):=by
 unfold Nm;rw [Zar,h];show (l.take k++[x]).getLast? ≠ _;rw [List.getLast?_concat];intro q;cases q;exact hx rfl
theorem Dg.take {b n:Nat} {l:List Nat} (h:Dg b l):Dg b (l.take n):=λx hx=>h x (Zbn hx)
def cmpT (a b:List Nat):Nat->Int
 | 0=>0
 | k+1=>if a.getD k 0=b.getD k 0 then cmpT a b k else if a.getD k 0<b.getD k 0 then -1 else 1
def cmpW (a b:List Nat):Int:=if a.length≠b.length then (if a.length<b.length then -1 else 1) else cmpT a b a.length
theorem jV {l:List Nat} {k:Nat} (h:k<l.length):l[k]? = some (l.getD k 0):=by rw [Zaa,Zgu h];rfl
theorem bL {b:Nat} {l:List Nat} {k:Nat} (hb:0<b) (h:Dg b l):l.getD k 0<b:=by
 by_cases c:k<l.length
 .exact h _ (Zad (jV c))
 .rw [Zaa,Zgz (by omega)];exact hb
theorem zd0 {b:Nat} {x y:List Nat} (hb:0<b) (hx:Dg b x) (hy:Dg b y):∀ {k:Nat},k<=x.length->k<=y.length->cmpT x y k=(if bv b (x.take k)<bv b (y.take k) then -1 else if bv b (y.take k)<bv b (x.take k) then 1 else 0)
 | 0,_,_=>by simp [cmpT,bv]
 | k+1,h1,h2=>by
  have e1:=jV (l:=x) (k:=k) (by omega);have e2:=jV (l:=y) (k:=k) (by omega);have l1:=zdz hb (hx.take (n:=k));have l2:=zdz hb (hy.take (n:=k));rw [Zaj,Zbv (by omega)] at l1 l2;rw [cmpT,dE e1,dE e2,zd0 hb hx hy (by omega) (by omega)]
  generalize bv b (x.take k)=X at *
  generalize bv b (y.take k)=Y at *
  generalize x.getD k 0=u at *
  generalize y.getD k 0=v at *
  generalize b ^ k=P at *
  by_cases c:u=v
  .rw [if_pos c,c];simp only [Nat.add_lt_add_iff_right]
  .rw [if_neg c];by_cases d:u<v
   .have q:P*(u+1)<=P*v:=Zgf P d;rw [Zem,Zcn] at q;have q1:X+P*u<Y+P*v:=by omega
    rw [if_pos d,if_pos q1]
   .have q:P*(v+1)<=P*u:=Zgf P (by omega);rw [Zem,Zcn] at q;have q1:Y+P*v<X+P*u:=by omega
    have q2:¬ X+P*u<Y+P*v:=by omega
    rw [if_neg d,if_neg q2,if_pos q1]
theorem wA {b z n:Nat} (hb:2<=b) (h:z<b ^ n):(dg b z).length<=n:=by
 induction n generalizing z with
 | zero=>rw [show z=0 by simp at h;exact h,gH];simp
 | succ n ih =>
  by_cases hz:z=0
  .rw [hz,gH];simp
  .rw [kS hb hz,Zbc];have:=ih (z:=z / b) (by rw [Zfy (by omega),<- Zdu];exact h);omega
theorem xE {b y z:Nat} (hb:2<=b) (h:(dg b y).length<(dg b z).length):y<z:=by
 rcases Zdv y z with q | q
 .exact q
 .exfalso
  have h1:=wA hb (z:=z) (n:=(dg b y).length) (Zdd q (by
   have:=zdz (b:=b) (by omega) (qM hb y).2.1
   rwa [(qM hb y).1] at this))
  omega
def cmpN (a b:Nat):Int:=if a<b then -1 else if b<a then 1 else 0
theorem zvh {b x y:Nat} (hb:2<=b):cmpW (dg b x) (dg b y)=cmpN x y:=by
 unfold cmpW cmpN;by_cases c:(dg b x).length=(dg b y).length
 .rw [if_neg (by simpa using c),zd0 (by omega) (qM hb x).2.1 (qM hb y).2.1 (Zaf _) (by omega),Zcs,c,Zcs,(qM hb x).1,(qM hb y).1]
 .rw [if_pos c];by_cases d:(dg b x).length<(dg b y).length
  .rw [if_pos d,if_pos (xE hb d)]
  .have:=xE hb (y:=y) (z:=x) (by omega);rw [if_neg d,if_neg (by omega),if_pos this]
theorem pK {α:Type} {A C:List α} {x y:α} {i:Nat} (h:A.length=i):(A++x::C).set i y=A++y::C:=by
 subst h;rw [Zfx _ _ (Zaf _),Zcv];rfl
theorem Dg.append {b:Nat} {l m:List Nat} (h1:Dg b l) (h2:Dg b m):Dg b (l++m):=λx hx=>by
 rcases Zbb.1 hx with q | q
 .exact h1 x q
 .exact h2 x q
theorem Dg.one {b x:Nat} (h:x<b):Dg b [x]:=λy hy=>by rw [Zba.1 hy];exact h
theorem Dg.rep {b n:Nat} (h:0<b):Dg b (List.replicate n 0):=λx hx=>by rw [(List.mem_replicate.1 hx).2];exact h
def zb5:List UInt8:=[0,1,2,2,3,3,3,3,4,4,4,4,4,4,4,4,5,5,5,5,5,5,5,5,5,5,5,5,5,5,5,5,6,6,6,6,6,6,6,6,6,6,6,6,6,6,6,6,6,6,6,6,6,6,6,6,6,6,6,6,6,6,6,6,7,7,7,7,7,7,7,7,7,7,7,7,7,7,7,7,7,7,7,7,7,7,7,7,7,7,7,7,7,7,7,7,7,7,7,7,7,7,7,7,7,7,7,7,7,7,7,7,7,7,7,7,7,7,7,7,7,7,7,7,7,7,7,7,8,8,8,8,8,8,8,8,8,8,8,8,8,8,8,8,8,8,8,8,8,8,8,8,8,8,8,8,8,8,8,8,8,8,8,8,8,8,8,8,8,8,8,8,8,8,8,8,8,8,8,8,8,8,8,8,8,8,8,8,8,8,8,8,8,8,8,8,8,8,8,8,8,8,8,8,8,8,8,8,8,8,8,8,8,8,8,8,8,8,8,8,8,8,8,8,8,8,8,8,8,8,8,8,8,8,8,8,8,8,8,8,8,8,8,8,8,8,8,8,8,8,8,8,8,8,8,8]
theorem zn2:∀ i<256,(zb5[i]?).all (λt=>decide (t.toNat<=8/\i<2 ^ t.toNat/\(0<i->2 ^ t.toNat<=2*i)))=true/\(zb5[i]?).isSome=true:=by decide
def zb6 (x n:Nat):Prop:=n<=64/\x<2 ^ n/\(0<x->2 ^ n<=2*x)
theorem zb7 {x n k:Nat} (h:zb6 (x / 2 ^ k) n) (hx:2 ^ k<=x) (hn:n+k<=64):zb6 x (n+k):=by
 obtain ⟨h1,h2,h3⟩:=h;have hp:0<2 ^ k:=Zgj (by omega);have h4:0<x / 2 ^ k:=Nat.div_pos hx hp;refine ⟨hn,?_,λ_ => ?_⟩
 .rw [Nat.pow_add];exact (Zfy hp).1 h2
 .rw [Nat.pow_add];have:=Zbk (2 ^ k) (h3 h4);have h5:=Nat.div_mul_le_self x (2 ^ k);rw [Zej] at this;omega
theorem zlx {x n:Nat} {K:Kw Prop} {h:T Blk} {g:Pa} {x2 x3 x4:AV} (hx:x<256) (hn:n<=1000) (hK:∀ t,zb6 x t->t<=8->K (I ((n+t:Nat):Int)) h g=.ok True) :
  IR.run yh.t20 (CS Tryz.prog B) 100 (fnO yh.res K) (zf yh.res K) (yh.fr (U x) (I (n:Int)) x2 x3 x4) h g=.ok True:=by
 obtain ⟨a,b⟩:=zn2 x hx;obtain ⟨t,ht⟩:=Option.isSome_iff_exists.1 b;rw [ht] at a;simp only [Option.all_some,decide_eq_true_eq] at a;have hs:∀ K:AV->OP,wU (.str zb5) (.int .u8 (x:Int)) K=K (.int .u8 (t.toNat:Int)):=λK=>by
  show (match zb5[x]? with
   | some b=>dw b.toNat λn=>K (.int .u8 (.ofNat n))
   | none=>.no 16)=_
  rw [ht];simp only [y4];rfl
 have hc:∀ K:AV->OP,wW .u8 (U x) K=K (.int .u8 (x:Int)):=λK=>by
  show wu (kK .u8 (x:Int)) (λz=>K (.int .u8 z))=_;rw [uE,qE];have e:IntKind.wrap .u8 (x:Int)=(x:Int)%256:=by
   unfold IntKind.wrap;first | rfl | simp [IntKind.bits,IntKind.signed]
  rw [e,show (x:Int)%256=(x:Int) by omega]
 rw [yh.t20,zA,yh.rY,hc];rw [show (AV.str [0,1,2,2,3,3,3,3,4,4,4,4,4,4,4,4,5,5,5,5,5,5,5,5,5,5,5,5,5,5,5,5,6,6,6,6,6,6,6,6,6,6,6,6,6,6,6,6,6,6,6,6,6,6,6,6,6,6,6,6,6,6,6,6,7,7,7,7,7,7,7,7,7,7,7,7,7,7,7,7,7,7,7,7,7,7,7,7,7,7,7,7,7,7,7,7,7,7,7,7,7,7,7,7,7,7,7,7,7,7,7,7,7,7,7,7,7,7,7,7,7,7,7,7,7,7,7,7,8,8,8,8,8,8,8,8,8,8,8,8,8,8,8,8,8,8,8,8,8,8,8,8,8,8,8,8,8,8,8,8,8,8,8,8,8,8,8,8,8,8,8,8,8,8,8,8,8,8,8,8,8,8,8,8,8,8,8,8,8,8,8,8,8,8,8,8,8,8,8,8,8,8,8,8,8,8,8,8,8,8,8,8,8,8,8,8,8,8,8,8,8,8,8,8,8,8,8,8,8,8,8,8,8,8,8,8,8,8,8,8,8,8,8,8,8,8,8,8,8,8,8,8,8,8,8,8])=.str zb5 from rfl,hs,zfr (by omega),jg (by omega)];simp only [zG,zQ];rw [yh.ret,show (n:Int)+(t.toNat:Int)=((n+t.toNat:Nat):Int) by omega];exact hK _ ⟨by omega,a.2⟩ a.1
theorem zzx {x:Nat} (hx:x<18446744073709551616):Pure Tryz.prog B 184 [U x] (λv=>∃ n:Nat,v=I (n:Int)/\zb6 x n):=by
 intro p h g K hK;refine zL zR yK 100 λhf => ?_;have fin:∀ {n},zb6 x n->K (I (n:Int)) h g=.ok True:=λh'=>hK _ ⟨_,rfl,h'⟩ hf;have s3:∀ (y n:Nat) (x2 x3 x4:AV),y<65536->n<=48->(∀ t,zb6 y t->t<=16->K (I ((n+t:Nat):Int)) h g=.ok True)->IR.run yh.t21 (CS Tryz.prog B) 100 (fnO yh.res K) (zf yh.res K) (yh.fr (U y) (I (n:Int)) x2 x3 x4) h g=.ok True:=λy n x2 x3 x4 hy hn hK'=>by
  rw [yh.t21,zA,zA,yh.rX,show (AV.int .u64 256)=U 256 from rfl,uGeq,zB,yh.v4];by_cases c:256<=y
  .rw [Zac c,zD,zA,yh.tF,show (AV.int .u64 8)=.int .u64 ((8:Nat):Int) from rfl,uShr (by omega),yh.zge,jg (by omega),show (n:Int)+8=((n+8:Nat):Int) by omega];exact zlx (by omega) (by omega) λt h1 h2=>by
    have:=hK' (t+8) (zb7 h1 c (by omega)) (by omega)
    rwa [show n+(t+8)=n+8+t by omega] at this
  .rw [Zab c,zC,zE];exact zlx (by omega) (by omega) λt h1 h2=>hK' t h1 (by omega)
 have s2:∀ (y n:Nat) (x2 x3 x4:AV),y<4294967296->n<=32->(∀ t,zb6 y t->t<=32->K (I ((n+t:Nat):Int)) h g=.ok True)->IR.run yh.t22 (CS Tryz.prog B) 100 (fnO yh.res K) (zf yh.res K) (yh.fr (U y) (I (n:Int)) x2 x3 x4) h g=.ok True:=λy n x2 x3 x4 hy hn hK'=>by
  rw [yh.t22,zA,zA,yh.ng,show (AV.int .u64 65536)=U 65536 from rfl,uGeq,zB,yh.v3];by_cases c:65536<=y
  .rw [Zac c,zD,zA,yh.rE,show (AV.int .u64 16)=.int .u64 ((16:Nat):Int) from rfl,uShr (by omega),yh.rF,jg (by omega),show (n:Int)+16=((n+16:Nat):Int) by omega];exact s3 _ _ _ _ _ (by omega) (by omega) λt h1 h2=>by
    have:=hK' (t+16) (zb7 h1 c (by omega)) (by omega)
    rwa [show n+(t+16)=n+16+t by omega] at this
  .rw [Zab c,zC,zE];exact s3 _ _ _ _ _ (by omega) (by omega) λt h1 h2=>hK' t h1 (by omega)
 rw [yh.go,yh.t24,zA,yh.zu,zA,zA,yh.zo,show (AV.int .u64 4294967296)=U 4294967296 from rfl,uGeq,zB,yh.v2];by_cases c:4294967296<=x
 .rw [Zac c,zD,zA,yh.yt,show (AV.int .u64 32)=.int .u64 ((32:Nat):Int) from rfl,uShr (by omega),yh.vk];exact s2 _ 32 _ _ _ (by omega) (by omega) λt h1 h2=>by
   have:=fin (zb7 h1 c (by omega))
   rwa [show t+32=32+t by omega] at this
 .rw [Zab c,zC,zE];exact s2 _ 0 _ _ _ (by omega) (by omega) λt h1 h2=>by
   have:=fin h1
   rwa [show t=0+t by omega] at this
theorem zr8 {b q r d a z A:Nat} (h:A=z*d+r) (hq:(r*b+a)=q*d+(r*b+a)%d):a+b*A=(q+b*z)*d+(r*b+a)%d:=by
 rw [h,Zbu,Zem,Zej,Zdb b r];omega
theorem zr9 {k:Nat} {Q:List Nat}:List.replicate (k+1) 0++Q=List.replicate k 0++0::Q:=by
 rw [List.replicate_succ',Zcg];rfl
theorem zsa {b:Nat} {l:List Nat} {k:Nat} (h:k<=l.length):bv b l=bv b (l.take k)+b ^ k*bv b (l.drop k):=by
 have:=wB b (l.take k) (l.drop k)
 rwa [Zfw,Zaj,Zbv h] at this
theorem uAgg {N:Pa->Prop} {O:AV->Prop} {hh:T Blk} {l:List AV} (h:∀ v∈l,rD v=true):Frz True N O hh (.agg l) (.agg l) :=
 .agg _ _ rfl (Zaw.2 λv hv=>rD.gy (h v hv)) λi v v' h1 h2=>by rw [h1] at h2;cases h2;exact zK (h v (Zad h1))
abbrev D (m:Nat):AV:=I (m:Int)
def wz (l:List Nat):AV:=.lst 1 l.length (l.map D)
theorem zsb (l:List Nat):∀ v∈l.map D,rD v=true:=λv hv=>by obtain ⟨x,_,rfl⟩:=Zao.1 hv;rfl
theorem qA (l:List Nat):rD (wz l)=true:=qJ (zsb l)
theorem dGet {l:List Nat} {i x:Nat} (h:l[i]? = some x):(l.map D)[i]? = some (D x):=by rw [Zgw,h];rfl
theorem dLen {l:List Nat} {K:AV->OP}:sLen (wz l) K=K (I l.length):=zS ..
theorem dIx {l:List Nat} {i:Nat} {j:Int} {op:AV->OP} (hj:j=(i:Int)) (hi:i<l.length):zN 1 (wz l) (I j) op=op (.fp ((l.map D).drop (i*1))):=xu hj hi
theorem dLd {l:List Nat} {i x:Nat} {h:T Blk} {op:AV->OP} (hx:l[i]? = some x):zH (.fp ((l.map D).drop (i*1))) h op=op (D x):=ldL (dGet hx)
theorem Hp.letD {h0 h:T Blk} {y:Pa} {L:List Ob} {id:Pa} {l:List Nat} {n:Nat} (H:Hp h0 h y (.arr id (l.map D)::L)) (hn:l.length=n):∃ h',u7 h' h/\Hp h0 h' y L/\sj h' h (.sl id 0 n (some n) 1) (wz l):=by
 subst hn;exact ⟨_,zbn,H.zr7,jr.frz (H.own _ (Zai ..)) (T.get_set_same _ _ _ _) (Zaf _) (by simp) (zsb l)⟩
theorem zzy {l:List Nat} {i:Nat} {op:AV->OP} (hl:1<=l.length) (hi:i<=l.length):xI 1 (wz l) none (some (I (i:Int))) none op=op (wz (l.take i)):=by
 show (bif Nat.beq 1 1&&Nat.ble 1 l.length then (match bnd (some (I (i:Int))) l.length l.length with | none=>Out.no 17 | some h=>match bnd none h 0 with | none=>.no 17 | some q=>op (.lst 1 (h-q) (((l.map D).drop (q*1)).take ((h-q)*1)))) else .no 17)=_;rw [Zak hl];have:bnd (some (I (i:Int))) l.length l.length=some i:=by
  show (bif Nat.ble i l.length then some i else none)=_;rw [Zak hi];rfl
 rw [this];show op (.lst 1 (i-0) (((l.map D).drop (0*1)).take ((i-0)*1)))=_;unfold wz;rw [Zaj,Zbv hi,Zfr];simp
theorem Hp.om {h0 h:T Blk} {y:Pa} {L:List Ob} (H:Hp h0 h y L) (e:Nat):Hp h0 h y (.gro none e 0 []::L) :=
  ⟨H.keep,fun x hx=>by rcases Zaq.1 hx with rfl | q;· exact ⟨rfl,rfl⟩
                       . exact H.own x q,λn hn=>H.off n (by simpa [Ob.names] using hn),by have:=H.nd;simpa [Ob.names] using this,H.fr⟩
theorem zft {l:List Nat} (hd:Dg 1000000000 l) (hl:l.length<=1000000):Pure Tryz.prog B 199 [wz l] (· = wz (dg 1000000000 (bv 1000000000 l))):=by
 refine zV λh y K H0 hK=>zL zR yK 1000010 λhf => ?_;rw [ji.go,ji.t12,zA,ji.zu,zA,zJ];refine ji.t7_L (λm x0 h' y'=>x0=wz (l.take m)/\m<=l.length/\bv 1000000000 (l.take m)=bv 1000000000 l/\Hp h h' y' []) (m:=l.length) (by omega) ⟨by rw [Zcs],by omega,by rw [Zcs],H0⟩ ?_;rintro m z0 z2 h3 y3 R ⟨rfl,hm,hb,H3⟩ hR;have fin:Nm (l.take m)->K (wz (l.take m)) h3 y3=.ok True:=λhn=>hK _ _ _ _ _ H3 (zK (qA _)) (by rw [<- hb,<- c8 (by decide) hd.take hn]);have hlen:(l.take m).length=m:=by rw [Zaj];omega
 rw [ji.t6,zA,zA,ji.zo,ji.sH,ji.sJ,dLen,kg,hlen];cases m with
 | zero =>
  rw [Zab (by omega)];simp only [yY];rw [ji.tO,ji.rM];simp only [yY,zW];rw [zB,ji.v2,zC,zY,yD,zA,ji.rF];simp only [zG,zQ];rw [ji.ret];exact fin (by simp [Nm])
 | succ k =>
  have e:l[k]? = some (l.getD k 0):=jV (by omega);have e':(l.take (k+1))[k]? = some (l.getD k 0):=by rw [Zhb (by omega),e]
  rw [Zac (by omega)];simp only [yN];rw [dLen,hlen,xg (by omega),ji.tO,ji.rM];simp only [yN];rw [dIx (i:=k) (by omega) (by omega),dLd e',qf,zT,zB,ji.v2];by_cases d:l.getD k 0=0
  .rw [Zac (by omega),zD,zE,zJ,ji.nY,dLen,hlen,xg (by omega),show ((k+1:Nat):Int)-1=((k:Nat):Int) by omega,zzy (by omega) (by omega),List.take_take,Zbv (by omega)];refine hR k _ _ _ _ (by omega) ⟨rfl,by omega,?_,H3⟩;rw [dE e,d] at hb;simpa using hb
  .rw [Zab (by omega),zC,zY,yD,zA,ji.rF];simp only [zG,zQ];rw [ji.ret];exact fin (zvg e d)
def oJ (z:Int):AV:=.agg [.bool (decide (z<0)),wz (dg 1000000000 z.natAbs)]
theorem zz0 {b:Bool} {l:List Nat} {K:AV->OP}:gV [(.bool false),.zb] [(0,1,.bool b),(1,1,wz l)] K=K (.agg [.bool b,wz l]):=nr rfl
theorem dAgg {N:Pa->Prop} {O:AV->Prop} {hh:T Blk} {b:Bool} {l:List Nat}:Frz True N O hh (.agg [.bool b,wz l]) (.agg [.bool b,wz l]):=uAgg λv hv=>by
 simp only [Zaq,List.not_mem_nil,or_false] at hv;rcases hv with rfl | rfl
 .rfl
 .exact qA l
theorem zfu {n:Nat} (h:n≠0):1<=(dg 1000000000 n).length:=by rw [kS (by decide) h];simp
theorem xT {b:Bool} {l:List Nat} (hd:Dg 1000000000 l) (hl:l.length<=1000000):Pure Tryz.prog B 196 [.bool b,wz l] (· = oJ (if b then -(bv 1000000000 l:Int) else (bv 1000000000 l:Int))):=by
 refine zV λh y K H0 hK=>zL zR yK 100 λhf => ?_;rw [mh.go,mh.t5,zA,mh.zu];refine H0.alloc λp h1 y1 H1 => ?_;rw [zA,mh.zo];refine zft hd hl _ _ _ _ ?_;rintro _ rfl _;rw [zA,mh.yt];have key:∀ c:Bool,c=(b&&decide (0<bv 1000000000 l))->(gV [(.bool false),.zb] [(0,1,.bool c),(1,1,wz (dg 1000000000 (bv 1000000000 l)))] λv5=>yA 2 (.ptr p 0) v5 h1 y1 λv6 h7 n8=>IR.run .ret (CS Tryz.prog B) 100 (fnO mh.res K) (zf mh.res K) (mh.fr (.bool b) (wz (dg 1000000000 (bv 1000000000 l))) (.ptr p 0)) h7 n8)=.ok True:=by
  intro c hc;rw [zz0];refine H1.jc (l2:=[.bool c,wz (dg 1000000000 (bv 1000000000 l))]) (k:=0) rfl rfl rfl λh2 H2 => ?_;simp only [zG,zQ];rw [mh.ret,H2.zi (k:=0) (n:=2) rfl rfl];refine hK _ _ _ _ _ H2 dAgg ?_;unfold oJ;subst hc;cases b with
  | false=>rw [if_neg (by decide),Zbj,Zab (show ¬ ((bv 1000000000 l:Int)<0) by omega)];rfl
  | true =>
   rw [if_pos rfl,Zed,Zbj,Bool.true_and]
   congr 3
   exact decide_eq_decide.2 (by omega)
 cases b with
 | false =>
  simp only [yY,zW];exact key _ rfl
 | true =>
  simp only [yN];rw [dLen,kg,zT];refine key _ ?_;rw [Bool.true_and];refine decide_eq_decide.2 ?_;rcases Zel (bv 1000000000 l) with q | q
  .rw [q,gH];simp
  .have:=zfu (n:=bv 1000000000 l) (by omega);omega
theorem zvi {a b:List Nat} (ha:a.length<=1000000) (hb:b.length<=1000000):Pure Tryz.prog B 197 [wz a,wz b] (· = I (cmpW a b)):=by
 refine zV λh y K H0 hK=>zL zR yK 1000010 λhf' => ?_;have ret:∀ {h1 y1 L} {z:Int},Hp h h1 y1 L->z=cmpW a b->K (I z) h1 y1=.ok True:=λH e=>hK _ _ _ _ _ H (zK rfl) (by rw [e]);rw [zy.go,zy.t38,zA,zy.zu,zA,zA,zy.zo,dLen,dLen,qj,zB,zy.v4];by_cases c:a.length=b.length
 case neg =>
  rw [Zab (by omega),Zal,zD,zA,zA,zy.yt,dLen,dLen,yu,zB,zy.v5];by_cases d:a.length<b.length
  .rw [Zac (by omega),zD,zA,zy.vk];simp only [zG,zQ];rw [zy.ret];exact ret H0 (by rw [cmpW,if_pos c,if_pos d])
  .rw [Zab (by omega),zC,zE,zA,zy.ng];simp only [zG,zQ];rw [zy.ret];exact ret H0 (by rw [cmpW,if_pos c,if_neg d])
 rw [Zac (by omega),Zah,zC,zE,zA,zA,zy.nZ,dLen,xg (by omega),zJ];refine zy.zgf (λm x3 h' y'=>∃ k:Nat,x3=I ((k:Int)-1)/\m=k/\k<=a.length/\cmpT a b k=cmpT a b a.length/\Hp h h' y' []) (m:=a.length) (by omega) ⟨a.length,rfl,rfl,by omega,rfl,H0⟩ ?_;rintro m z2 z3 z6 z7 z8 h3 y3 R ⟨k,rfl,rfl,hk,hc,H3⟩ hR;rw [zy.t30,zA,zA,zy.rX,bq];cases m with
 | zero =>
  rw [Zab (by omega),zB,zy.v6,zC,zY,yD,zA,zy.zc5];simp only [zG,zQ];rw [zy.ret];exact ret H3 (by rw [cmpW,if_neg (λq=>q c),<- hc];rfl)
 | succ k =>
  have ea:=jV (l:=a) (k:=k) (by omega);have eb:=jV (l:=b) (k:=k) (by omega);rw [cmpT] at hc;rw [Zac (by omega),zB,zy.v6,zD,zE,zA,zJ,zA,zA,zy.rU,dIx (i:=k) (by omega) (by omega),dLd ea,dIx (i:=k) (by omega) (by omega),dLd eb,yu,zB,zy.v7];by_cases e:a.getD k 0<b.getD k 0
  .rw [if_neg (by omega),if_pos e] at hc;rw [Zac (by omega),zD,zA,zy.rG];simp only [zG,kV,zQ];rw [zy.ret];exact ret H3 (by rw [cmpW,if_neg (λq=>q c),<- hc])
  rw [Zab (by omega),zC,zE,zA,zy.eO,dIx (i:=k) (by omega) (by omega),dLd ea,dIx (i:=k) (by omega) (by omega),dLd eb,kg,zB,zy.v8];by_cases d:a.getD k 0=b.getD k 0
  .rw [if_pos d] at hc;rw [Zab (by omega),zC,zE,zy.zac,xg (by omega)];exact hR k _ _ _ _ _ _ _ (by omega) ⟨k,by congr 1;omega,rfl,by omega,hc,H3⟩
  .rw [if_neg d,if_neg e] at hc;rw [Zac (by omega),zD,zA,zy.tT];simp only [zG,kV,zQ];rw [zy.ret];exact ret H3 (by rw [cmpW,if_neg (λq=>q c),<- hc])
theorem zh4 {a b:Int} {K:AV->OP} (ha : -9223372036854775808<=a/\a<=9223372036854775807) (hb:1<=b):za .quo .int (I a) (I b) K=K (I (a.tdiv b)):=by
 have e:za .quo .int (I a) (I b) K=(bif ieq b 0 then Out.no 5 else wu (IntKind.i64.wrap (a.tdiv b)) λz=>K (.int .i64 z)):=rfl;have h0:ieq b 0=false:=by rw [xM];exact Zab (by omega)
 rw [e,h0,cond_false,uE,Go.IntWalk.i64_quo' a b ⟨ha.1,ha.2,hb⟩]
theorem zh5 {a b:Int} {K:AV->OP} (hb:1<=b):za .rem .int (I a) (I b) K=K (I (a.tmod b)):=by
 have e:za .rem .int (I a) (I b) K=(bif ieq b 0 then Out.no 5 else wu (a.tmod b) λz=>K (.int .i64 z)):=rfl;have h0:ieq b 0=false:=by rw [xM];exact Zab (by omega)
 rw [e,h0,cond_false,uE]
theorem Hp.zd1 {h0 h:T Blk} {g:Pa} {L:List Ob} {o:Option Pa} {n bytes:Nat} {l:List AV} {z v:AV} {K:Kw Prop} (H:Hp h0 h g (.gro o 1 n l::L)) (hn:n+1<=1000000) (hb:bytes*1000000<=70368744177664) (hv:v.cells=some [v]) (hs:gy v=true)
  (hK:∀ o' h' g',Hp h0 h' g' (.gro o' 1 (n+1) (l++[v])::L)->K (uf o' 1 (n+1)) h' g'=.ok True) :
  (y3 1 1 [z] [(0,1,v)] h g λv2 h3 n4=>tJ 1 bytes (uf o 1 n) v2 h3 n4 K)=.ok True:=by
 have fill:gL (fe 1 [z]) [(0,1,v)]=some [v]:=by simp only [gL,hv];rfl
 refine H.qw (l:=[v]) fill λid h1 n1 H1 => ?_;refine H1.appN (k:=1) (new:=[v]) (c:=1) rfl ((H1.own _ (Zai ..)).rd (n:=1) (e:=1) rfl) rfl (by simp [hs]) (by omega) hb hn λo' h2 n2 _ H2 => ?_;exact hK o' h2 n2 (Hp.drop H2)
theorem Hp.zly {h0 h:T Blk} {y:Pa} {L:List Ob} {o:Option Pa} {n:Nat} {Z:List Nat} (H:Hp h0 h y (.gro o 1 n (Z.map D)::L)) (hn:Z.length=n):∃ h',u7 h' h/\Hp h0 h' y L/\sj h' h (uf o 1 n) (wz Z):=by
 obtain ⟨h',a,b,c⟩:=H.zj6 (zsb Z);exact ⟨h',a,b,by rw [wz,hn];exact c⟩
theorem sMkD {n:Nat} {x:Int} {h0 h:T Blk} {y:Pa} {L:List Ob} {K:Kw Prop} (H:Hp h0 h y L) (hx:x=(n:Int)) (hn:n<=1000000)
  (hK:∀ id h' y',Hp h0 h' y' (.arr id ((List.replicate n 0).map D)::L)->K (.sl id 0 n (some n) 1) h' y'=.ok True):uG 1 8 [(I 0)] (I x) (I x) h y K=.ok True :=
 H.mk1 n hx hx hn (by omega) λid h' y' H'=>hK id h' y' (by rw [List.map_replicate];exact H')
theorem zh6 {l:List Nat} {d:Nat} (hd:1<=d) (hdN:d<1000000000) (hl:Dg 1000000000 l) (hs:l.length<=100000):Pure Tryz.prog B 198 [wz l,D d] (· = .tup [wz (dg 1000000000 (bv 1000000000 l / d)),D (bv 1000000000 l%d)]):=by
 refine zV λh y K H0 hK=>zL zR yK 1000010 λhf => ?_;rw [jb.go,jb.t24,zA,jb.zu,zA,jb.zo,dLen];refine sMkD (n:=l.length) H0 rfl (by omega) λid h1 y1 H1 => ?_;rw [zA,jb.yt,zA,zA,jb.vk,dLen,xg (by omega),zJ];refine jb.eT (λm x5 x6 h' y'=>∃ (r:Nat) (Q:List Nat),x5=D r/\x6=I ((m:Int)-1)/\m<=l.length/\Q.length=l.length-m/\Dg 1000000000 Q/\r<d/\bv 1000000000 (l.drop m)=bv 1000000000 Q*d+r/\Hp h h' y' [.arr id ((List.replicate m 0++Q).map D)]) (m:=l.length) (by omega) ⟨0,[],rfl,rfl,by omega,by simp,λ_ h=>by simp at h,by omega,by simp [bv],by simpa using H1⟩ ?_;rintro m z5 z6 z7 z8 h3 y3 R ⟨r,Q,rfl,rfl,hm,hQ,hdQ,hr,hv,H3⟩ hR;rw [jb.t15,zA,zA,jb.nY,bq];cases m with
 | zero =>
  rw [Zab (by omega),zB,jb.v8,zC,zY,yD,zA,jb.rY];simp only [List.replicate_zero,Zbf] at H3;obtain ⟨h5,hkp,H5,hF⟩:=H3.letD (n:=l.length) (by omega);refine fB hkp (.cons hF .nil) ?_;refine zft hdQ (by omega) _ _ _ _ ?_;rintro _ rfl _;simp only [zG,zQ];rw [jb.ret];refine hK _ _ _ _ _ H5 (jI (zK (qA _)) (zK rfl)) ?_;rw [Zcw] at hv;obtain ⟨a1,a2⟩:=zzt hv hr;rw [a1,a2]
 | succ k =>
  have ea:=jV (l:=l) (k:=k) (by omega);have haW:=bL (k:=k) (by decide) hl;have e0:l.drop k=l.getD k 0::l.drop (k+1):=by
   have ea:=ea;rw [Zgu (by omega)] at ea;rw [Zav (by omega),Option.some.inj ea]
  generalize hX:l.getD k 0=x at *
  have hdm:r*1000000000+x=(r*1000000000+x) / d*d+(r*1000000000+x)%d:=by
   rw [Zdb _ d];exact (Nat.div_add_mod _ _).symm
  have hqW:(r*1000000000+x) / d<1000000000:=by
   rw [Zfy (by omega)];have:(r+1)*1000000000<=d*1000000000:=Zbk _ hr;omega
  have hrd:(r*1000000000+x)%d<d:=Zdr _ (by omega);have eq1:((r:Int)*1000000000+(x:Int)).tdiv (d:Int)=(((r*1000000000+x) / d:Nat):Int):=by rw [Int.tdiv_eq_ediv_of_nonneg (by omega)];simp
  have eq2:((r:Int)*1000000000+(x:Int)).tmod (d:Int)=(((r*1000000000+x)%d:Nat):Int):=by rw [Zew (by omega)];simp
  rw [Zac (by omega),zB,jb.v8,zD,zE,zA,zJ,zA,jb.ng,nk (by omega),dIx (i:=k) (by omega) (by omega),dLd ea,jg (by omega),zA,jb.rE];rw [zh4 (by omega) (by omega),eq1,sIx (i:=k) (by omega) (by omega)];rw [zr9] at H3;refine H3.store (k:=0) rfl (by simp) rfl λh4 H4 => ?_;rw [jb.rF,zh5 (by omega),eq2]
  generalize hQ':(r*1000000000+x) / d=q at *
  simp only [Zff] at H4;rw [Zbi,Zdh,pK (by simp)] at H4;rw [jb.rX,xg (by omega)];refine hR k _ _ _ _ _ _ (by omega) ⟨_,q::Q,rfl,by congr 1;omega,by omega,by simp;omega,?_,hrd,?_,by simpa using H4⟩
  .exact (Dg.one hqW).append hdQ
  .rw [e0,bv,bv];exact zr8 hv hdm
theorem Hp.appE {h0 h:T Blk} {j e:Pa} {L:List Ob} {K:Kw Prop} {w:AV} {new:List AV} {c bytes:Nat} (H:Hp h0 h j (.arr e []::L)) (hr:∀ (no:OP) (K':List AV->Nat->OP),dR w h no K'=K' new c) (hl:new.length=c) (hs:new.all gy=true) (hb:bytes*1000000<=70368744177664) (hc1:1<=c) (hc:c<=1000000)
  (hK:∀ id h' j',Hp h0 h' j' (.gro (some id) 1 c new::L)->K (.sl id 0 c none 1) h' j'=.ok True) :
  tJ 1 bytes (.sl e 0 0 (some 0) 1) w h j K=.ok True:=by
 unfold tJ appA;rw [hr];have hcc:(Nat.ble (bytes*1000000) 70368744177664&&Nat.beq new.length (c*1)&&Nat.ble 1 1&&new.all gy)=true:=by
  simp only [Zap,hs,and_true];exact ⟨⟨Zak hb,by rw [hl,Zcn];exact Zbz _⟩,rfl⟩
 rw [hcc,cond_true];obtain ⟨op,t,g1,g2⟩:jr h e []:=H.own _ (Zai ..);show (bif Nat.beq 1 1&&Nat.ble (0+c) 1000000 then qb (T.get .no e h) _ (.no 35) else .no 36)=_;rw [g1,Zak (by omega)];show (bif Nat.ble (0+c) 0 then (bif Nat.ble (0+(0+c)*1) 0 then vN e 0 0 (some 0) 1 op 0 t new c h j _ else .no 32) else xQ 0 0 1 t new c h j _)=_;rw [bleF (by omega),cond_false];unfold xQ;rw [yW,y4,Zbd,show yR t 0 (0*1)++new=new from rfl];refine hK j _ _ (Hp.new (x:=.gro (some j) 1 c new) H.drop rfl λh' q => ?_);refine ⟨_,by rw [q,hl,Zcn],by rw [hl,Zcn],?_⟩;have:=mJ new;rw [hl] at this;rw [Zcn];exact this
theorem Hp.zkq {h0 h:T Blk} {y id:Pa} {L:List Ob} {n:Nat} {l:List AV} (H:Hp h0 h y (.gro (some id) 1 n l::L)):Hp h0 h y (.arr id l::L):=by
 obtain ⟨t,h1,h2,h3⟩:=H.own _ (Zai ..);rw [Zcn] at h1 h2 h3;refine ⟨H.keep,λx hx => ?_,λn hn=>H.off n (by simpa [Ob.names] using hn),by have:=H.nd;simpa [Ob.names] using this,H.fr⟩;rcases Zaq.1 hx with rfl | q
 .exact ⟨true,t,by rw [h1,h2],by rw [h2];exact h3⟩
 .exact H.own x (Zam _ q)
theorem qdj {id:Pa} {n i:Nat} {op:AV->OP} (hi:i<=n):xI 1 (.sl id 0 n none 1) none (some (I (i:Int))) none op=op (.sl id 0 i none 1):=by
 have e:xI 1 (.sl id 0 n none 1) none (some (I (i:Int))) none op=(match bnd (some (I (i:Int))) n n with
  | none=>Out.no 17
  | some h=>op (.sl id 0 h none 1)):=rfl
 rw [e,vK hi]
def S9 (n:Nat):Prop:=(dg 1000000000 n).length<=99990
theorem zb8 {b d:Nat} (hb:2<=b) (h:(dg b d).length=1):dg b d=[d]/\d<b:=by
 have od:=qM hb d;have e1:dg b d=[d]:=by
  cases hdd:dg b d with
  | nil=>rw [hdd] at h;cases h
  | cons x l =>
   rw [hdd] at h;have:l=[]:=by cases l with
    | nil=>rfl
    | cons y l=>simp at h
   subst this;have:=od.1;rw [hdd] at this;simp [bv] at this;rw [this]
 exact ⟨e1,od.2.1 d (by rw [e1];simp)⟩
theorem c7 {a d:Nat} (hd:1<=d) (hdN:d<1000000000) (ha:S9 a) (hds:S9 d):Pure Tryz.prog B 139 [wz (dg 1000000000 a),wz (dg 1000000000 d)] (· = .tup [wz (dg 1000000000 (a / d)),wz (dg 1000000000 (a%d))]):=by
 refine zV λh y K H0 hK=>zL zR yK 1000010 λhf => ?_;have oa:=qM (b:=1000000000) (by decide) a;have od:=qM (b:=1000000000) (by decide) d;unfold S9 at ha hds;rw [uy.go,uy.t109,zA,uy.zu,zA,zA,uy.zo];refine zvi (by omega) (by omega) _ _ _ _ ?_;rintro _ rfl _;rw [zvh (by decide),yu,zB,uy.v21];by_cases c:a<d
 .rw [Zac (by rw [cmpN,if_pos c];decide),zD,zA,uy.yt];simp only [zG,zQ];rw [uy.ret];refine hK _ _ _ _ _ H0 (jI (.oQ 1) (zK (qA _))) ?_;rw [Zes c,Zbx c,gH];rfl
 rw [Zab (by rw [cmpN,if_neg c];split <;> decide),zC,zE,zA,zA,uy.uj,dLen,qf,zB,uy.v22];have hla:(dg 1000000000 d).length<=(dg 1000000000 a).length:=by
  rcases Zdv (dg 1000000000 a).length (dg 1000000000 d).length with q | q
  .have:=xE (b:=1000000000) (by decide) q;omega
  .exact q
 have hld1:1<=(dg 1000000000 d).length:=zfu (by omega);by_cases c1:(dg 1000000000 d).length=1
 .obtain ⟨e1,hdW⟩:=zb8 (b:=1000000000) (by decide) c1;rw [Zac (by omega),zD,e1,zA,uy.ng,dIx (l:=[d]) (i:=0) (j:=0) rfl (by simp),dLd (x:=d) rfl];refine zh6 hd hdW oa.2.1 (by omega) _ _ _ _ ?_;rintro _ rfl _;rw [yZ,jC,oa.1,zA,uy.rE];have hml:=Zdr a (show 0<d by omega);refine H0.qw (l:=[D (a%d)]) rfl λtb h1 y1 H1 => ?_;obtain ⟨h2,hkp,H2,hF⟩:=H1.letD (l:=[a%d]) (n:=1) rfl;refine fB hkp (.cons hF .nil) ?_;refine zft (Dg.one (by omega)) (by simp) _ _ _ _ ?_;rintro _ rfl _;simp only [zG,zQ];rw [uy.ret];exact hK _ _ _ _ _ H2 (jI (zK (qA _)) (zK (qA _))) (by simp [bv])
 exact absurd (by rw [kS (by decide) (by omega),Zes hdN,gH];rfl) c1
def Z9 (k:Nat) (z:Int):Prop:=z.natAbs<1000000000 ^ k
theorem Z9.len {k:Nat} {z:Int} (h:Z9 k z):(dg 1000000000 z.natAbs).length<=k:=wA (by decide) h
theorem mR {b x y:Nat} (hb:2<=b) (h:x<=y):(dg b x).length<=(dg b y).length:=by
 rcases Zdv (dg b y).length (dg b x).length with q | q
 .have:=xE (b:=b) hb q;omega
 .exact q
theorem vT (z:Int):oJ z=.agg [.bool (decide (z<0)),wz (dg 1000000000 z.natAbs)]:=rfl
theorem zh7 {a:Int} {k:Nat} (hk:k<=90000) (ha:Z9 k a):Pure Tryz.prog B 202 [oJ a] (· = oJ (-a)):=by
 have oa:=qM (b:=1000000000) (by decide) a.natAbs;have la:=ha.len;rw [vT];refine zV λh y K H0 hK=>zL zR yK 100 λhf => ?_;rw [nS.go,nS.t3,zA,nS.zu];refine H0.box (l:=[.bool (decide (a<0)),wz (dg 1000000000 a.natAbs)]) rfl λpa h1 y1 H1 => ?_;refine H1.alloc λp h3 y3 H3 => ?_;rw [zA,nS.zo,sFx,H3.load (k:=1) (i:=0+0) rfl rfl,jB,sFx,H3.load (k:=1) (i:=0+1) rfl rfl];refine xT oa.2.1 (by omega) _ _ _ _ ?_;rintro _ rfl _;have e:(if !decide (a<0) then -(bv 1000000000 (dg 1000000000 a.natAbs):Int) else (bv 1000000000 (dg 1000000000 a.natAbs):Int)) = -a:=by
  rw [oa.1];by_cases d:a<0
  .rw [Zac d,if_neg (by decide)];omega
  .rw [Zab d,if_pos (by decide)];omega
 rw [e];refine H3.jc (l2:=[.bool (decide (-a<0)),wz (dg 1000000000 (-a).natAbs)]) (k:=0) rfl rfl rfl λh4 H4 => ?_;simp only [zG,zQ];rw [nS.ret,H4.zi (k:=0) (n:=2) rfl rfl];exact hK _ _ _ _ _ H4 dAgg rfl
end Go.Ev
