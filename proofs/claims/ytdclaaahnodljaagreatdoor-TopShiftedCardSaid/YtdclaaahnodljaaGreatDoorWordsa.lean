import Derived.Test.YtdclaaahnodljaaGreatDoorCodea
import Derived.Test.YtdclaaahnodljaaGreatDoorEvD
import GoSem.Core.Next
import Derived.Lib.Small
import Derived.Lib.Walk
import Derived.Deep.Draws
import Derived.Lib.Agree
import Derived.Shelf.SlLaysF
import Derived.Shelf.RegionOpenPlain
import Derived.WalkKit
import Derived.Deep.LoopGhost
import Derived.Test.YtdclaaahnodljaaGreatDoorProg
import Derived.Test.YtdclaaahnodljaaGreatDoorEvC
import Derived.Test.YtdclaaahnodljaaGreatDoorLaws
import Derived.Sort.Grow
import Derived.Sort.Row
import Derived.KernelRfl
import Derived.Shelf.SlSortCmp.Whole1
import Derived.Deep.Slices
import Derived.Shelf.SlSortCmp.InsertionK
import Derived.Shelf.SlSortCmp.WholeK
set_option linter.unusedSimpArgs false
set_option linter.unusedVariables false
noncomputable section
namespace Go.Ev
open Go Go.Proofs
theorem yh {B:Nat}:mT Tryz.prog B Prop:=zbo mixed
variable {B:Nat}
end Go.Ev
namespace Go.Ev
open Go Go.Proofs
variable {B:Nat}
theorem pR (b:Bool) (e:Int):Pure Tryz.prog B 44 [.bool b,I e] (· = I (if b then e else 0)):=by
 intro p h nx K hK;refine zM zP yh 9 fun hf => ?_;rw [F44.go];cases b <;> simp (disch:=omega) only [jf,pq,rV,fQ,qm,jk,sJ,xk,rC,zV,zT,zD,zE,jM,yL,yQ,jZ,yW,jA,jB,gI,jV,jR,jU,zL,yX,yN,zC,decide_true,decide_false,Zaf,Zah,jE] <;> exact hK _ rfl hf
def gQ:List Int->Int
 | []=>0
 | e::l=>if e≠0 then e else gQ l
theorem qF:∀ (l:List Int) (i:Nat),(∀ e∈l.take i,e=0)->gQ l=gQ (l.drop i)
 | l,0,_=>rfl
 | [],_+1,_=>rfl
 | e::l,i+1,h=>by
  have h0:e=0:=h e (by simp);rw [gQ,if_neg (by simp [h0]),List.drop_succ_cons];exact qF l i fun x hx=>h x (by simp [hx])
theorem zb3 {l:List Int} (hl:l.length<=1000000):Pure Tryz.prog B 42 [encI l] (· = I (gQ l)):=by
 intro p h nx K hK;refine zM zP yh 10000000 fun hf => ?_;rw [F42.go];simp (disch:=omega) only [jf,pq,rV,fQ,qm,jk,sJ,xk,rC,zV,zT,zD,zE,jM,yL,yQ,jZ,yW,jA,jB,gI,jV,jR,jU,zL,yX,yN,zC,decide_true,decide_false,Zaf,Zah,jE];refine F42.L1 (fun m z5 h' nx'=>∃ i:Nat,z5=I i/\l.length-i=m/\i<=l.length/\h'=h/\nx'=nx/\∀ e∈l.take i,e=0) (m:=l.length) (by omega) ⟨0,rfl,rfl,by omega,rfl,rfl,by simp⟩ ?_;rintro m z1 z2 z5 z6 z7 _ _ R ⟨i,rfl,rfl,hi,rfl,rfl,htk⟩ hR;simp (disch:=omega) only [jf,pq,rV,fQ,qm,jk,sJ,xk,rC,zV,zT,zD,zE,jM,yL,yQ,jZ,yW,jA,jB,gI,jV,jR,jU,zL,yX,yN,zC,decide_true,decide_false,Zaf,Zah,jE];by_cases hlt:i<l.length
 ·simp only [show (i:Int)<(l.length:Int) by omega,decide_true,zD];have hx:l[i]? = some l[i]:=List.getElem?_eq_getElem hlt;rw [cZ rfl hlt,ldL (rJ hx)];simp (disch:=omega) only [jf,pq,rV,fQ,qm,jk,sJ,xk,rC,zV,zT,zD,zE,jM,yL,yQ,jZ,yW,jA,jB,gI,jV,jR,jU,zL,yX,yN,zC,decide_true,decide_false,Zaf,Zah,jE];have hd:l.drop i=l[i]::l.drop (i+1):=Zar hlt;by_cases h0:l[i]=0
  ·simp only [h0,decide_true,Zaf,zE];refine hR _ _ _ _ _ _ _ _ (by omega) ⟨i+1,rfl,rfl,by omega,rfl,rfl,fun e he => ?_⟩;rw [Zaq,hx] at he;rcases List.mem_append.1 he with q | q
   ·exact htk e q
   ·simp at q;rw [q];exact h0
  ·simp only [h0,decide_false,Zah,zD];refine hK _ ?_ hf;rw [qF l i htk,hd,gQ,if_pos h0]
 ·simp only [show ¬ (i:Int)<(l.length:Int) by omega,decide_false,zE];rw [F42.k8];refine hK _ ?_ hf;rw [qF l i htk,Zbq (by omega)];rfl
theorem zpb {a b:List Int} (ha:a.length<=1000000000):Pure Tryz.prog B 190 [encI a,encI b] (· = .bool (decide (a=b))):=by
 intro p h nx K hK;refine zM zP yh (a.length+2) fun hf => ?_;rw [jr.go];simp (disch:=omega) only [jf,pq,rV,fQ,qm,jk,sJ,xk,rC,zV,zT,zD,zE,jM,yL,yQ,jZ,yW,jA,jB,gI,jV,jR,jU,zL,yX,yN,zC,decide_true,decide_false,Zaf,Zah,jE];by_cases hl:a.length=b.length
 ·simp only [hl,decide_true,Zaf,zE];refine jr.L2 (fun m z6 h' nx'=>∃ i:Nat,z6=I i/\a.length-i=m/\i<=a.length/\h'=h/\nx'=nx/\a.take i=b.take i) (m:=a.length) (by omega) ⟨0,rfl,by simp,by omega,rfl,rfl,by simp⟩ ?_;rintro m z2 z3 z6 z7 z8 _ _ R ⟨i,rfl,rfl,hi,rfl,rfl,htk⟩ hR;simp (disch:=omega) only [jf,pq,rV,fQ,qm,jk,sJ,xk,rC,zV,zT,zD,zE,jM,yL,yQ,jZ,yW,jA,jB,gI,jV,jR,jU,zL,yX,yN,zC,decide_true,decide_false,Zaf,Zah,jE];by_cases hlt:i<a.length
  ·have hb:i<b.length:=by omega
   simp only [show (i:Int)<(b.length:Int) by omega,decide_true,zD];rw [cZ rfl hlt,ldL (rJ (List.getElem?_eq_getElem hlt)),cZ rfl hb,ldL (rJ (List.getElem?_eq_getElem hb))];simp (disch:=omega) only [jf,pq,rV,fQ,qm,jk,sJ,xk,rC,zV,zT,zD,zE,jM,yL,yQ,jZ,yW,jA,jB,gI,jV,jR,jU,zL,yX,yN,zC,decide_true,decide_false,Zaf,Zah,jE];by_cases he:a[i]=b[i]
   ·simp only [he,decide_true,Zaf,zE];refine hR (a.length-(i+1)) _ _ _ _ _ _ _ (by omega) ⟨i+1,rfl,rfl,by omega,rfl,rfl,?_⟩;rw [Zaq,Zaq,htk,List.getElem?_eq_getElem hlt,List.getElem?_eq_getElem hb,he]
   ·simp only [he,decide_false,Zah,zD];refine hK _ ?_ hf;rw [decide_eq_false];rintro rfl;exact he rfl
  ·simp only [show ¬ (i:Int)<(b.length:Int) by omega,decide_false,zE];rw [jr.k9];refine hK _ ?_ hf;rw [Zap (by omega),Zap (by omega)] at htk;rw [decide_eq_true htk]
 ·have h1:¬ (a.length:Int)=b.length:=by omega
  simp only [h1,decide_false,Zah,zD];refine hK _ ?_ hf;rw [decide_eq_false];rintro rfl;exact hl rfl
theorem zf1 {h0 h:T Blk} {nx:Pa} {L:List Ob} {k:Nat} {x p:Pa} {l:List Int} {prev:List (List Int)} {K:Kw Prop} (H:Hp h0 h nx L) (hk:L[k]? = some (.arr x [encI l])) (hp:prev.length<=1000000) (hw:∀ q∈prev,q.length<=1000000)
  (hK:K (.bool (decide (l∈prev))) h nx=.ok True):(CS Tryz.prog B).fn 196 p [pz prev,.fn 197 (.of 197) [.ptr x 0]] h nx K=.ok True:=by
 refine yE (p:=.of 196) (K:=K) (zM zP yh 9 fun hf => ?_) fun _ _ _ _ q=>q;rw [oQ.go];refine yE (p:=.of 238) (K:=fun v1 h2 n3=>zf .geq .int v1 (I 0) fun v4=>K v4 h2 n3) (zM zP yh 10000000 fun hf => ?_) fun _ _ _ _ q=>q;rw [uf.go];simp (disch:=omega) only [jf,pq,rV,fQ,qm,jk,sJ,xk,rC,zV,zT,zD,zE,jM,yL,yQ,jZ,yW,jA,jB,gI,jV,jR,jU,zL,yX,yN,zC,decide_true,decide_false,Zaf,Zah,jE];refine uf.L1 (fun m z5 h' nx'=>∃ i:Nat,z5=I i/\prev.length-i=m/\i<=prev.length/\h'=h/\nx'=nx/\l∉prev.take i) (m:=prev.length) (by omega) ⟨0,rfl,rfl,by omega,rfl,rfl,by simp⟩ ?_;rintro m z2 z3 z5 z6 z7 _ _ R ⟨i,rfl,rfl,hi,rfl,rfl,htk⟩ hR;simp (disch:=omega) only [jf,pq,rV,fQ,qm,jk,sJ,xk,rC,zV,zT,zD,zE,jM,yL,yQ,jZ,yW,jA,jB,gI,jV,jR,jU,zL,yX,yN,zC,decide_true,decide_false,Zaf,Zah,jE];by_cases hlt:i<prev.length
 ·simp only [show (i:Int)<(prev.length:Int) by omega,decide_true,zD];have hx:prev[i]? = some prev[i]:=List.getElem?_eq_getElem hlt;rw [cZ rfl hlt,ldL (getT hx),j3];refine yE (p:=.of 197) (zM zP yh 9 fun hf => ?_) fun _ _ _ _ q=>q;show zO tbl 9 _ (Pa.of 197) [encI prev[i],.ptr x 0] _ _ _=_;rw [oP.go,H.load (k:=k) (i:=0) hk rfl];refine zpb (Zbm (hw _ (Zal hlt)) (by omega)) _ _ _ _ ?_;rintro _ rfl _;by_cases he:prev[i]=l
  ·simp only [he,decide_true,zD,rC,show (0:Int)<=(i:Int) by omega];rw [decide_eq_true (he ▸ Zal hlt)] at hK;exact hK
  ·simp only [he,decide_false,zE];refine hR _ _ _ _ _ _ _ _ (by omega) ⟨i+1,rfl,rfl,by omega,rfl,rfl,fun q => ?_⟩;rw [Zaq,hx] at q;rcases List.mem_append.1 q with q | q
   ·exact htk q
   ·simp at q;exact he q.symm
 ·simp only [show ¬ (i:Int)<(prev.length:Int) by omega,decide_false,zE];rw [uf.k8];rw [Zap (by omega)] at htk;rw [decide_eq_false htk] at hK;simp only [rC,show ¬ (0:Int) <= -1 by omega,decide_false];exact hK
def jT (cells:Int):Option Int->List Int->Int
 | _,[]=>0
 | p,c::l=>if c<0\/cells<=c then 10 else if p.any (fun q=>decide (c<=q)) then 11 else jT cells (some c) l
def uV (cells:Int) (prev:List (List Int)) (l:List Int):Int:=if l=[] then 12 else if jT cells none l≠0 then jT cells none l else if l∈prev then 9 else 0
def qC (cells:Int):List (List Int)->List (List Int)->Int
 | _,[]=>0
 | prev,l::r=>if uV cells prev l≠0 then uV cells prev l else qC cells (prev++[l]) r
def gA (cells:Int) (lines:List (List Int)):Int:=if cells<1\/256<cells then 3 else if 128<lines.length then 5 else qC cells [] lines
def pv (l:List Int) (k:Nat):Option Int:=if k=0 then none else l[k-1]?
theorem zj1 {l:List Int} {k:Nat} (h:k<l.length):pv l (k+1)=some l[k]:=by simp [pv,h]
theorem zso {n i:Nat} {l:List AV} {op:AV->OP} (hn:1<=n) (hi:i<=n):vF 1 (.lst 1 n l) none (some (I (i:Int))) none op=op (.lst 1 i (l.take i)):=by
 show (bif Nat.beq 1 1&&Nat.ble 1 n then (match bnd (some (I (i:Int))) n n with | none=>Out.no 17 | some h=>match bnd none h 0 with | none=>.no 17 | some q=>op (.lst 1 (h-q) ((l.drop (q*1)).take ((h-q)*1)))) else .no 17)=_;rw [Zac hn];have:bnd (some (I (i:Int))) n n=some i:=by
  show (bif Nat.ble i n then some i else none)=_;rw [Zac hi];rfl
 rw [this];show op (.lst 1 (i-0) ((l.drop (0*1)).take ((i-0)*1)))=_;simp
theorem u9 {P:Program} {f:Nat} {p id:Pa} {h0 h:T Blk} {nx:Pa} {L:List Ob} {k:Nat} {l:List Int} {K:Kw Prop} {Q:AV->Prop} (H:Hp h0 h nx L) (hk:L[k]? = some (.arr id (l.map I))) (hq:∀ B,Pure P B f [encI l] Q) (hpl:∀ v,Q v->Plain v)
  (hK:∀ v,Q v->K v h nx=.ok True):(CS P B).fn f p [.sl id 0 l.length (some l.length) 1] h nx K=.ok True :=
 dB (.cons (yw.frz (H.own _ (Zaa hk)) (T.cu _ id) (Zai _) (by simp) fun v hv=>by obtain ⟨x,_,rfl⟩:=List.mem_map.1 hv;rfl) .nil) (by
  have:=uM l;simp only [nns,fH.nn this,Bool.and_self]) hq hpl fun v hv _=>hK v hv
theorem zb4 {h:T Blk} {nx:Pa} {l:List Int} {g:Nat} {p q:Pa} {cap:List AV} {pr:Int->Bool} {K:Kw Prop} (hl:l.length<=1000000) (hcl:∀ x∈l,∀ K:Kw Prop,K (.bool (pr x)) h nx=.ok True->(CS Tryz.prog B).fn g q (I x::cap) h nx K=.ok True)
  (hK:K (.bool (l.any pr)) h nx=.ok True):(CS Tryz.prog B).fn 66 p [encI l,.fn g q cap] h nx K=.ok True:=by
 refine yE (p:=.of 66) (K:=K) (zM zP yh 9 fun hf => ?_) fun _ _ _ _ q=>q;rw [F66.go];refine yE (p:=.of 127) (K:=fun v1 h2 n3=>zf .geq .int v1 (I 0) fun v4=>K v4 h2 n3) (zM zP yh 10000000 fun hf => ?_) fun _ _ _ _ q=>q;rw [gq.go];simp (disch:=omega) only [jf,pq,rV,fQ,qm,jk,sJ,xk,rC,zV,zT,zD,zE,jM,yL,yQ,jZ,yW,jA,jB,gI,jV,jR,jU,zL,yX,yN,zC,decide_true,decide_false,Zaf,Zah,jE];refine gq.L1 (fun m z5 h' nx'=>∃ i:Nat,z5=I i/\l.length-i=m/\i<=l.length/\h'=h/\nx'=nx/\(l.take i).any pr=false) (m:=l.length) (by omega) ⟨0,rfl,rfl,by omega,rfl,rfl,by simp⟩ ?_;rintro m z2 z3 z5 z6 z7 _ _ R ⟨i,rfl,rfl,hi,rfl,rfl,htk⟩ hR;simp (disch:=omega) only [jf,pq,rV,fQ,qm,jk,sJ,xk,rC,zV,zT,zD,zE,jM,yL,yQ,jZ,yW,jA,jB,gI,jV,jR,jU,zL,yX,yN,zC,decide_true,decide_false,Zaf,Zah,jE];by_cases hlt:i<l.length
 ·simp only [show (i:Int)<(l.length:Int) by omega,decide_true,zD];have hx:l[i]? = some l[i]:=List.getElem?_eq_getElem hlt;rw [cZ rfl hlt,ldL (rJ hx),j3];refine hcl _ (Zal hlt) _ ?_;cases he:pr l[i] with
  | true =>
   simp only [zD,rC,show (0:Int)<=(i:Int) by omega,decide_true];rw [List.any_eq_true.2 ⟨_,Zal hlt,he⟩] at hK;exact hK
  | false =>
   simp only [zE];refine hR _ _ _ _ _ _ _ _ (by omega) ⟨i+1,rfl,rfl,by omega,rfl,rfl,?_⟩;rw [Zaq,hx,List.any_append,htk];simp [he]
 ·simp only [show ¬ (i:Int)<(l.length:Int) by omega,decide_false,zE];rw [gq.k8];rw [Zap (by omega)] at htk;rw [htk] at hK;simp only [rC,show ¬ (0:Int) <= -1 by omega,decide_false];exact hK
theorem zei {a b:Int} {l:List Int} (hl:l.length<=1000000):Pure Tryz.prog B 70 [I a,I b,encI l] (· = I (if l.any (fun x=>decide (x<a)||decide (b<x)) then 3 else 0)):=by
 refine yC fun h nx K H0 hK=>zM zP yh 1000 fun hf => ?_;rw [F70.go];refine H0.box (l:=[I a]) rfl fun x1 h1 nx1 H1 => ?_;refine H1.box (l:=[I b]) rfl fun x2 h2 nx2 H2 => ?_;refine zb4 (pr:=fun x=>decide (x<a)||decide (b<x)) hl (fun x _ K hK => ?_) ?_
 ·refine yE (p:=.of 131) (K:=K) (zM zP yh 9 fun hf => ?_) fun _ _ _ _ q=>q;show zO tbl 9 _ (Pa.of 131) [I x,.ptr x1 0,.ptr x2 0] _ _ _=_;rw [oU.go,H2.load (k:=1) (i:=0) rfl rfl];by_cases c:x<a
  ·simp only [jk,c,decide_true,yQ,zV];simpa [c] using hK
  ·simp only [jk,c,decide_false,yL];rw [H2.load (k:=0) (i:=0) rfl rfl];simp only [xk,zT];simpa [c] using hK
 ·refine pR _ _ _ _ _ _ ?_;rintro _ rfl _;exact hK _ _ _ _ _ H2 (zK rfl) rfl
theorem zsp {cells:Int} {lines:List (List Int)} {i:Nat} {l:List Int} (hi:lines[i]? = some l) (hn:lines.length<=1000000) (hw:∀ q∈lines,q.length<=1000000):Pure Tryz.prog B 136 [.agg [I cells,pz lines],I i] (· = I (uV cells (lines.take i) l)):=by
 refine yC fun h nx K H0 hK=>zM zP yh 10000000 fun hf => ?_;have hlt:i<lines.length:=(List.getElem?_eq_some_iff.1 hi).1;have hlw:=hw l (Zaa hi);rw [jo.go];refine H0.box (l:=[I cells,pz lines]) rfl fun bx h1 nx1 H1 => ?_;rw [sFx,H1.load (k:=0) (i:=0+1) rfl rfl,cZ rfl hlt,ldL (getT hi)];refine H1.alloc fun x h2 nx2 H2 => ?_;refine H2.store (k:=0) rfl (by decide) rfl fun h3 H3 => ?_;rw [H3.load (k:=0) (i:=0) rfl rfl];simp (disch:=omega) only [jf,pq,rV,fQ,qm,jk,sJ,xk,rC,zV,zT,zD,zE,jM,yL,yQ,jZ,yW,jA,jB,gI,jV,jR,jU,zL,yX,yN,zC,decide_true,decide_false,Zaf,Zah,jE];have ret:∀ (v:Int) h' nx' L,v=uV cells (lines.take i) l->Hp h h' nx' L->K (I v) h' nx'=.ok True:=fun v h' nx' L hv H'=>by rw [hv];exact hK _ _ _ _ _ H' (zK rfl) rfl
 by_cases h0:l.length=0
 ·simp only [show (l.length:Int)=0 by omega,decide_true,zD];have hl0:l=[]:=Zbc h0;exact ret 12 _ _ _ (by rw [uV,if_pos hl0]) H3
 simp only [show ¬ (l.length:Int)=0 by omega,decide_false,zE];have hl0:l≠[]:=fun q=>h0 (by rw [q];rfl);have hcell:jT cells none l≠0->jT cells none l=uV cells (lines.take i) l:=fun h=>by rw [uV,if_neg hl0,if_pos h]
 rw [H3.load (k:=0) (i:=0) rfl rfl];simp (disch:=omega) only [jf,pq,rV,fQ,qm,jk,sJ,xk,rC,zV,zT,zD,zE,jM,yL,yQ,jZ,yW,jA,jB,gI,jV,jR,jU,zL,yX,yN,zC,decide_true,decide_false,Zaf,Zah,jE];refine jo.L2 (fun m z11 h' nx'=>∃ k:Nat,z11=I k/\l.length-k=m/\k<=l.length/\Hp h h' nx' [.arr x [encI l],.arr bx [I cells,pz lines]]/\jT cells none l=jT cells (pv l k) (l.drop k)) (m:=l.length) (by omega) ⟨0,rfl,rfl,by omega,H3,rfl⟩ ?_;rintro m z3 z5 z6 z7 z11 z12 z13 h1 nx1 R ⟨k,rfl,rfl,hk,H1,hce⟩ hR;simp (disch:=omega) only [jf,pq,rV,fQ,qm,jk,sJ,xk,rC,zV,zT,zD,zE,jM,yL,yQ,jZ,yW,jA,jB,gI,jV,jR,jU,zL,yX,yN,zC,decide_true,decide_false,Zaf,Zah,jE];by_cases hkt:k<l.length
 case neg =>
  simp only [show ¬ (k:Int)<(l.length:Int) by omega,decide_false,zE];have hz:jT cells none l=0:=by rw [hce,Zbq (by omega)];rfl
  rw [jo.k9,sFx,H1.load (k:=1) (i:=0+1) rfl rfl,zso (by omega) (by omega)];have ep:AV.lst 1 i ((lines.map encI).take i)=pz (lines.take i):=by
   rw [<- List.map_take];simp [pz,Nat.min_eq_left (Nat.le_of_lt hlt)]
  rw [ep];refine zf1 H1 (k:=0) rfl (by rw [Zaz];omega) (fun q hq=>hw q (Zcf hq)) ?_;refine pR _ _ _ _ _ _ ?_;rintro _ rfl _;refine ret _ _ _ _ ?_ H1;have e9:uV cells (lines.take i) l=if l∈lines.take i then 9 else 0:=by rw [uV,if_neg hl0,if_neg (by rw [hz];simp)]
  rw [e9];by_cases hin:l∈lines.take i <;> simp [hin]
 simp only [show (k:Int)<(l.length:Int) by omega,decide_true,zD];have hxk:l[k]? = some l[k]:=List.getElem?_eq_getElem hkt;have hdk:l.drop k=l[k]::l.drop (k+1):=Zar hkt;rw [cZ rfl hkt,ldL (rJ hxk)]
 have tail:∀ (b1 b2:Bool) (z:AV) (z':AV) (Z:AV->T Blk->Pa->Out Prop),b1=(decide (l[k]<0\/cells<=l[k]))->b2=(pv l k).any (fun q=>decide (l[k]<=q)) ->
   (∀ (e:Int) h' nx',e=(if l[k]<0\/cells<=l[k] then 10 else if (pv l k).any (fun q=>decide (l[k]<=q)) then 11 else 0)->Hp h h' nx' [.arr x [encI l],.arr bx [I cells,pz lines]]->Z (I e) h' nx'=.ok True) ->
   (CS Tryz.prog B).fn 44 (.of 44) [.bool b2,I 11] h1 nx1 (fun v22 h23 n24=>yS 1 2 [(I 0)] [(0,1,I (if b1 then 10 else 0)),(1,1,v22)] h23 n24 fun v25 h26 n27=>(CS Tryz.prog B).fn 42 (.of 42) [v25] h26 n27 Z)=.ok True:=by
  intro b1 b2 z z' Z e1 e2 hZ;refine pR _ _ _ _ _ _ ?_;rintro _ rfl _;refine H1.yc (l:=[I (if b1 then 10 else 0),I (if b2 then 11 else 0)]) rfl fun id h4 nx4 H4 => ?_;refine u9 (l:=[if b1 then 10 else 0,if b2 then 11 else 0]) H4 (k:=0) rfl (fun B=>zb3 (by simp)) (fun v hv=>by rw [hv];exact .int _ _) ?_;rintro _ rfl;refine hZ _ _ _ ?_ H4.drop;subst e1 e2;by_cases c1:l[k]<0\/cells<=l[k]
  ·simp [c1,gQ]
  ·cases c2:(pv l k).any (fun q=>decide (l[k]<=q)) <;> simp [c1,gQ]
 have fin:∀ (e:Int) h' nx',e=(if l[k]<0\/cells<=l[k] then 10 else if (pv l k).any (fun q=>decide (l[k]<=q)) then 11 else 0)->Hp h h' nx' [.arr x [encI l],.arr bx [I cells,pz lines]] ->
   (zf .neq .int (I e) (I 0) fun v31=>zX v31 (K (I e) h' nx') (R (jo.fr (.agg [I cells,pz lines]) (I i) (.ptr bx 0) z3 (.ptr x 0) (I k) (I l[k]) (I e) (.bool false) (encI l) (I l.length) (I ((k:Int)+1)) (.bool true) v31) h' nx'))=.ok True:=by
  intro e h' nx' he H';have hstep:jT cells none l=if e≠0 then e else jT cells (some l[k]) (l.drop (k+1)):=by
   rw [hce,hdk,jT,he];by_cases c1:l[k]<0\/cells<=l[k]
   ·simp [c1]
   ·cases c2:(pv l k).any (fun q=>decide (l[k]<=q)) <;> simp [c1]
  simp (disch:=omega) only [jf,pq,rV,fQ,qm,jk,sJ,xk,rC,zV,zT,zD,zE,jM,yL,yQ,jZ,yW,jA,jB,gI,jV,jR,jU,zL,yX,yN,zC,decide_true,decide_false,Zaf,Zah,jE];by_cases c:e=0
  ·simp only [c,decide_true,Zaf,zE];refine hR _ _ _ _ _ _ _ _ _ _ (by omega) ⟨k+1,rfl,rfl,by omega,H',?_⟩;rw [hstep,if_neg (by simp [c]),zj1 hkt]
  ·simp only [c,decide_false,Zah,zD];rw [if_pos c] at hstep;exact ret _ _ _ _ (by rw [<- hcell (by rw [hstep];exact c),hstep]) H'
 have mid:∀ b1:Bool,b1=decide (l[k]<0\/cells<=l[k]) ->
   (CS Tryz.prog B).fn 44 (.of 44) [.bool b1,I 10] h1 nx1 (fun v10 h11 n12 =>
    sG (.bool (decide (0<(k:Int)))) true (fun k=>zB (.ptr x 0) h11 k) fun v14=>sG (.bool (decide (0<(k:Int)))) true (fun q=>q (I (k:Int))) fun v15=>sG (.bool (decide (0<(k:Int)))) true (fun k=>zf .sub .int v15 (I 1) k) fun v16=>sG (.bool (decide (0<(k:Int)))) true (fun k=>zS 1 v14 v16 k) fun v17=>sG (.bool (decide (0<(k:Int)))) true (fun k=>zB v17 h11 k) fun v18 =>
    sG (.bool (decide (0<(k:Int)))) true (fun q=>q (I l[k])) fun v19=>sG (.bool (decide (0<(k:Int)))) true (fun k=>zf .geq .int v18 v19 k) fun v20=>jC (.bool (decide (0<(k:Int)))) v20 (.bool false) fun v21 =>
    (CS Tryz.prog B).fn 44 (.of 44) [v21,I 11] h11 n12 fun v22 h23 n24=>yS 1 2 [(I 0)] [(0,1,v10),(1,1,v22)] h23 n24 fun v25 h26 n27=>(CS Tryz.prog B).fn 42 (.of 42) [v25] h26 n27 fun v28 h29 n30 =>
    zf .neq .int v28 (I 0) fun v31=>zX v31 (K v28 h29 n30) (R (jo.fr (.agg [I cells,pz lines]) (I i) (.ptr bx 0) z3 (.ptr x 0) (I k) (I l[k]) v28 (.bool false) (encI l) (I l.length) (I ((k:Int)+1)) (.bool true) v31) h29 n30))=.ok True:=by
  intro b1 e1;refine pR _ _ _ _ _ _ ?_;rintro _ rfl _;by_cases ck:0<k
  ·obtain ⟨k,rfl⟩:∃ j,k=j+1:=⟨k-1,by omega⟩;have hk1:k<l.length:=by omega
   have hxk1:l[k]? = some l[k]:=List.getElem?_eq_getElem hk1;simp only [show (0:Int)<((k+1:Nat):Int) by omega,decide_true,jM,zV];rw [H1.load (k:=0) (i:=0) rfl rfl,pq (by omega),cZ (i:=k) (by omega) hk1,ldL (rJ hxk1)];simp only [rC];exact tail _ _ .undef .undef _ e1 (by rw [zj1 hk1];rfl) fin
  ·obtain rfl:k=0:=by omega
   simp only [show ¬ (0:Int)<((0:Nat):Int) by omega,decide_false,jZ,zT];exact tail _ _ .undef .undef _ e1 rfl fin
 by_cases c:l[k]<0
 ·simp only [jk,c,decide_true,yQ,zV];exact mid true (by simp [c])
 ·simp only [jk,c,decide_false,yL,sFx];rw [H1.load (k:=1) (i:=0) rfl rfl];simp only [rC,zT];exact mid _ (by simp [c])
theorem zzk {cells:Int} {lines:List (List Int)} (hw:∀ q∈lines,q.length<=1000000):Pure Tryz.prog B 73 [.agg [I cells,pz lines]] (· = I (gA cells lines)):=by
 refine yC fun h nx K H0 hK=>zM zP yh 10000000 fun hf => ?_;rw [F73.go];refine H0.box (l:=[I cells,pz lines]) rfl fun bx h1 nx1 H1 => ?_;rw [sFx,H1.load (k:=0) (i:=0) rfl rfl,sFx,H1.load (k:=0) (i:=0+1) rfl rfl];simp only [zL,xk];refine H1.yc (l:=[I cells]) rfl fun id h2 nx2 H2 => ?_;simp only [zC,zL];rw [H2.load (k:=1) (i:=0+1) rfl rfl];simp only [zC,sFx];refine dB (args':=[I 1,I 256,encI [cells]]) (.cons (.int _ _) (.cons (.int _ _) (.cons (yw.frz (H2.own (.arr id [I cells]) (by simp)) (T.cu _ id) (Zai _) rfl (fun v hv=>by simp at hv;subst hv;rfl)) .nil))) rfl (fun B=>zei (l:=[cells]) (by simp)) (fun v hv=>by rw [hv];exact .int _ _) ?_;rintro _ rfl _;rw [H2.load (k:=1) (i:=0+1) rfl rfl];simp only [zC,zL];refine pR _ _ _ _ _ _ ?_;rintro _ rfl _;refine H2.yc (l:=[I (if [cells].any (fun x=>decide (x<1)||decide (256<x)) then 3 else 0),I (if decide (128<(lines.length:Int)) then 5 else 0)]) rfl fun id3 h3 nx3 H3 => ?_;refine u9 (l:=[if [cells].any (fun x=>decide (x<1)||decide (256<x)) then 3 else 0,if decide (128<(lines.length:Int)) then 5 else 0]) H3 (k:=0) rfl (fun B=>zb3 (by simp)) (fun v hv=>by rw [hv];exact .int _ _) ?_;rintro _ rfl;have ret:∀ (v:Int) h' nx' L,v=gA cells lines->Hp h h' nx' L->K (I v) h' nx'=.ok True:=fun v h' nx' L hv H'=>by rw [hv];exact hK _ _ _ _ _ H' (zK rfl) rfl
 have ef:gQ [if [cells].any (fun x=>decide (x<1)||decide (256<x)) then 3 else 0,if decide (128<(lines.length:Int)) then 5 else 0]=if cells<1\/256<cells then 3 else if 128<lines.length then 5 else 0:=by
  by_cases c:cells<1\/256<cells
  ·simp [gQ,c]
  ·by_cases c2:128<lines.length
   ·have:(128:Int)<(lines.length:Int):=by omega
    simp [gQ,c,c2,this]
   ·have:¬ (128:Int)<(lines.length:Int):=by omega
    simp [gQ,c,c2,this]
 rw [ef];simp only [qm];by_cases hc:cells<1\/256<cells
 ·simp only [hc,if_true];simp only [show ¬ (3:Int)=0 by omega,decide_false,Zah,zD];exact ret 3 _ _ _ (by rw [gA,if_pos hc]) H3
 simp only [hc,if_false];by_cases hm:128<lines.length
 ·simp only [hm,if_true];simp only [show ¬ (5:Int)=0 by omega,decide_false,Zah,zD];exact ret 5 _ _ _ (by rw [gA,if_neg hc,if_pos hm]) H3
 simp only [hm,if_false,decide_true,Zaf,zE];rw [H3.load (k:=2) (i:=0+1) rfl rfl];simp only [zL];have hs:gA cells lines=qC cells [] lines:=by rw [gA,if_neg hc,if_neg hm]
 refine F73.L2 (fun m z8 h' nx'=>∃ i:Nat,z8=I i/\lines.length-i=m/\i<=lines.length/\Hp h h' nx' [.arr bx [I cells,pz lines]]/\gA cells lines=qC cells (lines.take i) (lines.drop i)) (m:=lines.length) (by omega) ⟨0,rfl,rfl,by omega,H3.drop.drop,by simpa using hs⟩ ?_;rintro m z2 z4 z5 z8 z9 z10 h4 nx4 R ⟨i,rfl,rfl,hi,H4,he⟩ hR;simp (disch:=omega) only [jf,pq,rV,fQ,qm,jk,sJ,xk,rC,zV,zT,zD,zE,jM,yL,yQ,jZ,yW,jA,jB,gI,jV,jR,jU,zL,yX,yN,zC,decide_true,decide_false,Zaf,Zah,jE];by_cases hlt:i<lines.length
 case neg =>
  simp only [show ¬ (i:Int)<(lines.length:Int) by omega,decide_false,zE];rw [F73.k9];exact ret 0 _ _ _ (by rw [he,Zbq (by omega)];rfl) H4
 simp only [show (i:Int)<(lines.length:Int) by omega,decide_true,zD];obtain ⟨l,hx⟩:∃ l,lines[i]? = some l:=⟨_,List.getElem?_eq_getElem hlt⟩;have hd:lines.drop i=l::lines.drop (i+1):=by
  rw [Zar hlt];rw [List.getElem?_eq_getElem hlt] at hx;rw [Option.some.inj hx]
 have htake:lines.take (i+1)=lines.take i++[l]:=by rw [Zaq,hx];rfl
 rw [H4.zk (k:=0) (n:=2) rfl rfl];refine zsp hx (by omega) hw _ _ _ _ ?_;rintro _ rfl _;simp only [qm];by_cases c:uV cells (lines.take i) l=0
 ·simp only [c,decide_true,Zaf,zE];refine hR _ _ _ _ _ _ _ _ _ (by omega) ⟨i+1,rfl,rfl,by omega,H4,?_⟩;rw [he,hd,qC,if_neg (by rw [c];simp),htake]
 ·simp only [c,decide_false,Zah,zD];exact ret _ _ _ _ (by rw [he,hd,qC,if_pos c]) H4
end Go.Ev
namespace Go.Ev
def AscL (cells:Nat) (l:List Int):Prop:=l≠[]/\l.Pairwise (· < ·)/\∀ c∈l,0<=c/\c<(cells:Int)
abbrev srt (l:List Int):List Int:=l.mergeSort fun x y=>decide (x<=y)
theorem zb5 {l l':List Int} (hp:l'.Perm l) (hs:l'.Pairwise (· <= ·)):l'=srt l:=by
 refine (hp.trans (List.mergeSort_perm l _).symm).eq_of_pairwise (le:=(· <= ·)) ?_ hs ?_
 ·intro a b _ _ h1 h2;omega
 ·have:=List.pairwise_mergeSort (le:=fun x y:Int=>decide (x<=y)) (by intro a b c;simp;omega) (by intro a b;simp;omega) l;exact this.imp (by intro a b h;simpa using h)
theorem qA (l:List Int):(srt l).Perm l:=List.mergeSort_perm l _
structure Ins (l out:List Int) (i k:Nat):Prop where
 perm:out.Perm l
 ex:∃ (A:List Int) (x:Int) (B R:List Int),out=A++x::(B++R)/\A.length=k/\A.length+B.length=i/\(A++B).Pairwise (· <= ·)/\∀ b∈B,x<b
theorem Ins.start {l out:List Int} {i:Nat} (hp:out.Perm l) (hi:i<out.length) (hs:(out.take i).Pairwise (· <= ·)):Ins l out i i :=
 ⟨hp,out.take i,out[i],[],out.drop (i+1),by simp,by simp;omega,by simp;omega,by simpa using hs,by simp⟩
theorem Ins.swap {l out:List Int} {i k:Nat} (H:Ins l out i (k+1)) {a x:Int} (ha:out[k]? = some a) (hx:out[k+1]? = some x) (hlt:x<a):Ins l ((out.set (k+1) a).set k x) i k:=by
 obtain ⟨hp,A,x',B,R,rfl,hA,hi,hs,hb⟩:=H;obtain ⟨A,a',rfl⟩:∃ A' a',A=A'++[a']:=⟨A.dropLast,A.getLast (by intro q;rw [q] at hA;simp at hA),(List.dropLast_concat_getLast _).symm⟩;have hA':A.length=k:=by simpa using hA
 have e1:a'=a:=by
  rw [Zbp,List.getElem?_append_right (by omega),hA',Nat.sub_self] at ha;simpa using ha
 have e2:x'=x:=by
  rw [List.getElem?_append_right (by simp;omega)] at hx;simp [hA'] at hx;exact hx
 subst e1 e2;have e3:((A++[a']++x'::(B++R)).set (k+1) a').set k x'=A++x'::((a'::B)++R):=by
  have h1:(A++[a']++x'::(B++R)).set (k+1) a'=A++a'::a'::(B++R):=by
   rw [Zbp,List.set_append_right _ _ (by omega),hA',show k+1-k=1 by omega];rfl
  rw [h1,List.set_append_right _ _ (by omega),hA',Nat.sub_self];rfl
 rw [e3];refine ⟨List.Perm.trans ?_ hp,A,x',a'::B,R,rfl,hA',by simp at hi ⊢;omega,by simpa [Zbp] using hs,?_⟩
 ·rw [Zbp];refine List.Perm.append_left A ?_;exact List.Perm.swap _ _ _
 ·intro b hb';rcases List.mem_cons.1 hb' with rfl | q
  ·exact hlt
  ·exact hb b q
theorem Ins.done {l out:List Int} {i k:Nat} (H:Ins l out i k) (h:k=0\/∃ j a x,k=j+1/\out[j]? = some a/\out[k]? = some x/\¬ x<a):out.Perm l/\(out.take (i+1)).Pairwise (· <= ·):=by
 obtain ⟨hp,A,x,B,R,rfl,hA,hi,hs,hb⟩:=H;refine ⟨hp,?_⟩;have e:(A++x::(B++R)).take (i+1)=A++x::B:=by
  rw [show A++x::(B++R)=(A++x::B)++R by simp];exact List.take_left' (by simp;omega)
 rw [e];have hs':=List.pairwise_append.1 hs;refine List.pairwise_append.2 ⟨hs'.1,List.pairwise_cons.2 ⟨fun b hb'=>by have:=hb b hb';omega,hs'.2.1⟩,?_⟩;have key:∀ a∈A,a<=x:=by
  rcases h with rfl | ⟨j,a0,x0,rfl,h1,h2,h3⟩
  ·obtain rfl:A=[]:=Zbc hA;simp
  ·obtain ⟨A,a',rfl⟩:∃ A' a',A=A'++[a']:=⟨A.dropLast,A.getLast (by intro q;rw [q] at hA;simp at hA),(List.dropLast_concat_getLast _).symm⟩;have hA':A.length=j:=by simpa using hA
   have e1:a'=a0:=by
    rw [Zbp,List.getElem?_append_right (by omega),hA',Nat.sub_self] at h1;simpa using h1
   have e2:x=x0:=by
    rw [List.getElem?_append_right (by simp;omega)] at h2;simp [hA'] at h2;exact h2
   subst e1 e2;intro a ha;rcases List.mem_append.1 ha with q | q
   ·have:=(List.pairwise_append.1 hs'.1).2.2 a q a' (by simp);omega
   ·simp at q;omega
 intro a ha b hb';rcases List.mem_cons.1 hb' with rfl | q
 ·exact key a ha
 ·exact hs'.2.2 a ha b q
def incr (d:List Int) (c:Int):List Int:=d.set c.toNat (d.getD c.toNat 0+1)
@[simp] theorem zuk (d:List Int) (c:Int):(incr d c).length=d.length:=by simp [incr]
def Bd (d:List Int) (M:Nat):Prop:=∀ v∈d,0<=v/\v<=(M:Int)
theorem Bd.incr {d:List Int} {M:Nat} (h:Bd d M) {c:Int} (hc:c.toNat<d.length):Bd (incr d c) (M+1):=by
 intro v hv;rcases Zcn hv with q | rfl
 ·have:=h v q;omega
 ·rw [Zab,List.getElem?_eq_getElem hc];have:=h _ (Zal hc);simp only [Option.getD_some];omega
theorem Bd.mono {d:List Int} {M N:Nat} (h:Bd d M) (hm:M<=N):Bd d N:=fun v hv=>by have:=h v hv;omega
theorem Bd.line {W:Nat}:∀ {l d:List Int} {M:Nat},Bd d M->(∀ c∈l,c.toNat<d.length)->l.length<=W->Bd (l.foldl Ev.incr d) (M+W)
 | [],d,M,h,_,_=>h.mono (by omega)
 | c::l,d,M,h,hc,hl=>by
  rw [Zcg];simp only [Zbz] at hl;have:=Bd.line (W:=W-1) (l:=l) (h.incr (hc c (by simp))) (fun x hx=>by simpa using hc x (by simp [hx])) (by omega);exact this.mono (by omega)
theorem Bd.srt {d:List Int} {M:Nat} (h:Bd d M):Bd (Ev.srt d) M:=fun v hv=>h v ((qA d).mem_iff.1 hv)
@[simp] theorem zie (d:List Int):(Ev.srt d).length=d.length:=(qA d).length_eq
def gB:List Int->List Int->Bool
 | _,[]=>false
 | [],_::_=>true
 | a::xs,b::ys=>if a=b then gB xs ys else decide (a<b)
theorem zb6:∀ (i:Nat) (a b:List Int),a.take i=b.take i->i<=a.length->i<=b.length->gB a b=gB (a.drop i) (b.drop i)
 | 0,a,b,_,_,_=>rfl
 | i+1,a::xs,b::ys,h,h1,h2=>by
  simp only [List.take_succ_cons,List.cons.injEq] at h;rw [gB,if_pos h.1,List.drop_succ_cons,List.drop_succ_cons];exact zb6 i xs ys h.2 (by simpa using h1) (by simpa using h2)
 | i+1,[],_,_,h1,_=>by simp at h1
 | i+1,_::_,[],_,_,h2=>by simp at h2
def cmpL (a b:List Int):Int:=if gB a b then -1 else if a=b then 0 else 1
def Nrm (f:List Int):Prop:=f.Nodup/\∀ x∈f,1<=x/\x<=(f.length:Int)
theorem pU:∀ (l r:List Int),l.Nodup->(∀ x∈l,x∈r)->∃ s,r.Perm (l++s)
 | [],r,_,_=>⟨r,.refl _⟩
 | a::l,r,hn,hs=>by
  obtain ⟨h1,h2⟩:=List.nodup_cons.1 hn;have ha:=hs a (by simp);obtain ⟨s,hp⟩:=pU l (r.erase a) h2 fun x hx=>(List.mem_erase_of_ne (by rintro rfl;exact h1 hx)).2 (hs x (by simp [hx]));exact ⟨s,(List.perm_cons_erase ha).trans (.cons a hp)⟩
abbrev upTo (n:Nat):List Int:=(List.range n).map fun (i:Nat)=>(i:Int)+1
theorem zf2 (n:Nat):(upTo n).Pairwise (· <= ·):=by
 rw [Zbl];exact List.pairwise_lt_range.imp (by intro a b h;omega)
theorem zif (n:Nat):(upTo n).Nodup:=by
 rw [List.Nodup,Zbl];exact List.pairwise_lt_range.imp (by intro a b h;omega)
theorem zsn (f:List Int):srt f=upTo f.length↔Nrm f:=by
 constructor
 ·intro h;have hp:(upTo f.length).Perm f:=h ▸ qA f;refine ⟨hp.nodup_iff.1 (zif _),fun x hx => ?_⟩;have:=hp.mem_iff.2 hx;obtain ⟨i,hi,rfl⟩:=List.mem_map.1 this;have:=List.mem_range.1 hi;omega
 ·rintro ⟨h1,h2⟩;obtain ⟨s,hs⟩:=pU f (upTo f.length) h1 fun x hx=>by
   obtain ⟨q1,q2⟩:=h2 x hx;exact List.mem_map.2 ⟨(x-1).toNat,List.mem_range.2 (by omega),by omega⟩
  have hl:=hs.length_eq;obtain rfl:s=[]:=Zbc (by rw [Zau,Zas,List.length_range] at hl;omega);rw [Zcp] at hs;exact (zb5 hs (zf2 _)).symm
def Rv (l cur:List Int) (i:Nat):Prop:=cur.length=l.length/\∀ t,t<l.length->cur[t]? = if t<i\/l.length<=t+i then l[l.length-1-t]? else l[t]?
theorem Rv.start (l:List Int):Rv l l 0:=⟨rfl,fun t ht=>by rw [if_neg (by omega)]⟩
theorem Rv.done {l cur:List Int} {i:Nat} (h:Rv l cur i) (hi:l.length<=2*i+1):cur=l.reverse:=by
 refine Zax fun t => ?_;by_cases ht:t<l.length
 ·rw [h.2 t ht,List.getElem?_reverse ht];by_cases c:t<i\/l.length<=t+i
  ·rw [if_pos c]
  ·rw [if_neg c,show l.length-1-t=t by omega]
 ·rw [List.getElem?_eq_none (by rw [h.1];omega),List.getElem?_eq_none (by simp;omega)]
theorem Rv.step {l cur:List Int} {i j:Nat} {a b:Int} (h:Rv l cur i) (hij:i<j) (hs:i+j+1=l.length) (ha:cur[i]? = some a) (hb:cur[j]? = some b):Rv l ((cur.set i b).set j a) (i+1):=by
 obtain ⟨hl,hg⟩:=h;refine ⟨by simp [hl],fun t ht => ?_⟩;have e1:=hg i (by omega);have e2:=hg j (by omega);rw [if_neg (by omega),ha] at e1;rw [if_neg (by omega),hb] at e2;rw [List.getElem?_set,List.getElem?_set,List.length_set];by_cases c1:j=t
 ·subst c1;rw [if_pos rfl,if_pos (by omega),if_pos (by omega),show l.length-1-j=i by omega];exact e1
 ·rw [if_neg c1];by_cases c2:i=t
  ·subst c2;rw [if_pos rfl,if_pos (by omega),if_pos (by omega),show l.length-1-i=j by omega];exact e2
  ·rw [if_neg c2,hg t ht];by_cases c3:t<i\/l.length<=t+i
   ·rw [if_pos c3,if_pos (by omega)]
   ·rw [if_neg c3,if_neg (by omega)]
end Go.Ev
namespace Go.Ev
open Go Go.Proofs
variable {B:Nat}
theorem mA (x:Int):Pure Tryz.prog B 261 [I x] (· = .bool false):=by
 intro p h nx K hK;refine zM zP yh 9 fun hf => ?_;rw [o7.go];simp only [qm,decide_true,Zaf];exact hK _ rfl hf
theorem zwg (x y:Int):Pure Tryz.prog B 217 [I x,I y] (· = I (if x<y then -1 else if x=y then 0 else 1)):=by
 intro p h nx K hK;refine zM zP yh 9 fun hf => ?_;rw [rU.go];refine mA x _ _ _ _ ?_;rintro _ rfl _;refine mA y _ _ _ _ ?_;rintro _ rfl _;simp only [zE,jk];by_cases c1:x<y
 ·simp only [c1,decide_true,zD];exact hK _ (by rw [if_pos c1]) hf
 ·simp only [c1,decide_false,zE,xk];by_cases c2:y<x
  ·simp only [c2,decide_true,zD];exact hK _ (by rw [if_neg c1,if_neg (by omega)]) hf
  ·simp only [c2,decide_false,zE];exact hK _ (by rw [if_neg c1,if_pos (by omega)]) hf
theorem zls {a b:List Int} (ha:a.length<=1000000) (hb:b.length<=1000000):Pure Tryz.prog B 161 [encI a,encI b] (· = I (cmpL a b)):=by
 intro p h nx K hK;refine zM zP yh 10000000 fun hf => ?_;rw [jm.go];simp (disch:=omega) only [jf,pq,rV,fQ,qm,jk,sJ,xk,rC,zV,zT,zD,zE,jM,yL,yQ,jZ,yW,jA,jB,gI,jV,jR,jU,zL,yX,yN,zC,decide_true,decide_false,Zaf,Zah,jE];refine jm.L1 (fun m z9 h' nx'=>∃ i:Nat,z9=I i/\a.length-i=m/\i<=a.length/\i<=b.length/\h'=h/\nx'=nx/\a.take i=b.take i) (m:=a.length) (by omega) ⟨0,rfl,rfl,by omega,by omega,rfl,rfl,rfl⟩ ?_;rintro m z2 z3 z4 z5 z6 z9 z10 z11 z12 _ _ R ⟨i,rfl,rfl,hi,hib,rfl,rfl,htk⟩ hR;have hsk:=zb6 i a b htk hi hib;simp (disch:=omega) only [jf,pq,rV,fQ,qm,jk,sJ,xk,rC,zV,zT,zD,zE,jM,yL,yQ,jZ,yW,jA,jB,gI,jV,jR,jU,zL,yX,yN,zC,decide_true,decide_false,Zaf,Zah,jE];by_cases hlt:i<a.length
 ·simp only [show (i:Int)<(a.length:Int) by omega,decide_true,zD];have hx:a[i]? = some a[i]:=List.getElem?_eq_getElem hlt;have hda:a.drop i=a[i]::a.drop (i+1):=Zar hlt;rw [cZ rfl hlt,ldL (rJ hx)];by_cases hb2:b.length<=i
  ·simp only [zL,rC,show (b.length:Int)<=(i:Int) by omega,decide_true,zD];refine hK _ ?_ hf;rw [hda,Zbq hb2,gB] at hsk;rw [cmpL,hsk,if_neg (by simp),if_neg (by rintro rfl;omega)]
  ·simp only [zL,rC,show ¬ (b.length:Int)<=(i:Int) by omega,decide_false,zE];have hxb:b[i]? = some b[i]:=List.getElem?_eq_getElem (by omega);have hdb:b.drop i=b[i]::b.drop (i+1):=Zar (by omega);rw [cZ rfl (by omega),ldL (rJ hxb)];refine zwg _ _ _ _ _ _ ?_;rintro _ rfl _;rw [hda,hdb,gB] at hsk;simp only [qm];by_cases c1:a[i]=b[i]
   ·have e0:(if a[i]<b[i] then (-1:Int) else if a[i]=b[i] then 0 else 1)=0:=by rw [if_neg (by omega),if_pos c1]
    rw [e0];simp only [decide_true,Zaf,zE]
    try rw [jf (by omega)]
    refine hR _ _ _ _ _ _ _ _ _ _ _ _ (by omega) ⟨i+1,rfl,rfl,by omega,by omega,rfl,rfl,?_⟩;rw [Zaq,Zaq,htk,hx,hxb,c1]
   ·have e1:¬ (if a[i]<b[i] then (-1:Int) else if a[i]=b[i] then 0 else 1)=0:=by
     by_cases c:a[i]<b[i]
     ·rw [if_pos c];omega
     ·rw [if_neg c,if_neg c1];omega
    simp only [e1,decide_false,Zah,zD];refine hK _ ?_ hf;rw [if_neg c1] at hsk;rw [cmpL,hsk];by_cases c:a[i]<b[i]
    ·simp [c]
    ·rw [if_neg c,if_neg c1,if_neg (by simp [c]),if_neg (by rintro rfl;exact c1 rfl)]
 ·simp only [show ¬ (i:Int)<(a.length:Int) by omega,decide_false,zE];rw [jm.k9];simp (disch:=omega) only [jf,pq,rV,fQ,qm,jk,sJ,xk,rC,zV,zT,zD,zE,jM,yL,yQ,jZ,yW,jA,jB,gI,jV,jR,jU,zL,yX,yN,zC,decide_true,decide_false,Zaf,Zah,jE];rw [Zbq (show a.length<=i by omega)] at hsk;by_cases c:a.length<b.length
  ·simp only [show (a.length:Int)<(b.length:Int) by omega,decide_true,zD];refine hK _ ?_ hf;have hd:b.drop i=b[i]::b.drop (i+1):=Zar (by omega);rw [hd,gB] at hsk;rw [cmpL,hsk,if_pos rfl]
  ·simp only [show ¬ (a.length:Int)<(b.length:Int) by omega,decide_false,zE];refine hK _ ?_ hf;rw [Zbq (show b.length<=i by omega),gB] at hsk;have:a=b:=by
    rw [Zap (by omega),Zap (by omega)] at htk;exact htk
   rw [cmpL,hsk,if_neg (by simp),if_pos this]
def outR (x:Int):Bool:=decide (x < -999999999)||decide (999999999<x)
def dO (cells:Int) (f:List Int):Int:=if (f.length:Int)≠cells then 2 else if f.any outR then 3 else 0
theorem zzl {l:List Int}:∀ v∈l.map I,fH v=true:=fun v hv=>by obtain ⟨x,_,rfl⟩:=List.mem_map.1 hv;rfl
theorem zc8 {h:T Blk} (a:AV) (l:List AV) (K:AV->OP):zB (.fp (a::l)) h K=K a:=nr rfl
theorem zc9 {P:Program} {id:Pa} {args:List AV} {h:T Blk} {nx:Pa} {K:Kw Prop}:u6 (CS P B) (.yld id) args h nx K=(CS P B).yld id args h nx K:=nr rfl
theorem zsq {h:T Blk} {nx:Pa} {p id:Pa} {l:List Int} {K:Kw Prop} (J:Nat->T Blk->Pa->Prop) (hl:l.length<=1000000) (hJ:J 0 h nx)
  (step:∀ (i:Nat) (x:Int) (h:T Blk) (nx:Pa) (K:Kw Prop),l[i]? = some x->J i h nx->Fr h nx->(∀ h' nx',J (i+1) h' nx'->K (.bool true) h' nx'=.ok True)->(CS Tryz.prog B).yld id [I x] h nx K=.ok True)
  (fr:∀ i h nx,J i h nx->Fr h nx) (hK:∀ h' nx',J l.length h' nx'->K (.tup []) h' nx'=.ok True):(CS Tryz.prog B).fn 169 p [.yld id,.fp [encI l]] h nx K=.ok True:=by
 refine yE (p:=.of 169) (K:=K) (zM zP yh 10000000 fun hf => ?_) fun _ _ _ _ q=>q;rw [wz.go,zc8];simp only [zL];refine wz.L1 (fun m z5 h' nx'=>∃ i:Nat,z5=I i/\l.length-i=m/\i<=l.length/\J i h' nx') (m:=l.length) (by omega) ⟨0,rfl,rfl,by omega,hJ⟩ ?_;rintro m z2 z5 z6 z7 h1 nx1 R ⟨i,rfl,rfl,hi,hJ1⟩ hR;simp (disch:=omega) only [jf,pq,rV,fQ,qm,jk,sJ,xk,rC,zV,zT,zD,zE,jM,yL,yQ,jZ,yW,jA,jB,gI,jV,jR,jU,zL,yX,yN,zC,decide_true,decide_false,Zaf,Zah,jE];by_cases hlt:i<l.length
 ·simp only [show (i:Int)<(l.length:Int) by omega,decide_true,zD];have hx:l[i]? = some l[i]:=List.getElem?_eq_getElem hlt;rw [cZ rfl hlt,ldL (rJ hx),zc9];refine step i _ _ _ _ hx hJ1 (fr _ _ _ hJ1) fun h2 nx2 hJ2 => ?_;simp only [yW,Zaf,zE]
  try rw [jf (by omega)]
  exact hR _ _ _ _ _ _ _ (by omega) ⟨i+1,rfl,rfl,by omega,hJ2⟩
 ·simp only [show ¬ (i:Int)<(l.length:Int) by omega,decide_false,zE];obtain rfl:i=l.length:=by omega
  exact hK _ _ hJ1
theorem Hp.oh {h0 h:T Blk} {nx:Pa} {L:List Ob} (H:Hp h0 h nx L) (e:Nat):Hp h0 h nx (.gro none e 0 []::L) :=
  ⟨H.keep,fun x hx=>by rcases List.mem_cons.1 hx with rfl | q;· exact ⟨rfl,rfl⟩
                       · exact H.own x q,fun n hn=>H.off n (by simpa [Ob.names] using hn),by have:=H.nd;simpa [Ob.names] using this,H.fr⟩
theorem mB {h0 h:T Blk} {nx:Pa} {L:List Ob} {id:Pa} {b:Blk} {k:Nat} (H:Hp h0 h nx L) (hk:L[k]? = some (.raw id b)):T.get .no id h=b:=(H.own _ (Zaa hk)).1
theorem Hp.zih {h0 h:T Blk} {nx:Pa} {L:List Ob} {id:Pa} {b b':Blk} {k:Nat} (H:Hp h0 h nx L) (hk:L[k]? = some (.raw id b)) (hb:b'≠.no):Hp h0 (T.set .no b' id h) nx (L.set k (.raw id b')) :=
 H.upd hk (by simp [Ob.names]) rfl ⟨T.get_set_same _ _ _ _,hb⟩
theorem zlt {h0 h:T Blk} {nx:Pa} {L:List Ob} {p q:Pa} {l:List Int} {K:Kw Prop} (hl:l.length<=100000) (H:Hp h0 h nx L)
  (hK:∀ o h' nx',Hp h0 h' nx' (.gro o 1 l.length (l.map I)::L)->K (xu o 1 l.length) h' nx'=.ok True):(CS Tryz.prog B).fn 221 p [.zh,.fn 169 q [.fp [encI l]]] h nx K=.ok True:=by
 refine yE (p:=.of 221) (K:=K) (zM zP yh 10000000 fun hf => ?_) fun _ _ _ _ q=>q;rw [qc.go];refine H.box (l:=[.zh]) rfl fun bx h1 nx1 H1 => ?_;refine H1.rf (g:=169) (p:=q) (cap:=[.fp [encI l]]) rfl fun id h2 nx2 H2 => ?_;refine zsq (fun i h' nx'=>∃ o,Hp h0 h' nx' (.raw id (.loop .ready .none (qc.fr .zh (.fn 169 q [.fp [encI l]]) (.ptr bx 0) .zh .undef (.fn 169 q [.fp [encI l]]) .undef) [.of 6] qc.b3 qc.b4)::.arr bx [xu o 1 i]::.gro o 1 i ((l.take i).map I)::L)) (by omega) ⟨none,?_⟩ ?_ (fun _ _ _ ⟨_,q⟩=>q.fr) ?_
 ·have:=H2.oh 1;exact this.perm ((List.Perm.swap _ _ _).trans (.cons _ (.swap _ _ _)))
 ·rintro i x h3 nx3 K3 hx ⟨o,H3⟩ _ hnext;have hi:i<l.length:=(List.getElem?_eq_some_iff.1 hx).1;refine zbp (fns:=tbl) yh 100 fun hf => ?_;rw [qc.y4 (mB H3 (k:=0) rfl) rfl];have H4:=H3.zih (k:=0) rfl (b':=.loop .busy .none (qc.fr .zh (.fn 169 q [.fp [encI l]]) (.ptr bx 0) .zh .undef (.fn 169 q [.fp [encI l]]) .undef) [.of 6] qc.b3 qc.b4) (by intro e;cases e);rw [H4.load (k:=1) (i:=0) rfl rfl];refine H4.yc (l:=[I x]) rfl fun e5 h5 nx5 H5 => ?_;refine H5.appN (k:=3) (o:=o) (c:=1) (new:=[I x]) rfl (yw.rd (l:=[I x]) (n:=1) (H5.own _ (Zaj ..)) rfl) rfl rfl (by decide) (by decide) (by omega) fun o' h6 nx6 ho H6 => ?_;refine H6.store (k:=2) rfl (by simp) (kP _ _ _) fun h7 H7 => ?_;refine H7.rend (k:=1) rfl fun h8 H8 => ?_;refine hnext _ _ ⟨o',(H8.drop).cast ?_⟩;have e1:(l.take (i+1)).map I=(l.take i).map I++[I x]:=by rw [Zaq,hx];simp
  rw [e1];rfl
 ·rintro h3 nx3 ⟨o,H3⟩;rw [List.take_length] at H3;refine H3.aj fun h4 H4 => ?_;rw [zbt,qc.k6,H4.load (k:=0) (i:=0) rfl rfl];exact hK _ _ _ H4.drop
theorem zlu {l:List Int}:Pure Tryz.prog B 102 [encI l] (· = .fn 169 (.of 169) [.fp [encI l]]):=by
 refine yC fun h nx K H0 hK=>zM zP yh 10000000 fun hf => ?_;rw [oV.go];refine H0.box (l:=[encI l]) rfl fun bx h1 nx1 H1 => ?_;obtain ⟨op,t,g1,g2⟩:yw h1 bx [encI l]:=H1.own _ (Zaj ..);refine hK _ _ _ _ (.fn 169 (.of 169) [.fp [encI l]]) H1 (.fn _ _ _ _ rfl fun i v v' h2 h3 => ?_) rfl
 match i with
 | 0 =>
  simp only [List.getElem?_cons_zero,Option.some.injEq] at h2 h3;subst h2 h3;refine .ptr _ _ op _ t _ (H1.off bx (by simp [Ob.names])) g1 (by simp) (by simp [jc]) fun i v hv => ?_
  match i with
  | 0 =>
   simp only [List.getElem?_cons_zero,Option.some.injEq] at hv;subst hv;have:=zW t 0 1 0 (by omega);have g2:zY t 0 1=[encI l]:=g2;rw [g2] at this;simp only [List.getElem?_cons_zero,Option.some.injEq] at this;rw [<- this];exact zK (uM l)
  | i+1=>simp at hv
 | i+1=>simp at h2
theorem zul (op:KW3->OP) (h:T Blk) (nx:Pa) (k:KW3):sGW (.bool true) false op h nx k=k .undef h nx:=nr rfl
theorem zf3 (op:KW3->OP) (h:T Blk) (nx:Pa) (k:KW3):sGW (.bool false) false op h nx k=op k:=nr rfl
def qK (l:List Int):Prop:=l.Nodup/\∀ x∈l,0<=x/\x<(l.length:Int)
def hadL (n:Nat) (l:List Int):List Bool:=l.foldl (fun s x=>s.set x.toNat true) (List.replicate n false)
theorem zf4:∀ (l:List Int) (s:List Bool) (k:Nat),(∀ x∈l,0<=x)->k<s.length->(l.foldl (fun s x=>s.set x.toNat true) s)[k]? = some (s.getD k false||decide ((k:Int)∈l))
 | [],s,k,_,h=>by
  rw [List.foldl_nil,List.getElem?_eq_getElem h,Zab,List.getElem?_eq_getElem h];simp
 | x::l,s,k,hl,h=>by
  rw [Zcg,zf4 l _ k (fun y hy=>hl y (Zan _ hy)) (by simpa using h)];have h0:=hl x (Zaj ..)
  congr 1
  rw [Zab,Zab,List.getElem?_set];by_cases e:x.toNat=k
  ·have:(k:Int)=x:=by omega
   rw [if_pos e,if_pos (by omega)];simp [this]
  ·have:¬ (k:Int)=x:=by omega
   rw [if_neg e];simp [this]
theorem zf5 (n:Nat) (l:List Int):(hadL n l).length=n:=by
 have:∀ (l:List Int) (s:List Bool),(l.foldl (fun s x=>s.set x.toNat true) s).length=s.length:=by
  intro l
  induction l with
  | nil=>intro s;rfl
  | cons x l ih=>intro s;rw [Zcg,ih];simp
 rw [hadL,this];simp
theorem zpc {n:Nat} {l:List Int} {k:Nat} (hl:∀ x∈l,0<=x) (hk:k<n):(hadL n l)[k]? = some (decide ((k:Int)∈l)):=by
 rw [hadL,zf4 l _ k hl (by simpa using hk)]
 congr 1
 rw [Zab,List.getElem?_replicate,if_pos hk];simp
theorem zlv (n:Nat) (l:List Int) (x:Int):hadL n (l++[x])=(hadL n l).set x.toNat true:=by simp [hadL]
def xOf (n:Nat) (c:Bool) (x:Int):Int:=if c then (n:Int)+1-x else x
def wW (n:Nat) (c:Bool) (g f:List Int) (i:Nat):List Int:=(List.range i).foldl (fun o k=>o.set (g.getD k 0).toNat (xOf n c (f.getD k 0))) (List.replicate n 0)
theorem wQ (n:Nat) (c:Bool) (g f:List Int) (i:Nat):wW n c g f (i+1)=(wW n c g f i).set (g.getD i 0).toNat (xOf n c (f.getD i 0)):=by
 simp [wW,List.range_succ]
theorem gY (n:Nat) (c:Bool) (g f:List Int):∀ i,(wW n c g f i).length=n
 | 0=>by simp [wW]
 | i+1=>by rw [wQ];simp [gY n c g f i]
def jH (c:Bool) (g f:List Int):List Int:=wW f.length c g f f.length
end Go.Ev
namespace Go.Ev
open Go
def zzm (q:List (Int×Int)):List AV:=q.flatMap fun p=>[I p.1,I p.2]
theorem zej {a b:AV} {l:List AV} {h:T Blk} {K:AV->OP}:zN 2 (.fp (a::b::l)) h K=K (.agg [a,b]):=nr rfl
end Go.Ev
namespace Go.Ev
def zj2 (y:List Nat) (i k:Nat):List Nat:=y.set i ((y.getD i 0+k)%256)
def addL (y:List Nat) (idx:List Nat) (k:Nat):List Nat:=idx.foldl (fun y i=>zj2 y i k) y
@[simp] theorem zsr (y:List Nat) (i k:Nat):(zj2 y i k).length=y.length:=by simp [zj2]
@[simp] theorem zum (idx:List Nat) (k:Nat):∀ y:List Nat,(addL y idx k).length=y.length:=by
 induction idx with
 | nil=>intro y;rfl
 | cons i l ih=>intro y;show (addL (zj2 y i k) l k).length=_;rw [ih];simp
def blk (x:List Nat) (idx:List Nat) (n:Nat):Nat->List (List Nat)
 | 0=>[]
 | j+1=>List.replicate n (addL x idx j)++blk x idx n j
theorem zlw {n:Nat} {seen:List Nat} (nd:seen.Nodup) (h1:∀ i∈seen,i<n) (h2:∀ i,i<n->i∈seen):seen.Perm (List.range n):=by
 rw [List.perm_iff_count];intro a;rw [nd.count,List.nodup_range.count];by_cases e:a<n
 ·rw [if_pos (h2 a e),if_pos (by simpa using e)]
 ·rw [if_neg fun q=>e (h1 a q),if_neg (by simpa using e)]
def fill (most:Nat):Nat->List (List Nat)
 | 0=>[[]]
 | n+1=>(fill most n).flatMap fun x=>(List.range (most+1)).map fun k=>x++[k]
def gC (fr:Nat) (f:List Nat) (c:Int):Nat:=if (fr:Int)<=c then f.getD (c-fr).toNat 0 else 0
def con (fr:Nat) (f:List Nat) (l:List Int):Nat:=(l.map (gC fr f)).sum
end Go.Ev
namespace Go.Ev
open Go Go.Proofs
variable {B:Nat}
theorem zss {N:Pa->Prop} {O:AV->Prop} {hh:T Blk} {l:List AV} (h:∀ v∈l,fH v=true):Frz True N O hh (.agg l) (.agg l) :=
 .agg _ _ rfl (List.all_eq_true.2 fun v hv=>fH.jc (h v hv)) fun i v v' h1 h2=>by rw [h1] at h2;cases h2;exact zK (h v (Zaa h1))
abbrev Sym:=List Int×Bool
abbrev encS (g:Sym):AV:=.agg [encI g.1,.bool g.2]
def yY (G:List Sym):List AV:=G.flatMap fun g=>[encI g.1,.bool g.2]
abbrev fB (G:List Sym):AV:=.lst 2 G.length (yY G)
theorem pI:∀ (q:List Sym) (i:Nat),(yY q).drop (i*2)=yY (q.drop i)
 | q,0=>by simp
 | [],i+1=>by simp [yY]
 | p::q,i+1=>by
  rw [List.drop_succ_cons,<- pI q i,show (i+1)*2=i*2+1+1 by omega]
  rfl
theorem uZ {q:List Sym} {i:Nat} (h:i<q.length):(yY q).drop (i*2)=encI q[i].1::.bool q[i].2::(yY q).drop ((i+1)*2):=by
 rw [pI,pI,Zar h];rfl
instance (l:List Int):Decidable (qK l):=by unfold qK;infer_instance
def qM (l:List Int):Int:=if 256<l.length then 5 else if qK l then 0 else 14
def jK (g:List Int) (n:Int):Int:=if n<0\/256<n then 3 else if (g.length:Int)≠n then 2 else if qK g then 0 else 14
def vT (p q:List Int):List Int:=q.map fun c=>p.getD c.toNat 0
def jJ (a b:Sym):Sym:=(vT a.1 b.1,a.2 != b.2)
theorem zii {p q:List Int} {i:Nat} {x:Int} (h:q[i]? = some x):vT p (q.take (i+1))=vT p (q.take i)++[p.getD x.toNat 0]:=by
 rw [vT,Zaq,h,Zbk];rfl
theorem zj3 {a b:Bool} {K:AV->OP}:zf .neq .bool (.bool a) (.bool b) K=K (.bool (a != b)):=by cases a <;> cases b <;> exact nr rfl
def befS (a b:Sym):Bool:=if a.1=b.1 then !a.2&&b.2 else gB a.1 b.1
def gL (n:Int):List Sym->Int
 | []=>0
 | g::G=>if jK g.1 n≠0 then jK g.1 n else gL n G
def aF:List Sym->Bool
 | []=>true
 | [_]=>true
 | a::b::G=>befS a b&&aF (b::G)
def clG (G:List Sym):Bool:=G.all fun a=>G.all fun b=>decide (jJ a b∈G)
def j5 (G:List Sym) (n:Int):Int:=if n<0\/256<n then 3 else if G.length=0 then 12 else if 1536<G.length then 5 else if gL n G≠0 then gL n G else if aF G=false then 11 else if clG G=false then 28 else 0
theorem zek {n:Int} {G:List Sym} {i:Nat} (h:i<G.length):gL n (G.drop i)=if jK G[i].1 n≠0 then jK G[i].1 n else gL n (G.drop (i+1)):=by
 rw [Zar h];rfl
theorem d4 {n:Int}:∀ {G:List Sym},gL n G=0->∀ g∈G,jK g.1 n=0
 | [],_,g,h=>by simp at h
 | a::G,h,g,hg=>by
  rw [gL] at h;by_cases c:jK a.1 n=0
  ·rw [if_neg (by simp [c])] at h;rcases List.mem_cons.1 hg with rfl | q
   ·exact c
   ·exact d4 h g q
  ·rw [if_pos c] at h;exact absurd h c
theorem dC {g:List Int} {n:Int} (h:jK g n=0):(0<=n/\n<=256)/\(g.length:Int)=n/\qK g:=by
 rw [jK] at h;by_cases c1:n<0\/256<n
 ·rw [if_pos c1] at h;cases h
 rw [if_neg c1] at h;by_cases c2:(g.length:Int)=n
 ·rw [if_neg (by simp [c2])] at h;by_cases c3:qK g
  ·exact ⟨by omega,c2,c3⟩
  ·rw [if_neg c3] at h;cases h
 ·rw [if_pos c2] at h;cases h
theorem zlx {G:List Sym} {i:Nat} (h:i+1<G.length):aF (G.drop i)=(befS G[i] G[i+1]&&aF (G.drop (i+1))):=by
 rw [Zar (show i<G.length by omega),Zar h,aF]
theorem zpd {G:List Sym} {i:Nat} (h:G.length<=i+1):aF (G.drop i)=true:=by
 have:(G.drop i).length<=1:=by rw [Zcd];omega
 cases hd:G.drop i with
 | nil=>rfl
 | cons a l =>
  rw [hd] at this;cases l with
  | nil=>rfl
  | cons b l=>simp at this
end Go.Ev
namespace Go.Proofs
open Go.Shelf Go.Lib
def gy:List Int->List Int->Int
 | [],[]=>0
 | [],_::_ => -1
 | _::_,[]=>1
 | x::xs,y::ys=>if x<y then -1 else if y<x then 1 else gy xs ys
theorem mA (x:Int) (w:World):Calls Tryz.prog 261 #[.int .i64 x] w fun e w'=>e=.returned (.bool false)/\w'=w:=by
 have t3:=Tryz.underlying3;have a3:=Tryz.isAgg3;have z3:=Tryz.sizeOf3;have v3:=Tryz.zeroValue3;have t4:=Tryz.underlying4;have a4:=Tryz.isAgg4;have z4:=Tryz.sizeOf4;have v4:=Tryz.zeroValue4
 go_enter Tryz.func261,Tryz.ntmps261
 go_wp2
 go_ret
 exact ⟨by simp,rfl⟩
set_option maxHeartbeats 2000000 in
set_option maxRecDepth 100000 in
theorem zij (x y:Int) (w:World):Calls Tryz.prog 217 #[.int .i64 x,.int .i64 y] w fun e w'=>e=.returned (.int .i64 (Lib.compareInt x y))/\w'=w:=by
 have t3:=Tryz.underlying3;have a3:=Tryz.isAgg3;have z3:=Tryz.sizeOf3;have v3:=Tryz.zeroValue3;have t4:=Tryz.underlying4;have a4:=Tryz.isAgg4;have z4:=Tryz.sizeOf4;have v4:=Tryz.zeroValue4
 go_enter Tryz.func217,Tryz.ntmps217
 go_wp2_with (go_at_call 261;refine (mA _ _).mono ?_;rintro e w' ⟨rfl,hw⟩;rw [hw])
 all_goals (go_ret;refine ⟨?_,rfl⟩;unfold Lib.compareInt;(repeat' split) <;> first | rfl | (exfalso;omega))
end Go.Proofs
namespace Go.Proofs
open Go.Shelf Go.Lib Go.RowKit
theorem zly {xs ys:List Int} {k:Nat} {x y:Int} (hx:k<xs.length) (hy:k<ys.length) (ex:xs[k]! = x) (ey:ys[k]! = y):gy (xs.drop k) (ys.drop k)=if x<y then -1 else if y<x then 1 else gy (xs.drop (k+1)) (ys.drop (k+1)):=by
 rw [List.drop_eq_getElem_cons hx,List.drop_eq_getElem_cons hy];rw [getElem!_pos xs k hx] at ex;rw [getElem!_pos ys k hy] at ey;rw [ex,ey,gy]
theorem zlz {xs ys:List Int} {k:Nat} (hx:xs.length<=k):gy (xs.drop k) (ys.drop k)=if ys.length<=k then 0 else -1:=by
 rw [List.drop_eq_nil_of_le hx];by_cases h:ys.length<=k
 ·rw [if_pos h,List.drop_eq_nil_of_le h,gy]
 ·rw [if_neg h,List.drop_eq_getElem_cons (by omega),gy]
theorem zl0 {xs ys:List Int} {k:Nat} (hx:k<xs.length) (hy:ys.length<=k):gy (xs.drop k) (ys.drop k)=1:=by
 rw [List.drop_eq_nil_of_le hy,List.drop_eq_getElem_cons hx,gy]
set_option maxHeartbeats 2000000 in
set_option maxRecDepth 100000 in
theorem zik (p1 p2:Option Addr) (n c m d:Nat) (xs ys:List Int) (w:World) (hn:n=xs.length) (hm:m=ys.length) (hbig:n<=1000000) (hbig2:m<=1000000)
  (hc1:n=0\/∃ b1 o1,p1=some ⟨b1,o1,none⟩/\∀ j,j<n->w.cell? ⟨b1,o1+j,none⟩=some (.int .i64 xs[j]!)) (hc2:m=0\/∃ b2 o2,p2=some ⟨b2,o2,none⟩/\∀ j,j<m->w.cell? ⟨b2,o2+j,none⟩=some (.int .i64 ys[j]!)) :
  Calls Tryz.prog 161 #[.slice p1 n c,.slice p2 m d] w fun e w'=>e=.returned (.int .i64 (gy xs ys))/\∃ q,w'=w.drewN q:=by
 have H1:Aside (n=0\/∃ b1 o1,p1=some ⟨b1,o1,none⟩/\∀ j,j<n->w.cell? ⟨b1,o1+j,none⟩=some (.int .i64 xs[j]!)):=hc1;have H2:Aside (m=0\/∃ b2 o2,p2=some ⟨b2,o2,none⟩/\∀ j,j<m->w.cell? ⟨b2,o2+j,none⟩=some (.int .i64 ys[j]!)):=hc2
 clear hc1 hc2
 have mixed:Tryz.prog.follows .mixedOrders=true:=by kernel_rfl
 have t0:=Tryz.underlying0;have a0:=Tryz.isAgg0;have z0:=Tryz.sizeOf0;have v0:=Tryz.zeroValue0;have t3:=Tryz.underlying3;have a3:=Tryz.isAgg3;have z3:=Tryz.sizeOf3;have v3:=Tryz.zeroValue3;have t4:=Tryz.underlying4;have a4:=Tryz.isAgg4;have z4:=Tryz.sizeOf4;have v4:=Tryz.zeroValue4;have t46:=Tryz.underlying38;have a46:=Tryz.isAgg38;have z46:=Tryz.sizeOf38;have v46:=Tryz.zeroValue38;have A0:Aside (n=xs.length/\m=ys.length):=⟨hn,hm⟩
 clear hn hm
 go_enter Tryz.func161,Tryz.ntmps161
 go_wp2
 go_loopg [11] n (fun g s11 wr=>∃ k q:Nat,k<=n/\k<=m/\n-k<=g/\s11=.int .i64 k/\wr=w.drewN q/\Aside (gy (xs.drop k) (ys.drop k)=gy xs ys))
 case atStart=>exact ⟨0,0,Nat.zero_le _,Nat.zero_le _,by omega,rfl,rfl,rfl⟩
 case round =>
  obtain ⟨k,q,hk,hkm,hg,rfl,rfl,A⟩:=hrel;by_cases hlt:k<n
  ·by_cases hlm:k<m
   ·obtain ⟨b1,o1,rfl,hc1⟩:=H1.out.resolve_left (by omega);obtain ⟨b2,o2,rfl,hc2⟩:=H2.out.resolve_left (by omega)
    clear H1 H2
    have g1:w.cell? ⟨b1,o1+k,none⟩=some (.int .i64 xs[k]!):=hc1 k hlt;have g2:w.cell? ⟨b2,o2+k,none⟩=some (.int .i64 ys[k]!):=hc2 k hlm
    clear hc1 hc2
    generalize hxk:xs[k]! = x at g1
    generalize hyk:ys[k]! = y at g2
    have B:Aside (xs[k]! = x/\ys[k]! = y):=⟨hxk,hyk⟩
    clear hxk hyk
    obtain ⟨r,C,hcon⟩:∃ r,Aside (r = -1/\x<y\/r=1/\y<x\/r=0/\x=y)/\∀ w,Calls Tryz.prog 217 #[.int .i64 x,.int .i64 y] w fun e w'=>e=.returned (.int .i64 r)/\w'=w :=
     ⟨Lib.compareInt x y,(show Aside _ from by
      unfold Aside Lib.compareInt;by_cases c1:x<y
      ·rw [if_pos c1];exact .inl ⟨rfl,c1⟩
      ·rw [if_neg c1];by_cases c2:y<x
       ·simp [c2]
       ·have:x=y:=by omega
        simp [this]),fun w=>zij x y w⟩
    have D:=zly (A0.out.1 ▸ hlt) (A0.out.2 ▸ hlm) B.out.1 B.out.2;have D':Aside (gy (xs.drop k) (ys.drop k)=if x<y then -1 else if y<x then 1 else gy (xs.drop (k+1)) (ys.drop (k+1))):=D
    clear D
    by_cases hr:r=0
    ·subst hr
     go_wp2_with (go_at_call 217;refine (hcon _).mono ?_;rintro e w' ⟨rfl,hw⟩;rw [hw])
     go_roundg (n-(k+1))
     case measure=>omega
     case rel =>
      refine ⟨k+1,q,by omega,by omega,by omega,by go_num,rfl,(show Aside _ from ?_)⟩;rcases C.out with ⟨c,_⟩ | ⟨c,_⟩ | ⟨_,rfl⟩
      ·omega
      ·omega
      ·have:=D'.out;rw [if_neg (by omega),if_neg (by omega)] at this;exact this.symm.trans A.out
    ·go_wp2_with (go_at_call 217;refine (hcon _).mono ?_;rintro e w' ⟨rfl,hw⟩;rw [hw])
     go_ret
     refine ⟨?_,q,rfl⟩;rw [<- A.out,D'.out];rcases C.out with ⟨rfl,c⟩ | ⟨rfl,c⟩ | ⟨c,_⟩
     ·rw [if_pos c];rfl
     ·rw [if_neg (show ¬ x<y by omega),if_pos c];rfl
     ·exact absurd c hr
   ·have D:Aside (gy (xs.drop k) (ys.drop k)=1):=zl0 (A0.out.1 ▸ hlt) (by have:=A0.out.2;omega);obtain ⟨b1,o1,rfl,hc1⟩:=H1.out.resolve_left (by omega)
    clear H1 H2
    have g1:w.cell? ⟨b1,o1+k,none⟩=some (.int .i64 xs[k]!):=hc1 k hlt
    clear hc1
    generalize hxk:xs[k]! = x at g1
    have hmk:m<=k:=by omega
    go_wp2
    go_ret
    refine ⟨?_,q,rfl⟩;rw [<- A.out,D.out];rfl
  ·have hkn:k=n:=by omega
   have D:Aside (gy (xs.drop k) (ys.drop k)=if ys.length<=k then 0 else -1):=zlz (by have:=A0.out.1;omega)
   clear H1 H2
   by_cases hlm:k<m
   ·have D':Aside (gy (xs.drop k) (ys.drop k) = -1):=D.out.trans (if_neg (by have:=A0.out.2;omega))
    go_wp2
    go_ret
    refine ⟨?_,q,rfl⟩;rw [<- A.out,D'.out];rfl
   ·have D':Aside (gy (xs.drop k) (ys.drop k)=0):=D.out.trans (if_pos (by have:=A0.out.2;omega))
    go_wp2
    go_ret
    refine ⟨?_,q,rfl⟩;rw [<- A.out,D'.out];rfl
end Go.Proofs
namespace Go.Proofs
theorem xD (x:Int) (xs:List Int) (y:Int) (ys:List Int):gy (x::xs) (y::ys)=if x<y then -1 else if y<x then 1 else gy xs ys:=by rw [gy]
theorem xC:∀ a b:List Int,gy b a = - gy a b
 | [],[]=>by rw [gy];rfl
 | [],_::_=>by rw [gy,gy];rfl
 | _::_,[]=>by rw [gy,gy]
 | x::xs,y::ys=>by
  rw [xD,xD,xC xs ys];by_cases h:x<y
  ·simp only [if_pos h,if_neg (show ¬ y<x by omega)];rfl
  ·rw [if_neg h];by_cases g:y<x
   ·simp only [if_pos g,if_neg h]
   ·simp only [if_neg g,if_neg h]
theorem qN:∀ {a b:List Int},gy a b=0->a=b
 | [],[],_=>rfl
 | [],_::_,h=>by rw [gy] at h;omega
 | _::_,[],h=>by rw [gy] at h;omega
 | x::xs,y::ys,h=>by
  rw [xD] at h;by_cases c:x<y
  ·rw [if_pos c] at h;omega
  ·rw [if_neg c] at h;by_cases g:y<x
   ·rw [if_pos g] at h;omega
   ·rw [if_neg g] at h;rw [qN h,show x=y by omega]
theorem qS (a:List Int):gy a a=0:=by have:=xC a a;omega
theorem wT:∀ {a b c:List Int},gy a b<=0->gy b c<=0->gy a c<=0
 | [],_,[],_,_=>by rw [gy];omega
 | [],_,_::_,_,_=>by rw [gy];omega
 | _::_,[],_,h,_=>by rw [gy] at h;omega
 | x::xs,y::ys,[],_,h=>by rw [gy] at h;omega
 | x::xs,y::ys,z::zs,h,g=>by
  rw [xD] at h g ⊢;by_cases c1:x<y
  ·by_cases c2:y<z
   ·rw [if_pos (by omega)];omega
   ·rw [if_neg c2] at g;by_cases c3:z<y
    ·rw [if_pos c3] at g;omega
    ·rw [if_pos (by omega)];omega
  ·rw [if_neg c1] at h;by_cases c4:y<x
   ·rw [if_pos c4] at h;omega
   ·rw [if_neg c4] at h;by_cases c2:y<z
    ·rw [if_pos (by omega)];omega
    ·rw [if_neg c2] at g;by_cases c3:z<y
     ·rw [if_pos c3] at g;omega
     ·rw [if_neg c3] at g;rw [if_neg (by omega),if_neg (by omega)];exact wT h g
theorem gE {a b c:List Int} (h:gy a b<0) (g:gy b c<0):gy a c<0:=by
 have:=wT (Int.le_of_lt h) (Int.le_of_lt g);by_cases e:gy a c=0
 ·have:=qN e;subst this;have:=xC a b;omega
 ·omega
end Go.Proofs
namespace Go.Ev
open Go.Proofs
def oN (A:List (List Int×Nat)) (l:List Int) (n:Nat):List (List Int×Nat):=match A with
 | []=>[(l,n)]
 |(a,c)::A=>if gy a l<0 then (a,c)::oN A l n else if a=l then (a,c+n)::A else (l,n)::(a,c)::A
structure zf6 (A:List (List Int×Nat)) (M:List (List Int)):Prop where
 srt:A.Pairwise fun a b=>gy a.1 b.1<0
 cnt:∀ p∈A,p.2=M.count p.1/\0<p.2
 all:∀ y∈M,∃ p∈A,p.1=y
theorem zf6.mem {A:List (List Int×Nat)} {M:List (List Int)} (T:zf6 A M) (p:List Int×Nat):p∈A↔p.2=M.count p.1/\0<p.2:=by
 refine ⟨T.cnt p,fun ⟨h1,h2⟩ => ?_⟩;have hm:p.1∈M:=List.count_pos_iff.1 (by omega);obtain ⟨q,hq,e⟩:=T.all _ hm;have:=(T.cnt q hq).1;have:q=p:=by
  refine Prod.ext e ?_;rw [this,e,h1]
 exact this ▸ hq
theorem zf6.nil:zf6 [] []:=⟨.nil,by simp,by simp⟩
theorem zf7 {l:List Int} {n:Nat}:∀ {A:List (List Int×Nat)} {p:List Int×Nat},p∈oN A l n->p.1=l\/p∈A
 | [],p,h=>by
  simp only [oN,Zay] at h;exact .inl (by rw [h])
 |(a,c)::A,p,h=>by
  rw [oN] at h;split at h
  ·rcases List.mem_cons.1 h with e | e
   ·exact .inr (by simp [e])
   ·rcases zf7 e with q | q
    ·exact .inl q
    ·exact .inr (by simp [q])
  ·split at h
   ·rename_i e;rcases List.mem_cons.1 h with q | q
    ·exact .inl (by rw [q,<- e])
    ·exact .inr (by simp [q])
   ·rcases List.mem_cons.1 h with q | q
    ·exact .inl (by rw [q])
    ·exact .inr q
theorem zf8 {l:List Int} {n:Nat}:∀ {A:List (List Int×Nat)},A.Pairwise (fun a b=>gy a.1 b.1<0)->(oN A l n).Pairwise fun a b=>gy a.1 b.1<0
 | [],_=>by simp [oN]
 |(a,c)::A,h=>by
  rw [Zbd] at h;rw [oN];split
  ·rename_i c1;refine List.pairwise_cons.2 ⟨fun p hp => ?_,zf8 h.2⟩;rcases zf7 hp with e | e
   ·rw [e];exact c1
   ·exact h.1 p e
  ·rename_i c1;split
   ·exact List.pairwise_cons.2 ⟨fun p hp=>h.1 p hp,h.2⟩
   ·rename_i c2;have hl:gy l a<0:=by
     have h1:=xC a l;by_cases e:gy a l=0
     ·exact absurd (qN e) c2
     ·omega
    refine List.pairwise_cons.2 ⟨fun p hp => ?_,List.pairwise_cons.2 h⟩;rcases List.mem_cons.1 hp with e | e
    ·rw [e];exact hl
    ·exact gE hl (h.1 p e)
def oz (A:List (List Int×Nat)) (y:List Int):Nat:=(A.map fun p=>if p.1=y then p.2 else 0).sum
theorem zf9 {l:List Int} {n:Nat} (y:List Int):∀ (A:List (List Int×Nat)),oz (oN A l n) y=(if l=y then n else 0)+oz A y
 | []=>by simp [oN,oz]
 |(a,c)::A=>by
  rw [oN];split
  ·have:=zf9 (l:=l) (n:=n) y A;simp only [oz,Zce,List.sum_cons] at this ⊢;omega
  ·split
   ·rename_i e;subst e;simp only [oz,Zce,List.sum_cons];split <;> omega
   ·simp only [oz,Zce,List.sum_cons]
theorem bB {y:List Int}:∀ {A:List (List Int×Nat)},(∀ q∈A,q.1≠y)->oz A y=0
 | [],_=>rfl
 | a::A,h=>by
  have:=bB (y:=y) (A:=A) fun q hq=>h q (by simp [hq]);simp only [oz,Zce,List.sum_cons] at this ⊢;rw [if_neg (h a (by simp)),this]
theorem zga:∀ {A:List (List Int×Nat)},A.Pairwise (fun a b=>gy a.1 b.1<0)->∀ p∈A,oz A p.1=p.2
 | [],_,p,h=>by cases h
 | a::A,hA,p,h=>by
  rw [Zbd] at hA;simp only [oz,Zce,List.sum_cons];rcases List.mem_cons.1 h with e | e
  ·subst e;rw [if_pos rfl];have:oz A p.1=0:=bB fun q hq e=>by
    have:=hA.1 q hq;rw [e,qS] at this;omega
   rw [oz] at this;omega
  ·have h1:=hA.1 p e;rw [if_neg (fun e=>by rw [e,qS] at h1;omega)];have:=zga hA.2 p e;rw [oz] at this;omega
theorem zpe {A:List (List Int×Nat)} {y:List Int} (h:0<oz A y):∃ p∈A,p.1=y:=by
 by_cases c:∃ p∈A,p.1=y
 ·exact c
 ·have:=bB (A:=A) (y:=y) fun q hq e=>c ⟨q,hq,e⟩;omega
structure Tab (A:List (List Int×Nat)) (M:List (List Int)):Prop where
 srt:A.Pairwise fun a b=>gy a.1 b.1<0
 cnt:∀ y,oz A y=M.count y
 pos:∀ p∈A,0<p.2
theorem Tab.is {A:List (List Int×Nat)} {M:List (List Int)} (T:Tab A M):zf6 A M:={
 srt:=T.srt
 cnt p hp:=⟨by rw [<- T.cnt,zga T.srt p hp],T.pos p hp⟩
 all y hy:=zpe (by rw [T.cnt];exact List.count_pos_iff.2 hy) }
theorem Tab.nil:Tab [] []:=⟨.nil,fun _=>rfl,by simp⟩
theorem zgb {l:List Int} {n:Nat} (hn:0<n):∀ {A:List (List Int×Nat)},(∀ p∈A,0<p.2)->∀ p∈oN A l n,0<p.2
 | [],_,p,h=>by
  simp only [oN,Zay] at h;rw [h];exact hn
 |(a,c)::A,hA,p,h=>by
  rw [oN] at h;split at h
  ·rcases List.mem_cons.1 h with e | e
   ·rw [e];exact hA _ (by simp)
   ·exact zgb hn (fun q hq=>hA q (by simp [hq])) p e
  ·split at h
   ·rcases List.mem_cons.1 h with e | e
    ·rw [e];have:=hA (a,c) (by simp);simp only at this ⊢;omega
    ·exact hA p (by simp [e])
   ·rcases List.mem_cons.1 h with e | e
    ·rw [e];exact hn
    ·exact hA p e
theorem Tab.ins {A:List (List Int×Nat)} {M:List (List Int)} {l:List Int} {n:Nat} (T:Tab A M) (hn:0<n):Tab (oN A l n) (List.replicate n l++M):={
 srt:=zf8 T.srt
 cnt y:=by rw [zf9,T.cnt,List.count_append,List.count_replicate];simp only [beq_iff_eq]
 pos:=zgb hn T.pos }
theorem Tab.perm {A:List (List Int×Nat)} {M M':List (List Int)} (T:Tab A M) (h:M.Perm M'):Tab A M':=⟨T.srt,fun y=>(T.cnt y).trans (h.count_eq y),T.pos⟩
theorem Tab.fold {C:List (List Int×Nat)} {N:List (List Int)}:∀ {A:List (List Int×Nat)} {M:List (List Int)},Tab A M->Tab C N->Tab (C.foldl (fun A p=>oN A p.1 p.2) A) (N++M):=by
 intro A M TA TC;have key:∀ (C:List (List Int×Nat)) (A:List (List Int×Nat)) (M:List (List Int)),Tab A M->(∀ p∈C,0<p.2)->Tab (C.foldl (fun A p=>oN A p.1 p.2) A) ((C.flatMap fun p=>List.replicate p.2 p.1)++M):=by
  intro C
  induction C with
  | nil=>intro A M T _;exact T
  | cons c C ih =>
   intro A M T h;rw [Zcg];refine (ih _ _ (T.ins (h c (by simp))) fun p hp=>h p (by simp [hp])).perm ?_;rw [Zbh,<- Zbp];exact List.perm_append_comm.append_right M
 refine (key C A M TA TC.pos).perm (List.Perm.append_right M ?_);rw [List.perm_iff_count];intro y;rw [<- TC.cnt];have:∀ C:List (List Int×Nat),(C.flatMap fun p=>List.replicate p.2 p.1).count y=oz C y:=by
  intro C
  induction C with
  | nil=>rfl
  | cons c C ih =>
   rw [Zbh,List.count_append,ih,List.count_replicate];simp only [oz,Zce,List.sum_cons,beq_iff_eq]
 exact this C
theorem xE:∀ a b:List Int,gB a b=decide (gy a b<0)
 | [],[]=>by rw [gB,gy];rfl
 | [],_::_=>by rw [gB,gy];rfl
 | _::_,[]=>by rw [gB,gy];rfl
 | x::xs,y::ys=>by
  rw [gB,xD,xE xs ys];by_cases e:x=y
  ·subst e;rw [if_pos rfl,if_neg (show ¬ x<x by omega),if_neg (show ¬ x<x by omega)]
  ·rw [if_neg e];by_cases g:x<y
   ·simp only [if_pos g,g,decide_true];rfl
   ·rw [if_neg g,if_pos (show y<x by omega)];simp only [g,decide_false];rfl
end Go.Ev
namespace Go.Ev
open Go Go.Proofs
variable {B:Nat}
theorem lex_irrefl (a:List Int):gB a a=false:=by rw [xE,qS];rfl
theorem cmp_neg (a b:List Int):cmpL a b<0↔gB a b=true:=by
 unfold cmpL;cases h:gB a b with
 | true=>simp
 | false =>
  rw [if_neg (by simp)];split <;> simp
theorem zgc (a b:List Int):cmpL a b=0↔a=b:=by
 unfold cmpL;cases h:gB a b with
 | true =>
  simp;rintro rfl;rw [lex_irrefl] at h;cases h
 | false =>
  rw [if_neg (by simp)];split
  ·simp [*]
  ·simp [*]
def Ord (l:List (List Int)):Prop:=l.Pairwise fun a b=>gB a b=true
end Go.Ev
namespace Go.Ev
open Go Go.Proofs Go.RowKit
def bF:List AV->Option (List (List UInt8))
 | []=>some []
 | .str s::l=>match bF l with
  | some xs=>some (s::xs)
  | none=>none
 | _=>none
def zun (l:List AV) (sep:List UInt8):Option AV:=match bF l with
 | some xs=>bif Nat.ble (Lib.join xs sep).length 100000 then some (.str (Lib.join xs sep)) else none
 | none=>none
def zuo (cap:Option Nat) (ln:Nat):Bool:=match cap with
 | some k=>Nat.ble ln k
 | none=>true
def zpf (v:AV) (sep:List UInt8) (h:T Blk):Option AV:=match v with
 | .sl id off ln cap esz=>match T.get .no id h with
  | .cells _ m t=>bif Nat.beq esz 1&&Nat.ble (off+ln) m&&Nat.ble ln 100000&&zuo cap ln then zun (zY t off ln) sep else none
  | _=>none
 | .zh=>some (.str [])
 | _=>none
def zj4 (f:Nat) (args:List AV) (h:T Blk):Option (AV×T Blk):=bif Nat.beq f 171 then (match args with
 | [v,.str sep]=>match zpf v sep h with
  | some v=>some (v,h)
  | none=>none
 | _=>none) else none
theorem zgd:∀ {l:List AV} {xs:List (List UInt8)},bF l=some xs->l=xs.map .str
 | [],xs,h=>by simp [bF] at h;subst h;rfl
 | x::l,xs,h=>by
  cases x <;> first | (simp [bF] at h;done) | skip
  simp only [bF] at h;cases hl:bF l with
  | none=>simp [hl] at h
  | some ys=>simp [hl] at h;subst h;simp [zgd hl]
theorem HR.below {P:Program} {B:Nat} {E:Env} {h:T Blk} {nx:Pa} {w w':World} (H:HR P B E h nx w) (hb:Below w.heap.size w w'):HR P B E h nx w'/\Ex E E w w':=by
 refine ⟨{
  blk:=fun id hid=>by
   obtain ⟨b,n,o,q1,q2,q3⟩:=H.blk id hid;exact ⟨b,n,o,q1,by rw [hb.block b (H.lt _ _ _ q1).2];exact q2,q3⟩
  inj:=H.inj
  fresh:=H.fresh
  lt:=fun id b n hid=>⟨(H.lt id b n hid).1,Zcm (H.lt id b n hid).2 hb.size⟩
  base:=Zbm H.base hb.size
  frz:=fun b i v hf=>by
   obtain ⟨⟨c,ty,fr,q1,q2⟩,q3⟩:=H.frz b i v hf;exact ⟨⟨c,ty,fr,by rw [hb.block b (Array.getElem?_eq_some_iff.1 q1).1];exact q1,q2⟩,q3⟩ },?_⟩
 exact ⟨.refl _,hb.os,hb.tape,hb.output,hb.size,fun b hlt _=>hb.block b hlt,fun id b n hid=>.inr ⟨id,n,hid⟩,fun _ _ v h=>.inr (.inl ⟨v,h⟩),fun b L hL=>⟨L,by rw [hb.block b (Array.getElem?_eq_some_iff.1 hL).1];exact hL,.refl _⟩⟩
theorem zge {B:Nat}:JOk Tryz.prog B zj4:=by
 intro E h nx w f args vs v h2 H hv hj;unfold zj4 at hj;cases hf:Nat.beq f 171 with
 | false=>simp [hf] at hj
 | true =>
  obtain rfl:=yD hf;rw [hf,cond_true] at hj;split at hj
  case h_2=>cases hj
  rename_i _ x sep;cases hjj:zpf x sep h with
  | none=>simp [hjj] at hj
  | some v0 =>
  simp only [hjj,Option.some.injEq,Prod.mk.injEq] at hj;obtain ⟨rfl,rfl⟩:=hj;have hj:=hjj
  clear hjj
  refine ⟨_,Tryz.func171,by kernel_rfl,by kernel_rfl,fun n=>callsIn_wide.2 ?_⟩;obtain ⟨l⟩:=vs;simp only [VRL] at hv;obtain ⟨u,_,rfl,hu,s,_,rfl,hs,rfl⟩:=hv;simp only [VR] at hs;subst hs
  have fin:∀ (xs:List (List UInt8)) (w':World) (e:Ending),v0=.str (Lib.join xs sep)->e=.returned (.string ⟨(Lib.join ((xs.map fun s=>(⟨s.toArray⟩:ByteArray)).map (·.data.toList)) (⟨sep.toArray⟩:ByteArray).data.toList).toArray⟩)->Below w.heap.size w w' ->
    ∃ u E',e=.returned u/\VR E' v0 u/\HR Tryz.prog B E' h nx w'/\Ex E E' w w':=by
   intro xs w' e hve he hb;obtain ⟨h1,h2⟩:=H.below hb;refine ⟨_,E,he,?_,h1,h2⟩;rw [hve];simp only [VR,List.map_map]
   congr 2
   have:(xs.map ((fun x=>x.data.toList) ∘ fun s=>(⟨s.toArray⟩:ByteArray)))=xs:=by
    conv=>rhs;rw [<- List.map_id xs]
    exact Zci fun _ _=>rfl
   rw [this]
  unfold zpf at hj;split at hj
  ·rename_i id off ln cap esz;split at hj
   ·rename_i op m t hb;cases hq:(Nat.beq esz 1&&Nat.ble (off+ln) m&&Nat.ble ln 100000&&zuo cap ln) with
    | false=>simp [hq] at hj
    | true =>
     rw [hq,cond_true] at hj;simp only [Zad] at hq;obtain ⟨⟨⟨q1,q2⟩,q3⟩,q4⟩:=hq;obtain rfl:=yD q1;have q2:=zZ q2;have q3:=zZ q3;unfold zun at hj;cases hx:bF (zY t off ln) with
     | none=>simp [hx] at hj
     | some xs =>
      simp only [hx] at hj;cases hl:Nat.ble (Lib.join xs sep).length 100000 with
      | false=>simp [hl] at hj
      | true =>
       rw [hl,cond_true] at hj;have hl:=zZ hl;obtain rfl:=(Option.some.inj hj).symm;have hxs:=zgd hx;have hln:xs.length=ln:=by
        have:=congrArg List.length hxs;simpa using this.symm
       obtain ⟨b,n,c,hE,rfl,hcap⟩:=hu.sH;obtain ⟨b',n',o,h1,h2,h3⟩:=H.blk id (by rw [hb];intro e;cases e);rw [hE] at h1;cases h1;rw [hb] at h3;obtain ⟨cs,ty,fr,rfl,_,_,_,_,hc⟩:=h3
       have hjn:=Tryz.strings_Join b off c (xs.map fun s=>(⟨s.toArray⟩:ByteArray)) ⟨sep.toArray⟩ w (by
        intro j x hx2;rw [List.getElem?_map] at hx2;cases hxj:xs[j]? with
        | none=>simp [hxj] at hx2
        | some s =>
         simp [hxj] at hx2;subst hx2;have hjl:j<ln:=by rw [<- hln];exact (List.getElem?_eq_some_iff.1 hxj).1
         obtain ⟨_,v',g1,g2⟩:=hc (off+j) (by omega);have he:T.get .undef (.of (off+j)) t=.str s:=by
          have e1:=zW t off ln j hjl;rw [hxs] at e1;simp [hxj] at e1;exact e1.symm
         rw [he] at g2;simp only [VR] at g2;subst g2
         simp [World.cell?,h2,g1]) (H.lt _ _ _ hE).2 (by simp;omega) (by
          simp only [Zas,hln];cases cap with
          | none=>exact hcap.1
          | some k =>
           have h4:ln<=k:=zZ q4;have h5:c=k:=hcap;omega) (by
          have:((xs.map fun s=>(⟨s.toArray⟩:ByteArray)).map (·.data.toList))=xs:=by
           rw [List.map_map]
           conv=>rhs;rw [<- List.map_id xs]
           exact Zci fun _ _=>rfl
          rw [this];show (Lib.join xs sep).length<=_;omega)
       rw [Zas,hln] at hjn;exact hjn.mono fun e w' ⟨he,hb⟩=>fin xs w' e rfl he hb
   ·cases hj
  ·obtain rfl:=(Option.some.inj hj).symm;simp only [VR] at hu;subst hu;exact (Tryz.strings_Join_none none 0 _ w).mono fun e w' ⟨he,hb⟩=>fin [] w' e rfl he (hb ▸ Below.refl _ _)
  ·cases hj
end Go.Ev
namespace Go.Ev
open Go Go.Proofs Go.RowKit Go.Sort
def xG:List AV->Option (List Int)
 | []=>some []
 | .int k n::l=>match k with
  | .i64=>match xG l with
   | some xs=>some (n::xs)
   | none=>none
  | _=>none
 | _=>none
theorem zgf:∀ {l:List AV} {xs:List Int},xG l=some xs->l=xs.map I
 | [],xs,h=>by simp [xG] at h;subst h;rfl
 | x::l,xs,h=>by
  cases x <;> first | (simp [xG] at h;done) | skip
  rename_i k n;cases k <;> first | (simp [xG] at h;done) | skip
  simp only [xG] at h;cases hl:xG l with
  | none=>simp [hl] at h
  | some ys=>simp [hl] at h;subst h;simp [zgf hl]
theorem zda (l:List Int):xG (l.map I)=some l:=by
 induction l with
 | nil=>rfl
 | cons a l ih=>show (match xG (l.map I) with | some xs=>some (a::xs) | none=>none)=_;rw [ih]
def bG (v:AV) (h:T Blk):Option (T Blk):=match v with
 | .sl id off ln _ esz=>match T.get .no id h with
  | .cells op m t=>bif Nat.beq esz 1&&Nat.ble (off+ln) m&&Nat.ble ln 1000000 then (match xG (zY t off ln) with
   | some l=>some (T.set .no (.cells op m (yT ((srt l).map I) t off)) id h)
   | none=>none) else none
  | _=>none
 | .zh=>some h
 | _=>none
def qE (f:Nat) (args:List AV) (h:T Blk):Option (AV×T Blk):=bif Nat.beq f 138 then (match args with
 | [v]=>match bG v h with
  | some h=>some (.tup [],h)
  | none=>none
 | _=>none) else none
theorem HR.sorted {P:Program} {B:Nat} {E:Env} {h:T Blk} {nx:Pa} {w:World} (H:HR P B E h nx w) {id:Pa} {op:Bool} {m off b n k:Nat} {t:T AV} {l l':List Int} {os:Array Obj} (hb:T.get .no id h=.cells op m t) (hE:E id=some (b,n))
  (hl':l'.length=l.length) (hm:off+l.length<=m) :
  HR P B E (T.set .no (.cells op m (yT (l'.map I) t off)) id h) nx (grow (putRow (Value.int .i64) (Sort.ahead w k) b off l'.toArray) os)/\Ex E E w (grow (putRow (Value.int .i64) (Sort.ahead w k) b off l'.toArray) os):=by
 have hid:T.get .no id h≠.no:=by rw [hb];intro e;cases e
 obtain ⟨b',n',o,h1,h2,h3⟩:=H.blk id hid;rw [hE] at h1;cases h1;rw [hb] at h3;obtain ⟨c,ty,fr,rfl,q1,q2,q3,q4,q5⟩:=h3;have hcs:(putCells (Value.int .i64) off l'.toArray c).size=c.size:=by simp [putCells]
 have hbr:BR P E n (.cells op m (yT (l'.map I) t off)) (.cells (putCells (Value.int .i64) off l'.toArray c) ty fr):=by
  refine ⟨_,ty,fr,rfl,by rw [hcs];exact q1,by rw [hcs];exact q2,q3,q4,fun i hi => ?_⟩;rw [uE];have hic:i<c.size:=by omega
  have hce:(putCells (Value.int .i64) off l'.toArray c)[i]? = some (if off<=i/\i<off+l'.length then Value.int .i64 (l'.toArray[i-off]!) else c[i]):=by
   simp [putCells,Array.getElem?_eq_getElem hic]
  rw [Zas];by_cases hr:off<=i/\i<off+l'.length
  ·rw [if_pos hr];rw [if_pos hr] at hce;have hj:i-off<l'.length:=by omega
   have e1:(l'.map I).getD (i-off) .undef=I l'[i-off]:=by
    rw [Zab,List.getElem?_map,List.getElem?_eq_getElem hj];rfl
   have e2:l'.toArray[i-off]! = l'[i-off]:=by simp [getElem!_pos,hj]
   rw [e1];exact ⟨rfl,_,hce,by rw [e2];simp only [VR]⟩
  ·rw [if_neg hr];rw [if_neg hr] at hce;obtain ⟨r1,v,r2,r3⟩:=q5 i hi;rw [Array.getElem?_eq_getElem hic] at r2;exact ⟨r1,_,hce,by rw [Option.some.inj r2];exact r3⟩
 have H1:=H.put hid hE hbr;have X1:Ex E E w (w.putObj b (.cells (putCells (Value.int .i64) off l'.toArray c) ty fr)):=Ex.put hE h2 fun L hL=>by cases hL
 have hbl:b<w.heap.size:=(Array.getElem?_eq_some_iff.1 h2).1;have hBel:Below (w.putObj b (.cells (putCells (Value.int .i64) off l'.toArray c) ty fr)).heap.size (w.putObj b (.cells (putCells (Value.int .i64) off l'.toArray c) ty fr)) (grow (putRow (Value.int .i64) (Sort.ahead w k) b off l'.toArray) os):=by
  refine ⟨rfl,rfl,rfl,?_,fun j hj => ?_⟩
  ·rw [World.putObj_size];simp [grow,putRow,mapBlock,Sort.ahead]
  ·rw [World.putObj_size] at hj;have e1:(grow (putRow (Value.int .i64) (Sort.ahead w k) b off l'.toArray) os).heap[j]? = (w.heap.modify b (onCells (putCells (Value.int .i64) off l'.toArray)))[j]? := by
    show (w.heap.modify b (onCells (putCells (Value.int .i64) off l'.toArray))++os)[j]? = _;rw [Array.getElem?_append_left (by simpa using hj)]
   rw [e1,Array.getElem?_modify];by_cases e:b=j
   ·subst e;rw [if_pos rfl,h2,gX _ hbl];rfl
   ·rw [if_neg e,yM _ (fun q=>e q.symm)]
 obtain ⟨r1,r2⟩:=H1.below hBel;exact ⟨r1,X1.trans r2⟩
theorem zfy {B:Nat} (law:∀ (blk off cap:Nat) (zs:List Int) (w:World),Holds (Value.int .i64) w blk off zs.toArray->blk<w.heap.size->zs.length<4611686018427387904 ->
   Go.Calls Tryz.prog 138 #[.slice (some ⟨blk,off,none⟩) zs.length cap] w fun e w'=>e=.returned (.tuple #[])/\∃ n os,w'=grow (putRow (Value.int .i64) (Sort.ahead w n) blk off (zs.mergeSort fun x y=>decide (x<=y)).toArray) os)
  (law0:∀ (p:Option Addr) (cap:Nat) (w:World),Go.Calls Tryz.prog 138 #[.slice p 0 cap] w fun e w'=>e=.returned (.tuple #[])/\w'=w):JOk Tryz.prog B qE:=by
 intro E h nx w f args vs v h2 H hv hj;unfold qE at hj;cases hf:Nat.beq f 138 with
 | false=>simp [hf] at hj
 | true =>
  obtain rfl:=yD hf;rw [hf,cond_true] at hj;split at hj
  case h_2=>cases hj
  rename_i _ x;cases hjj:bG x h with
  | none=>simp [hjj] at hj
  | some hs =>
  simp only [hjj,Option.some.injEq,Prod.mk.injEq] at hj;obtain ⟨rfl,rfl⟩:=hj;refine ⟨_,Tryz.func138,by kernel_rfl,by kernel_rfl,fun n=>callsIn_wide.2 ?_⟩;obtain ⟨l⟩:=vs;simp only [VRL] at hv;obtain ⟨u,_,rfl,hu,rfl⟩:=hv;unfold bG at hjj;split at hjj
  ·rename_i id off ln cap esz;split at hjj
   ·rename_i op m t hb;cases hq:(Nat.beq esz 1&&Nat.ble (off+ln) m&&Nat.ble ln 1000000) with
    | false=>simp [hq] at hjj
    | true =>
     rw [hq,cond_true] at hjj;simp only [Zad] at hq;obtain ⟨⟨q1,q2⟩,q3⟩:=hq;obtain rfl:=yD q1;have q2:=zZ q2;have q3:=zZ q3;cases hx:xG (zY t off ln) with
     | none=>simp [hx] at hjj
     | some xs =>
      simp only [hx,Option.some.injEq] at hjj;subst hjj;have hxs:=zgf hx;have hln:xs.length=ln:=by
       have:=congrArg List.length hxs;simpa using this.symm
      obtain ⟨b,n,c,hE,rfl,hcap⟩:=hu.sH;obtain ⟨b',n',o,h1,h2,h3⟩:=H.blk id (by rw [hb];intro e;cases e);rw [hE] at h1;cases h1;rw [hb] at h3;obtain ⟨cs,ty,fr,rfl,g1,g2,g3,g4,hc⟩:=h3;have hH:Holds (Value.int .i64) w b off xs.toArray:=by
       intro j hj;have hj:j<xs.length:=by simpa using hj
       obtain ⟨_,v',k1,k2⟩:=hc (off+j) (by omega);have he:T.get .undef (.of (off+j)) t=I xs[j]:=by
        have e1:=zW t off ln j (by omega);rw [hxs,List.getElem?_map,List.getElem?_eq_getElem hj] at e1;exact (Option.some.inj e1).symm
       rw [he] at k2;simp only [VR] at k2;subst k2;have e2:xs.toArray[j]! = xs[j]:=by simp [getElem!_pos,hj]
       rw [e2];refine ⟨by simp [World.cell?,h2,k1],?_⟩;have:=g1 (off+j) (Array.getElem?_eq_some_iff.1 k1).1;simp only [World.frozen?,h2];obtain ⟨lo,hi⟩:=fr;simp only [Bool.and_eq_false_iff,decide_eq_false_iff_not];simp only at this;omega
      rw [<- hln];refine (law b off c xs w hH (H.lt _ _ _ hE).2 (by omega)).mono ?_;rintro e w' ⟨rfl,k,os,rfl⟩;have hp:(srt xs).length=xs.length:=(qA xs).length_eq;obtain ⟨r1,r2⟩:=H.sorted (off:=off) (l:=xs) (l':=srt xs) (k:=k) (os:=os) hb hE hp (by omega);exact ⟨_,E,rfl,by simp only [VR,VRL];exact ⟨_,rfl,rfl⟩,r1,r2⟩
   ·cases hjj
  ·obtain rfl:=(Option.some.inj hjj).symm;simp only [VR] at hu;subst hu;refine (law0 none 0 w).mono ?_;rintro e w' ⟨rfl,rfl⟩;exact ⟨_,E,rfl,by simp only [VR,VRL];exact ⟨_,rfl,rfl⟩,H,.refl _ _⟩
  ·cases hjj
end Go.Ev
namespace Go.Ev
open Go Go.Proofs
variable {B:Nat}
theorem zst {h0 h:T Blk} {nx p:Pa} {L:List Ob} {k n:Nat} {o:Option Pa} {l:List Int} {K:Kw Prop} (hj:∀ B,JOk Tryz.prog B qE) (H:Hp h0 h nx L) (hk:L[k]? = some (.gro o 1 n (l.map I))) (hn:n<=1000000)
  (hK:∀ h',Hp h0 h' nx (L.set k (.gro o 1 n ((srt l).map I)))->K (.tup []) h' nx=.ok True):(CS Tryz.prog B).fn 138 p [xu o 1 n] h nx K=.ok True:=by
 have own:=H.own _ (Zaa hk);cases o with
 | none =>
  obtain ⟨q1,rfl⟩:=own;obtain rfl:l=[]:=by simpa using q1
  refine bY (hj B) (v:=.tup []) (h2:=h) rfl (hK h (H.cast ?_));have e:(srt ([]:List Int)).map I=[]:=by simp [srt]
  rw [e,(xH hk).2];exact (xH hk).1
 | some id =>
  obtain ⟨t,h1,h2,h3⟩:=own;rw [Zbw] at h1 h2 h3;have e1:bG (.sl id 0 n none 1) h=some (T.set Blk.no (Blk.cells true n (yT ((srt l).map I) t 0)) id h):=by
   show (match T.get Blk.no id h with
    | .cells op m t=>bif Nat.beq 1 1&&Nat.ble (0+n) m&&Nat.ble n 1000000 then (match xG (zY t 0 n) with
     | some l=>some (T.set Blk.no (Blk.cells op m (yT ((srt l).map I) t 0)) id h)
     | none=>none) else none
    | _=>none)=_
   rw [h1]
   show (bif Nat.beq 1 1&&Nat.ble (0+n) n&&Nat.ble n 1000000 then (match xG (zY t 0 n) with
     | some l=>some (T.set Blk.no (Blk.cells true n (yT ((srt l).map I) t 0)) id h)
     | none=>none) else none)=_
   rw [Zac (by omega),Zac hn,h3,zda];rfl
  have e2:qE 138 [xu (some id) 1 n] h=some (.tup [],T.set Blk.no (Blk.cells true n (yT ((srt l).map I) t 0)) id h):=by
   show (match bG (.sl id 0 n none 1) h with
    | some h=>some ((.tup []:AV),h)
    | none=>none)=_
   rw [e1]
  refine bY (hj B) e2 (hK _ (H.upd hk (by simp [Ob.names]) rfl ⟨_,by rw [T.get_set_same,Zbw],by simpa using h2,?_⟩));have:=u7 t [] ((srt l).map I) 0 rfl;rw [Zav,List.nil_append] at this;have hl:((srt l).map I).length=n:=by simpa using h2
  rw [hl] at this;rw [Zbw];exact this
theorem zl1 {l:List Int} (hj:∀ B,JOk Tryz.prog B qE) (hl:l.length<=100000):Pure Tryz.prog B 101 [.fn 169 (.of 169) [.fp [encI l]]] (· = encI (srt l)):=by
 refine yC fun h nx K H0 hK=>zM zP yh 100 fun hf => ?_;rw [oW.go];refine yE (p:=.of 168) (K:=fun v1 h2 n3=>(CS Tryz.prog B).fn 138 (.of 138) [v1] h2 n3 fun v4 h5 n6=>K v1 h5 n6) (zM zP yh 100 fun hf => ?_) fun _ _ _ _ q=>q;rw [oZ.go];refine zlt hl H0 fun o h1 nx1 H1 => ?_;refine zst hj H1 (k:=0) rfl (by omega) fun h2 H2 => ?_;refine hK _ _ _ _ _ H2 (H2.zam (k:=0) rfl (by intro v hv;obtain ⟨t,_,rfl⟩:=List.mem_map.1 hv;rfl)) ?_;show _=AV.lst 1 _ _;rw [zie]
theorem zwh {a:Int} {n:Nat} (h:0<=a) (hn:0<n):0<=a.tdiv n/\a.tdiv n<=a:=by
 rw [Int.tdiv_eq_ediv_of_nonneg h];exact ⟨Int.ediv_nonneg h (by omega),Int.ediv_le_self _ h⟩
theorem zzn {a:Int} {n:Nat} {K:AV->OP} (h:0<=a) (h2:a<=9223372036854775807) (hn:0<n):zf .quo .int (I a) (I (n:Int)) K=K (I (a.tdiv n)):=by
 obtain ⟨q1,q2⟩:=zwh h hn;have e:zf .quo .int (I a) (I (n:Int)) K=(bif ieq (n:Int) 0 then Out.no 5 else wo (IntKind.wrap .i64 (a.tdiv n)) fun z=>K (.int .i64 z)):=rfl;rw [e,wD];have hb:((n:Int)==0)=false:=by simp;omega
 rw [hb,cond_false,j8,uJ (by omega)]
end Go.Ev
namespace Go.Ev
open Go.Proofs
def shr (lines:List (List Int)) (f:List Nat):List Int:=lines.map fun l=>((con 0 f l:Nat):Int)
end Go.Ev
namespace Go.Ev
open Go Go.Proofs
variable {B:Nat}
theorem zpg {k:IntKind} {x:Nat} {K:AV->OP}:kL .u8 (.int k (x:Int)) K=K (u8 (x%256)):=by
 show wo (kE .u8 (x:Int)) (fun z=>K (.int .u8 z))=_;rw [j8,kX,IntKind.wrap_u8];have:u8 (x%256)=.int .u8 ((x:Int)%256):=by unfold u8;congr 1
 rw [this]
theorem Hp.swap {h0 h:T Blk} {nx:Pa} {a b:Ob} {L:List Ob} (H:Hp h0 h nx (a::b::L)):Hp h0 h nx (b::a::L):=H.perm (.swap _ _ _)
end Go.Ev
namespace Go.Ev
structure zdb (n:Nat) (to:List Int):Prop where
 len:to.length=n
 nd:to.Nodup
 rg:∀ x∈to,0<=x/\x<(n:Int)
theorem zdb.at {n:Nat} {to:List Int} (h:zdb n to) {i:Nat} (hi:i<n):to[i]? = some (to.getD i 0):=by
 rw [Zab,List.getElem?_eq_getElem (by rw [h.len];exact hi)];rfl
theorem zdb.bd {n:Nat} {to:List Int} (h:zdb n to) {i:Nat} (hi:i<n):0<=to.getD i 0/\to.getD i 0<(n:Int):=h.rg _ (Zaa (h.at hi))
theorem zdb.inj {n:Nat} {to:List Int} (h:zdb n to) {i j:Nat} (hi:i<n) (hj:j<n) (e:to.getD i 0=to.getD j 0):i=j:=by
 obtain ⟨a1,a2⟩:=List.getElem?_eq_some_iff.1 (h.at hi);obtain ⟨b1,b2⟩:=List.getElem?_eq_some_iff.1 (h.at hj);have hp:=List.pairwise_iff_getElem.1 h.nd;rcases Nat.lt_trichotomy i j with c | c | c
 ·exact absurd (a2.trans (e.trans b2.symm)) (hp i j a1 b1 c)
 ·exact c
 ·exact absurd (b2.trans (e.symm.trans a2.symm)) (hp j i b1 a1 c)
end Go.Ev
namespace Go.Ev
open Go Go.Proofs
variable {B:Nat}
def mkL (n:Nat) (to line:List Int) (k:Nat):List Bool:=(List.range n).map fun c:Nat=>(line.take k).any fun x=>decide (to.getD x.toNat 0=(c:Int))
@[simp] theorem zwi (n:Nat) (to line:List Int) (k:Nat):(mkL n to line k).length=n:=by simp [mkL]
theorem zl2 (o:Option Pa) (e n:Nat):jc (xu o e n)=true:=by cases o <;> rfl
theorem zj5 {n:Int} {K:AV->OP}:y9 [(I 0),.zh] [(0,1,I n)] K=K (.agg [I n,.zh]):=nr rfl
def zb7 (ns:List Pa) (h:T Blk):T Blk:=ns.foldl (fun h n=>T.set .no .no n h) h
theorem zb8:∀ (ns:List Pa) (h:T Blk) (j:Pa),(j∈ns\/T.get .no j h=.no)->T.get .no j (zb7 ns h)=.no
  | [],h,j,q=>by rcases q with q | q;· simp at q
                 · exact q
  | n::ns,h,j,q=>by
    show T.get .no j (zb7 ns (T.set .no .no n h))=_;refine zb8 ns _ j ?_;by_cases e:j=n
    · subst e;exact .inr (T.get_set_same _ _ _ _)
    · rcases q with q | q
      · rcases List.mem_cons.1 q with q | q
        · exact absurd q e
        · exact .inl q
      · exact .inr (by rw [T.zu _ _ _ _ _ e];exact q)
theorem zdc:∀ (ns:List Pa) (h:T Blk) (j:Pa),j∉ns->T.get .no j (zb7 ns h)=T.get .no j h
 | [],_,_,_=>rfl
 | n::ns,h,j,q=>by
  show T.get .no j (zb7 ns (T.set .no .no n h))=_;rw [zdc ns _ j fun r=>q (Zan _ r),T.zu _ _ _ _ _ fun e=>q (by rw [e];exact Zaj ..)]
theorem Hp.base {h0 h:T Blk} {nx:Pa} {L:List Ob} (H:Hp h0 h nx L):Hp .e h nx L :=
 ⟨fun j hj=>absurd (T.cu _ j) hj,H.own,fun n _=>T.cu _ n,H.nd,H.fr⟩
abbrev TRow:=AV×Ob×List Int
def oC (t:TRow):Prop:=(∃ p cap,vW t.2.2.length cap/\t.2.1=.arr p (t.2.2.map I)/\t.1=.sl p 0 t.2.2.length cap 1)\/∃ o,t.2.1=.gro o 1 t.2.2.length (t.2.2.map I)/\t.1=xu o 1 t.2.2.length
theorem oC.jc {t:TRow} (h:oC t):jc t.1=true:=by
 rcases h with ⟨p,cap,_,_,e⟩ | ⟨o,_,e⟩
 ·rw [e];rfl
 ·rw [e];exact zl2 _ _ _
theorem oC.cells {t:TRow} (h:oC t):t.1.cells=some [t.1]:=by
 rcases h with ⟨p,cap,_,_,e⟩ | ⟨o,_,e⟩
 ·rw [e];rfl
 ·rw [e];exact kP _ _ _
theorem zel (l:List Int):∀ v∈l.map I,fH v=true:=fun v hv=>by obtain ⟨x,_,rfl⟩:=List.mem_map.1 hv;rfl
theorem oC.frz {h0 h:T Blk} {nx:Pa} {L:List Ob} {t:TRow} (hr:oC t) (H:Hp h0 h nx L) (hm:t.2.1∈L):rH h0 h t.1 (encI t.2.2):=by
 obtain ⟨k,hk⟩:=List.mem_iff_getElem?.1 hm;rcases hr with ⟨p,cap,hc,e1,e2⟩ | ⟨o,e1,e2⟩
 ·rw [e1] at hk;rw [e2];exact H.og hk hc (by simp) (zel _)
 ·rw [e1] at hk;rw [e2];exact H.zam hk (zel _)
theorem oC.len {h0 h:T Blk} {nx:Pa} {L:List Ob} {t:TRow} (hr:oC t) (H:Hp h0 h nx L) (hm:t.2.1∈L) (op:AV->OP):sLen t.1 op=op (I t.2.2.length):=by
 obtain ⟨k,hk⟩:=List.mem_iff_getElem?.1 hm;rcases hr with ⟨p,cap,hc,e1,e2⟩ | ⟨o,e1,e2⟩
 ·rw [e2];rfl
 ·rw [e1] at hk;rw [e2];exact H.zh3 hk
theorem oC.rd {h0 h:T Blk} {nx:Pa} {L:List Ob} {t:TRow} (hr:oC t) (H:Hp h0 h nx L) (hm:t.2.1∈L) (no:OP) (K':List AV->Nat->OP):uG t.1 h no K'=K' (t.2.2.map I) t.2.2.length:=by
 obtain ⟨k,hk⟩:=List.mem_iff_getElem?.1 hm;rcases hr with ⟨p,cap,hc,e1,e2⟩ | ⟨o,e1,e2⟩
 ·rw [e1] at hk hm;rw [e2];exact yw.rd (H.own _ hm) (by simp) no K'
 ·rw [e1] at hk;rw [e2];rw [H.zjq hk (Zai _),Zap (by simp)]
def lsE (n:Int):Option (List Int)->List (List Int)->Int
 | _,[]=>0
 | p,f::l=>if dO n f≠0 then dO n f else if (p.any fun q => !gB q f)=true then 11 else lsE n (some f) l
theorem zph {n:Int}:∀ {l:List (List Int)} {p:Option (List Int)},lsE n p l=0->(∀ f∈l,dO n f=0)/\Ord l/\∀ q,p=some q->∀ f∈l,gB q f=true
 | [],_,_=>⟨by simp,.nil,by simp⟩
 | f::l,p,h=>by
  rw [lsE] at h;by_cases c1:dO n f=0
  case neg=>rw [if_pos c1] at h;exact absurd h c1
  rw [if_neg (by simp [c1])] at h;cases c2:p.any fun q => !gB q f with
  | true=>rw [c2,if_pos rfl] at h;cases h
  | false =>
   rw [c2,if_neg (by simp)] at h;obtain ⟨h1,h2,h3⟩:=zph h;have h4:=h3 f rfl;refine ⟨fun x hx => ?_,List.pairwise_cons.2 ⟨h4,h2⟩,fun q hq x hx => ?_⟩
   ·rcases List.mem_cons.1 hx with rfl | hx
    ·exact c1
    ·exact h1 x hx
   ·subst hq;have hqf:gB q f=true:=by simpa using c2
    rcases List.mem_cons.1 hx with rfl | hx
    ·exact hqf
    ·have:=h4 x hx;rw [xE] at hqf this ⊢;exact decide_eq_true (gE (of_decide_eq_true hqf) (of_decide_eq_true this))
theorem zil {n:Int} {f:List Int} (h:dO n f=0):(f.length:Int)=n/\∀ x∈f, -999999999<=x/\x<=999999999:=by
 rw [dO] at h;by_cases c:(f.length:Int)=n
 ·rw [if_neg (by simp [c])] at h;refine ⟨c,fun x hx => ?_⟩;have hn:f.any outR=false:=by
   cases q:f.any outR with
   | false=>rfl
   | true=>rw [q,if_pos rfl] at h;cases h
  have:=List.any_eq_false.1 hn x hx;simp only [outR,Zcb,decide_eq_true_eq] at this;omega
 ·rw [if_pos c] at h;cases h
def imgB (G:List Sym) (l:List (List Int)):Bool:=l.all fun f=>G.all fun g=>decide (jH g.2 g.1 f∈l)
def zj6 (G:List Sym) (n:Int) (l:List (List Int)):Int:=if 1024<l.length then 5 else if lsE n none l≠0 then lsE n none l else if imgB G l=false then 7 else 0
def vU (G:List Sym):Int:=if h:0<G.length then ((G[0].1.length:Nat):Int) else 0
def zpi (G:List Sym) (l:List (List Int)):Int:=if j5 G (vU G)≠0 then j5 G (vU G) else zj6 G (vU G) l
def leastOf (p:List (List Int)) (j:Nat):Int:=p.foldl (fun m row=>min m (row.getD j 0)) (j:Int)
def szAt (p:List (List Int)) (n i:Nat):Nat:=((List.range n).filter fun j=>decide (leastOf p j=(i:Int))).length
def szL (p:List (List Int)) (w n:Nat):List Int:=(List.range w).map fun i=>((szAt p n i:Nat):Int)
def PlOk (p:List (List Int)) (n:Nat):Prop:=∀ row∈p,row.length=n/\∀ x∈row,0<=x/\x<(n:Int)
@[simp] theorem qab (p:List (List Int)) (w n:Nat):(szL p w n).length=w:=by simp [szL]
theorem kF (b:Bool) (e:Int):Pure Tryz.prog B 76 [.bool b,I e] (· = I (if b then e else 0)):=by
 intro p h nx K hK;refine zM zP yh 9 fun hf => ?_;rw [F76.go];cases b <;> simp (disch:=omega) only [jf,pq,rV,fQ,qm,jk,sJ,xk,rC,zV,zT,zD,zE,jM,yL,yQ,jZ,yW,jA,jB,gI,jV,jR,jU,zL,yX,yN,zC,decide_true,decide_false,Zaf,Zah,jE] <;> exact hK _ rfl hf
theorem vP {l:List Int} (hl:l.length<=1000000):Pure Tryz.prog B 72 [encI l] (· = I (gQ l)):=by
 intro p h nx K hK;refine zM zP yh 10000000 fun hf => ?_;rw [F72.go];simp (disch:=omega) only [jf,pq,rV,fQ,qm,jk,sJ,xk,rC,zV,zT,zD,zE,jM,yL,yQ,jZ,yW,jA,jB,gI,jV,jR,jU,zL,yX,yN,zC,decide_true,decide_false,Zaf,Zah,jE];refine F72.L1 (fun m z5 h' nx'=>∃ i:Nat,z5=I i/\l.length-i=m/\i<=l.length/\h'=h/\nx'=nx/\∀ e∈l.take i,e=0) (m:=l.length) (by omega) ⟨0,rfl,rfl,by omega,rfl,rfl,by simp⟩ ?_;rintro m z1 z2 z5 z6 z7 _ _ R ⟨i,rfl,rfl,hi,rfl,rfl,htk⟩ hR;simp (disch:=omega) only [jf,pq,rV,fQ,qm,jk,sJ,xk,rC,zV,zT,zD,zE,jM,yL,yQ,jZ,yW,jA,jB,gI,jV,jR,jU,zL,yX,yN,zC,decide_true,decide_false,Zaf,Zah,jE];by_cases hlt:i<l.length
 ·simp only [show (i:Int)<(l.length:Int) by omega,decide_true,zD];have hx:l[i]? = some l[i]:=List.getElem?_eq_getElem hlt;rw [cZ rfl hlt,ldL (rJ hx)];simp (disch:=omega) only [jf,pq,rV,fQ,qm,jk,sJ,xk,rC,zV,zT,zD,zE,jM,yL,yQ,jZ,yW,jA,jB,gI,jV,jR,jU,zL,yX,yN,zC,decide_true,decide_false,Zaf,Zah,jE];have hd:l.drop i=l[i]::l.drop (i+1):=Zar hlt;by_cases h0:l[i]=0
  ·simp only [h0,decide_true,Zaf,zE];refine hR _ _ _ _ _ _ _ _ (by omega) ⟨i+1,rfl,rfl,by omega,rfl,rfl,fun e he => ?_⟩;rw [Zaq,hx] at he;rcases List.mem_append.1 he with q | q
   ·exact htk e q
   ·simp at q;rw [q];exact h0
  ·simp only [h0,decide_false,Zah,zD];refine hK _ ?_ hf;rw [qF l i htk,hd,gQ,if_pos h0]
 ·simp only [show ¬ (i:Int)<(l.length:Int) by omega,decide_false,zE];obtain rfl:i=l.length:=by omega
  rw [F72.k8];refine hK _ ?_ hf;have:=qF l l.length htk;rw [this,List.drop_length];rfl
theorem zgg (n:Int):Pure Tryz.prog B 125 [I n] (· = I (if n<0\/256<n then 3 else 0)):=by
 intro p h nx K hK;refine zM zP yh 9 fun hf => ?_;rw [F125.go];simp only [jk];by_cases c1:n<0
 ·simp only [c1,decide_true,yQ,zV];refine kF _ _ _ _ _ _ ?_;rintro _ rfl hf2;exact hK _ (by rw [if_pos (.inl c1)];rfl) hf2
 ·simp only [c1,decide_false,yL,xk,zT];refine kF _ _ _ _ _ _ ?_;rintro _ rfl hf2;refine hK _ ?_ hf2;by_cases c2:256<n
  ·rw [if_pos (.inr c2),if_pos (decide_eq_true c2)]
  ·rw [if_neg (by omega),if_neg (by simpa using c2)]
theorem zsu {l:List Int} (hl:l.length<=100000):Pure Tryz.prog B 187 [encI l] (· = I (qM l)):=by
 refine yC fun h nx K H0 hK=>zM zP yh 1000000 fun hf => ?_;rw [jg.go];rw [zL];simp only [xk];by_cases c:(256:Int)<(l.length:Int)
 ·simp only [c,decide_true,zD];exact hK _ _ _ _ _ H0 (zK rfl) (by rw [qM,if_pos (by omega)])
 have hpe:qM l=if qK l then 0 else 14:=by rw [qM,if_neg (by omega)]
 simp only [c,decide_false,zE];rw [zL];refine H0.mk1 l.length rfl rfl (by omega) (by decide) fun tb h1 nx1 H1 => ?_;rw [zL];have e0:List.replicate l.length (AV.bool false)=(hadL l.length []).map AV.bool:=by simp [hadL]
 rw [e0] at H1
 refine jg.L2 (fun m x3 h' nx'=>∃ i:Nat,x3=I i/\m=l.length-i/\i<=l.length/\(l.take i).Nodup/\(∀ x∈l.take i,0<=x/\x<(l.length:Int))/\Hp h h' nx' [.arr tb ((hadL l.length (l.take i)).map AV.bool)]) (m:=l.length) (by omega)
  ⟨0,rfl,by omega,by omega,by simp,by simp,by simpa using H1⟩ ?_
 rintro m z1 z3 z7 z8 z9 h2 nx2 R ⟨i,rfl,rfl,hi,hnd,hrg,H2⟩ hR;simp only [jk];by_cases hlt:i<l.length
 case neg =>
  simp only [show ¬ (i:Int)<(l.length:Int) by omega,decide_false,zE];rw [jg.k10];rw [Zap (by omega)] at hnd hrg;exact hK _ _ _ _ _ H2 (zK rfl) (by rw [hpe,if_pos ⟨hnd,hrg⟩])
 simp only [show (i:Int)<(l.length:Int) by omega,decide_true,zD];have hx:l[i]? = some l[i]:=List.getElem?_eq_getElem hlt;have bad:¬ qK l->K (I 14) h2 nx2=.ok True:=fun q=>hK _ _ _ _ _ H2 (zK rfl) (by rw [hpe,if_neg q]);have hrange:qK l->0<=l[i]/\l[i]<(l.length:Int):=fun q=>q.2 _ (Zal hlt);rw [cZ rfl hlt,ldL (rJ hx)];by_cases c1:l[i]<0
 ·simp only [jk,c1,decide_true,yQ,zV,zD];exact bad fun q=>by have:=hrange q;omega
 simp only [jk,c1,decide_false,yL];rw [zL];simp only [rC,zT];by_cases c2:(l.length:Int)<=l[i]
 ·simp only [c2,decide_true,yQ,zV,zD];exact bad fun q=>by have:=hrange q;omega
 simp only [c2,decide_false,yL];have hk:(l[i]).toNat<l.length:=by omega
 have hg:((hadL l.length (l.take i)).map AV.bool)[(l[i]).toNat]? = some (.bool (decide (l[i]∈l.take i))):=by
  rw [List.getElem?_map,zpc (fun x hx=>(hrg x hx).1) hk,show (((l[i]).toNat:Nat):Int)=l[i] by omega];rfl
 rw [sIx (i:=(l[i]).toNat) (by omega) hk,H2.load (k:=0) rfl hg];simp only [zT];by_cases c3:l[i]∈l.take i
 ·simp only [c3,decide_true,zD];refine bad fun q => ?_;obtain ⟨j,hj⟩:=List.mem_iff_getElem?.1 c3;have hjl:=(List.getElem?_eq_some_iff.1 hj).1;rw [Zaz] at hjl;rw [List.getElem?_take_of_lt (by omega)] at hj;obtain ⟨a1,a2⟩:=List.getElem?_eq_some_iff.1 hj;exact List.pairwise_iff_getElem.1 q.1 j i a1 hlt (by omega) a2
 simp only [c3,decide_false,zE];rw [jg.k8,sIx (i:=(l[i]).toNat) (by omega) hk];refine H2.store (k:=0) rfl (by rw [Zas,zf5];exact hk) rfl fun h3 H3 => ?_;rw [jg.k9,jf (by omega)];have htk:l.take (i+1)=l.take i++[l[i]]:=by rw [Zaq,hx];rfl
 refine hR _ _ _ _ _ _ _ _ (by omega) ⟨i+1,rfl,rfl,by omega,?_,?_,H3.cast ?_⟩
 ·rw [htk];exact List.nodup_append.2 ⟨hnd,by simp,fun a ha b hb=>by simp at hb;subst hb;rintro rfl;exact c3 ha⟩
 ·intro x hm;rw [htk] at hm;rcases List.mem_append.1 hm with q | q
  ·exact hrg x q
  ·simp at q;subst q;omega
 ·rw [htk,zlv];simp [List.map_set]
theorem zl3 {l:List Int} (hl:l.length<=100000):Pure Tryz.prog B 126 [encI l] (· = .bool (decide (qM l=0))):=by
 intro p h nx K hK;refine zM zP yh 100 fun hf => ?_;rw [o9.go];refine zsu hl _ _ _ _ ?_;rintro _ rfl hf2;simp only [fQ];exact hK _ rfl hf2
theorem zim {g:List Int} {c:Bool} {n:Int} (hl:g.length<=100000):Pure Tryz.prog B 64 [.agg [encI g,.bool c],I n] (· = I (jK g n)):=by
 refine yC fun h nx K H0 hK=>zM zP yh 1000 fun hf => ?_;rw [F64.go];refine H0.box (l:=[encI g,.bool c]) rfl fun bx h1 nx1 H1 => ?_;rw [sFx,H1.load (k:=0) (i:=0+0) rfl rfl];simp only [zL,qm];rw [sFx,H1.load (k:=0) (i:=0+0) rfl rfl];refine zgg n _ _ _ _ ?_;rintro _ rfl _;rw [H1.load (k:=0) (i:=0+0) rfl rfl];simp only [zC,sFx,qm,zL];rw [H1.load (k:=0) (i:=0+0) rfl rfl];simp only [zC];refine kF _ _ _ _ _ _ ?_;rintro _ rfl _;rw [H1.load (k:=0) (i:=0+0) rfl rfl];simp only [zC];refine zl3 hl _ _ _ _ ?_;rintro _ rfl _;simp only [yW];refine kF _ _ _ _ _ _ ?_;rintro _ rfl _;refine H1.yc (l:=[I (if n<0\/256<n then 3 else 0),I (if (!decide ((g.length:Int)=n))=true then 2 else 0),I (if (!decide (qM g=0))=true then 14 else 0)]) rfl fun id h4 nx4 H4 => ?_;refine u9 (l:=[if n<0\/256<n then 3 else 0,if (!decide ((g.length:Int)=n))=true then 2 else 0,if (!decide (qM g=0))=true then 14 else 0]) H4 (k:=0) rfl (fun B=>vP (by simp)) (fun v hv=>by rw [hv];exact .int _ _) ?_;rintro _ rfl;refine hK _ _ _ _ _ H4 (zK rfl) ?_
 congr 1
 rw [jK];by_cases c1:n<0\/256<n
 ·rw [if_pos c1,if_pos c1];rfl
 rw [if_neg c1,if_neg c1];by_cases c2:(g.length:Int)=n
 case neg=>rw [if_pos (show (g.length:Int)≠n from c2),decide_eq_false c2];rfl
 rw [if_neg (show ¬ ((g.length:Int)≠n) from fun q=>q c2),decide_eq_true c2];have:qM g=if qK g then 0 else 14:=by rw [qM,if_neg (by omega)]
 rw [this];by_cases c3:qK g
 ·rw [if_pos c3];rfl
 ·rw [if_neg c3];rfl
theorem zgh {G:List Sym} {n:Int} (hG:G.length<=100000) (hw:∀ g∈G,g.1.length<=100000):Pure Tryz.prog B 199 [fB G,I n] (· = I (gL n G)):=by
 refine yC fun h nx K H0 hK=>zM zP yh 1000000 fun hf => ?_;rw [ug.go];simp only [zL];refine ug.L1 (fun m x7 h' nx'=>∃ (i:Nat) (L:List Ob),x7=I i/\G.length-i=m/\i<=G.length/\gL n G=gL n (G.drop i)/\Hp h h' nx' L) (m:=G.length) (by omega) ⟨0,_,rfl,rfl,by omega,rfl,H0⟩ ?_;rintro m z2 z3 z4 z7 z8 z9 h2 nx2 R ⟨i,L,rfl,rfl,hi,hs,H2⟩ hR;simp only [jk];by_cases hlt:i<G.length
 case neg =>
  simp only [show ¬ (i:Int)<(G.length:Int) by omega,decide_false,zE];obtain rfl:i=G.length:=by omega
  rw [ug.k8];exact hK _ _ _ _ _ H2 (zK rfl) (by rw [hs,List.drop_length];rfl)
 simp only [show (i:Int)<(G.length:Int) by omega,decide_true,zD];rw [cZ rfl hlt,uZ hlt,zej];refine H2.alloc fun ab h5 nx5 H5 => ?_;refine H5.qo (k:=0) (n:=2) rfl rfl rfl fun h6 H6 => ?_;rw [H6.zk (k:=0) (n:=2) rfl rfl];refine zim (hw _ (Zal hlt)) _ _ _ _ ?_;rintro _ rfl _;have hs2:=zek hlt (n:=n);simp only [qm];by_cases c:jK G[i].1 n=0
 ·simp only [c,decide_true,Zaf,zE];rw [jf (by omega)];exact hR _ _ _ _ _ _ _ _ _ (by omega) ⟨i+1,_,rfl,rfl,by omega,by rw [hs,hs2,if_neg (by simp [c])],H6⟩
 ·simp only [c,decide_false,Zah,zD];exact hK _ _ _ _ _ H6 (zK rfl) (by rw [hs,hs2,if_pos c])
def cmpS (a b:Sym):Int:=if cmpL a.1 b.1≠0 then cmpL a.1 b.1 else if a.2=b.2 then 0 else if a.2 then 1 else -1
theorem zgi (a b:Sym):cmpS a b<0↔befS a b=true:=by
 rw [cmpS,befS];by_cases c:a.1=b.1
 ·have:=(zgc a.1 b.1).2 c;rw [if_neg (by simp [this]),if_pos c];cases a.2 <;> cases b.2 <;> decide
 ·have:¬ cmpL a.1 b.1=0:=fun q=>c ((zgc a.1 b.1).1 q);rw [if_pos this,if_neg c];exact cmp_neg a.1 b.1
theorem zwj {a b:Bool} {K:AV->OP}:zf .eql .bool (.bool a) (.bool b) K=K (.bool (decide (a=b))):=by cases a <;> cases b <;> exact nr rfl
theorem zin {a b:Sym} (ha:a.1.length<=1000000) (hb:b.1.length<=1000000):Pure Tryz.prog B 114 [encS a,encS b] (· = I (cmpS a b)):=by
 refine yC fun h nx K H0 hK=>zM zP yh 1000 fun hf => ?_;rw [rW.go];refine H0.box (l:=[encI a.1,.bool a.2]) rfl fun bx h1 nx1 H1 => ?_;refine H1.box (l:=[encI b.1,.bool b.2]) rfl fun by' h2 nx2 H2 => ?_
 rw [sFx,H2.load (k:=1) (i:=0+0) rfl rfl,sFx,H2.load (k:=0) (i:=0+0) rfl rfl];refine zls ha hb _ _ _ _ ?_;rintro _ rfl _;simp only [qm];by_cases c:cmpL a.1 b.1=0
 case neg =>
  simp only [c,decide_false,Zah,yQ,zV,zD];exact hK _ _ _ _ _ H2 (zK rfl) (by rw [cmpS,if_pos c])
 simp only [c,decide_true,Zaf,yL];rw [sFx,H2.load (k:=1) (i:=0+1) rfl rfl,sFx,H2.load (k:=0) (i:=0+1) rfl rfl,zwj];simp only [zT];by_cases c2:a.2=b.2
 ·simp only [c2,decide_true,zD];exact hK _ _ _ _ _ H2 (zK rfl) (by rw [cmpS,if_neg (by simp [c]),if_pos c2])
 simp only [c2,decide_false,zE];rw [rW.k1,sFx,H2.load (k:=1) (i:=0+1) rfl rfl];cases c3:a.2 with
 | true =>
  simp only [zD];exact hK _ _ _ _ _ H2 (zK rfl) (by rw [cmpS,if_neg (by simp [c]),if_neg c2,c3];rfl)
 | false =>
  simp only [zE];exact hK _ _ _ _ _ H2 (zK rfl) (by rw [cmpS,if_neg (by simp [c]),if_neg c2,c3];rfl)
theorem mC {N:Pa->Prop} {O:AV->Prop} {hh:T Blk} {a b a' b':AV} (h1:Frz True N O hh a a') (h2:Frz True N O hh b b') (hs:([a',b']:List AV).all jc=true):Frz True N O hh (.agg [a,b]) (.agg [a',b']):=by
 refine .agg _ _ rfl hs fun i v v' hi hi' => ?_
 match i with
 | 0=>simp at hi hi';subst hi;subst hi';exact h1
 | 1=>simp at hi hi';subst hi;subst hi';exact h2
 | i+2=>simp at hi
def idP (n i:Nat):List Int:=(List.range n).map fun j:Nat=>if j<i then (j:Int) else 0
def idS (n:Nat):Sym:=((List.range n).map fun j:Nat=>(j:Int),false)
@[simp] theorem qac (n i:Nat):(idP n i).length=n:=by simp [idP]
theorem zsv {n i:Nat}:(idP n i).set i (i:Int)=idP n (i+1):=by
 refine Zax fun j => ?_;rw [List.getElem?_set,idP,idP,Zas,List.length_range,List.getElem?_map,List.getElem?_map];by_cases hj:j<n
 ·rw [List.getElem?_range hj];by_cases e:i=j
  ·subst e;simp [hj]
  ·rw [if_neg e];simp only [Zbv]
   congr 1
   by_cases c:j<i
   ·rw [if_pos c,if_pos (by omega)]
   ·rw [if_neg c,if_neg (by omega)]
 ·rw [List.getElem?_eq_none (l:=List.range n) (by simp;omega)];by_cases e:i=j
  ·rw [if_pos e,if_neg (by omega)];rfl
  ·rw [if_neg e];rfl
theorem zgj {a b:AV} (ha:a.cells=some [a]) (hb:b.cells=some [b]) {K:AV->OP}:y9 [.zh,.bool false] [(0,1,a),(1,1,b)] K=K (.agg [a,b]):=by
 unfold y9;simp only [gJ,ha,hb]
 rfl
theorem zgk {n:Nat} (hn:n<=1000):Pure Tryz.prog B 248 [I n] (· = encS (idS n)):=by
 refine yC fun h nx K H0 hK=>zM zP yh 1000000 fun hf => ?_;rw [uh.go];refine H0.alloc fun r h1 nx1 H1 => ?_;refine H1.mk1 n rfl rfl (by omega) (by decide) fun tb h2 nx2 H2 => ?_;have e:∀ K:AV->OP,y9 [.zh,(.bool false)] [(0,1,.sl tb 0 n (some n) 1)] K=K (.agg [.sl tb 0 n (some n) 1,.bool false]):=fun K=>nr rfl;rw [e];refine H2.alloc fun s h3 nx3 H3 => ?_;refine H3.qo (k:=0) (n:=2) rfl rfl rfl fun h4 H4 => ?_;rw [sFx,H4.load (k:=0) (i:=0+0) rfl rfl,yX];have e0:List.replicate n (I 0)=(idP n 0).map I:=by
  rw [idP,List.map_map];rw [show ((I ∘ fun j:Nat=>if j<0 then (j:Int) else 0):Nat->AV)=fun _=>I 0 from funext fun j=>by simp,List.map_const',List.length_range]
 refine uh.L1 (fun m x5 h' nx'=>∃ i:Nat,x5=I i/\n-i=m/\i<=n/\Hp h h' nx' [.arr s [.sl tb 0 n (some n) 1,.bool false],.arr tb ((idP n i).map I),.arr r [.zh,.bool false]]) (m:=n) (by omega) ⟨0,rfl,rfl,by omega,H4.cast (by rw [e0];rfl)⟩ ?_;rintro m z3 z5 z6 h5 nx5 R ⟨i,rfl,rfl,hi,H5⟩ hR;simp only [jk];by_cases hlt:i<n
 ·simp only [show (i:Int)<(n:Int) by omega,decide_true,zD];rw [sFx,H5.load (k:=0) (i:=0+0) rfl rfl,sIx (i:=i) rfl hlt];refine H5.store (k:=1) rfl (by simpa using hlt) rfl fun h6 H6 => ?_;rw [jf (by omega)];refine hR _ _ _ _ _ _ (by omega) ⟨i+1,rfl,rfl,by omega,H6.cast ?_⟩;rw [<- zsv,List.map_set];rfl
 ·simp only [show ¬ (i:Int)<(n:Int) by omega,decide_false,zE];obtain rfl:i=n:=by omega
  rw [uh.k8,H5.zk (k:=0) (n:=2) rfl rfl];refine H5.qo (k:=2) (n:=2) rfl rfl rfl fun h6 H6 => ?_;rw [H6.zk (k:=2) (n:=2) rfl rfl];have e1:idP i i=(idS i).1:=Zci fun j hj=>by rw [if_pos (List.mem_range.1 hj)]
  have e2:(idS i).1.length=i:=by simp [idS]
  refine hK _ _ _ _ (encS (idS i)) H6 ?_ rfl;refine mC ?_ (zK rfl) rfl;have:=H6.og (k:=1) (cap:=some i) (e:=1) (n:=i) rfl (Zai _) (by simp) (fun v hv=>by obtain ⟨x,_,rfl⟩:=List.mem_map.1 hv;rfl);rw [e1] at this;have e3:encI (idS i).1=.lst 1 i ((idS i).1.map I):=by rw [encI,e2]
  rw [e3];exact this
def vS (p q:List Int) (i:Nat):List Int:=vT p (q.take i)++List.replicate (q.length-i) 0
theorem kB (p q:List Int):(vT p q).length=q.length:=by simp [vT]
theorem zdd {p q:List Int} {i:Nat} (hi:i<=q.length):(vS p q i).length=q.length:=by simp [vS,kB];omega
theorem zl4 {p q:List Int} {i:Nat} {x:Int} (h:q[i]? = some x):(vS p q i).set i (p.getD x.toNat 0)=vS p q (i+1):=by
 have hi:=(List.getElem?_eq_some_iff.1 h).1;have hl:(vT p (q.take i)).length=i:=by rw [kB,Zaz];omega
 rw [vS,vS,zii h,List.set_append_right _ _ (by omega),hl];rw [show q.length-i=(q.length-(i+1))+1 by omega,List.replicate_succ,Nat.sub_self,List.set_cons_zero];simp
theorem zpj {a b:Sym} (hq:∀ x∈b.1,0<=x/\x<(a.1.length:Int)) (hl:b.1.length<=1000):Pure Tryz.prog B 250 [encS a,encS b] (· = encS (jJ a b)):=by
 refine yC fun h nx K H0 hK=>zM zP yh 1000000 fun hf => ?_;rw [uj.go];refine H0.box (l:=[encI a.1,.bool a.2]) rfl fun ba h1 nx1 H1 => ?_;refine H1.box (l:=[encI b.1,.bool b.2]) rfl fun bb h2 nx2 H2 => ?_;refine H2.alloc fun r h3 nx3 H3 => ?_;have hch:(mkSl 8 (I (b.1.length:Int)) (I (b.1.length:Int))&&true)=true:=by
  have:mkSl 8 (I (b.1.length:Int)) (I (b.1.length:Int))=(Nat.ble b.1.length b.1.length&&Nat.ble b.1.length 1000000&&Nat.ble (8*b.1.length) 281474976710656):=rfl;rw [this,Zac (Zai _),Zac (by omega),Zac (by omega)];rfl
 rw [show (true&&true)=true from rfl,jE,sFx,H3.load (k:=1) (i:=0+0) rfl rfl,zL,hch,jE,sFx,H3.load (k:=2) (i:=0+1) rfl rfl,sFx,H3.load (k:=1) (i:=0+1) rfl rfl,zj3];refine H3.mk1 b.1.length rfl rfl (by omega) (by decide) fun tb h4 nx4 H4 => ?_;rw [zj3,zC,H4.load (k:=2) (i:=0+1) rfl rfl,zC,sFx,zC,H4.load (k:=3) (i:=0+1) rfl rfl,zC,sFx,zC,zL,zC,H4.load (k:=2) (i:=0+0) rfl rfl,zC,sFx,zC,zgj rfl rfl];refine H4.alloc fun s h5 nx5 H5 => ?_;rw [zgj rfl rfl,zC,zj3,zC,H5.load (k:=3) (i:=0+1) rfl rfl,zC,sFx,zC,H5.load (k:=4) (i:=0+1) rfl rfl,zC,sFx,zC,zL,zC,H5.load (k:=3) (i:=0+0) rfl rfl,zC,sFx,zC];refine H5.qo (k:=0) (n:=2) rfl rfl rfl fun h6 H6 => ?_;rw [sFx,H6.load (k:=3) (i:=0+0) rfl rfl,zL];have e0:List.replicate b.1.length (I 0)=(vS a.1 b.1 0).map I:=by simp [vS,vT]
 refine uj.L1 (fun m x10 h' nx'=>∃ i:Nat,x10=I i/\b.1.length-i=m/\i<=b.1.length/\Hp h h' nx' [.arr s [.sl tb 0 b.1.length (some b.1.length) 1,.bool (a.2 != b.2)],.arr tb ((vS a.1 b.1 i).map I),.arr r [.zh,.bool false],.arr bb [encI b.1,.bool b.2],.arr ba [encI a.1,.bool a.2]]) (m:=b.1.length) (by omega) ⟨0,rfl,rfl,by omega,H6.cast (by rw [e0];rfl)⟩ ?_;rintro m z6 z7 z10 z11 h7 nx7 R ⟨i,rfl,rfl,hi,H7⟩ hR;simp only [jk];by_cases hlt:i<b.1.length
 ·simp only [show (i:Int)<(b.1.length:Int) by omega,decide_true,zD];have hx:b.1[i]? = some b.1[i]:=List.getElem?_eq_getElem hlt;obtain ⟨q1,q2⟩:=hq _ (Zal hlt);have hy:a.1[b.1[i].toNat]? = some (a.1.getD b.1[i].toNat 0):=by rw [Zab,List.getElem?_eq_getElem (by omega)];rfl
  rw [cZ rfl hlt,ldL (rJ hx),sFx,H7.load (k:=0) (i:=0+0) rfl rfl,sFx,H7.load (k:=4) (i:=0+0) rfl rfl,cZ (i:=b.1[i].toNat) (by omega) (by omega),ldL (rJ hy),sIx (i:=i) rfl hlt];refine H7.store (k:=1) rfl (by rw [Zas,zdd hi];exact hlt) rfl fun h8 H8 => ?_;rw [jf (by omega)];refine hR _ _ _ _ _ _ _ (by omega) ⟨i+1,rfl,rfl,by omega,H8.cast ?_⟩;rw [<- zl4 hx,List.map_set];rfl
 ·simp only [show ¬ (i:Int)<(b.1.length:Int) by omega,decide_false,zE];obtain rfl:i=b.1.length:=by omega
  rw [uj.k8,H7.zk (k:=0) (n:=2) rfl rfl];refine H7.qo (k:=2) (n:=2) rfl rfl rfl fun h8 H8 => ?_;rw [H8.zk (k:=2) (n:=2) rfl rfl];have e1:vS a.1 b.1 b.1.length=(jJ a b).1:=by simp [vS,jJ]
  have e2:(jJ a b).1.length=b.1.length:=kB _ _;refine hK _ _ _ _ (encS (jJ a b)) H8 ?_ rfl;refine mC ?_ (zK rfl) rfl;have:=H8.og (k:=1) (cap:=some b.1.length) (e:=1) (n:=b.1.length) rfl (Zai _) (by rw [Zas,zdd (Zai _)];omega) (fun v hv=>by obtain ⟨x,_,rfl⟩:=List.mem_map.1 hv;rfl);rw [e1] at this;have e3:encI (jJ a b).1=.lst 1 b.1.length ((jJ a b).1.map I):=by rw [encI,e2]
  rw [e3];exact this
def keyN (a:Sym):List Nat:=a.1.map Int.toNat++(if a.2 then [1] else [])
def ku (a:Sym):List UInt8:=(keyN a).map UInt8.ofNat
def DS (n:Nat) (a:Sym):Prop:=a.1.length=n/\∀ x∈a.1,0<=x/\x<(n:Int)
theorem zgl {n:Nat} (hn:n<=256) {a b:Sym} (ha:DS n a) (hb:DS n b) (h:ku a=ku b):a=b:=by
 have hlt:∀ {c:Sym},DS n c->∀ x∈keyN c,x<256:=fun {c} hc x hx=>by
  rcases List.mem_append.1 hx with q | q
  ·obtain ⟨y,hy,rfl⟩:=List.mem_map.1 q;have:=hc.2 y hy;omega
  ·by_cases c2:c.2=true
   ·rw [if_pos c2] at q;simp at q;omega
   ·rw [if_neg c2] at q;cases q
 have hid:∀ {c:Sym},DS n c->(ku c).map UInt8.toNat=keyN c:=fun {c} hc=>by
  rw [ku,List.map_map]
  conv=>rhs;rw [<- List.map_id (keyN c)]
  exact Zci fun x hx=>by
   show (UInt8.ofNat x).toNat=x;rw [UInt8.toNat_ofNat'];exact Zbi (hlt hc x hx)
 have e:keyN a=keyN b:=by rw [<- hid ha,<- hid hb,h]
 have hl:(a.1.map Int.toNat).length=(b.1.map Int.toNat).length:=by simp [ha.1,hb.1]
 obtain ⟨e1,e2⟩:=List.append_inj e hl;have back:∀ {c:Sym},DS n c->(c.1.map Int.toNat).map Int.ofNat=c.1:=fun {c} hc=>by
  rw [List.map_map]
  conv=>rhs;rw [<- List.map_id c.1]
  exact Zci fun x hx=>by
   have:=hc.2 x hx;show ((x.toNat:Nat):Int)=x;omega
 have e3:a.1=b.1:=by rw [<- back ha,<- back hb,e1]
 refine Prod.ext e3 ?_;cases h1:a.2 <;> cases h2:b.2 <;> rw [h1,h2] at e2 <;> first | rfl | simp at e2
theorem Hp.zj7 {K:AV->T Blk->Pa->OP} {h0 h:T Blk} {nx:Pa} {L:List Ob} {k n c bytes:Nat} {id:Pa} {l:List AV} {v x:AV} (H:Hp h0 h nx L) (hk:L[k]? = some (.arr id l)) (hl:l.length=c) (hn:n<c) (hx:∀ (no:OP) (K':List AV->Nat->OP),uG x h no K'=K' [v] 1) (hs:Go.Ev.jc v=true) (hb:bytes*1000000<=70368744177664) (hc:c<=1000000)
  (hK:∀ h',Hp h0 h' nx (L.set k (.arr id (l.set n v)))->K (.sl id 0 (n+1) (some c) 1) h' nx=.ok True):tC 1 bytes (.sl id 0 n (some c) 1) x h nx K=.ok True:=by
 have hcc:(Nat.ble (bytes*1000000) 70368744177664&&Nat.beq [v].length (1*1)&&Nat.ble 1 1&&[v].all Go.Ev.jc)=true:=by
  rw [Zac hb];simp [hs]
 unfold tC oM;rw [hx,hcc,cond_true];obtain ⟨op,t,h1,h2⟩:yw h id l:=H.own _ (Zaa hk);show (bif Nat.beq 1 1&&Nat.ble (n+1) 1000000 then jh (T.get .no id h) _ (.no 35) else .no 36)=_;rw [h1,Zac (by omega)];show (bif Nat.ble (0+n*1) l.length then (bif Nat.ble (n+1) c then (bif Nat.ble (0+(n+1)*1) l.length then kN id 0 n (some c) 1 op l.length t [v] 1 h nx K else .no 32) else uA 0 n 1 t [v] 1 h nx K) else .no 34)=_;rw [Zac (by omega),Zac (show n+1<=c by omega),Zac (by omega),cond_true,cond_true,cond_true];unfold kN;rw [yV,T.yj,yF];refine hK _ (H.upd hk (by simp [Ob.names]) rfl ?_);have:=yw.set (v:=v) h1 h2 (show n<l.length by omega);rw [Zbw,Zav];exact this
theorem zpk:∀ l:List Nat,b2sA (l.map u8)=some (l.map UInt8.ofNat)
 | []=>rfl
 | x::l=>by
  show (match b2sA (l.map u8) with
   | some s=>some (UInt8.ofNat ((x:Int)).toNat::s)
   | none=>none)=_
  rw [zpk l];rfl
theorem Hp.b2s {h0 h:T Blk} {nx:Pa} {L:List Ob} {k n:Nat} {id:Pa} {cap:Option Nat} {l:List AV} {y:List Nat} {op:AV->OP} (H:Hp h0 h nx L) (hk:L[k]? = some (.arr id l)) (hn:n<=l.length) (hy:l.take n=y.map u8):sB2s (.sl id 0 n cap 1) h op=op (.str (y.map UInt8.ofNat)):=by
  obtain ⟨o,t,h1,h2⟩:yw h id l:=H.own _ (Zaa hk);show jh (T.get .no id h) _ _=_;rw [h1]
  show (bif Nat.ble (0+n) l.length then (match b2sA (zY t 0 n) with
          | some s=>op (.str s)
          | none=>.no 21) else .no 21)=_
  have e:zY t 0 n=l.take n:=by
    refine Zax fun i => ?_;by_cases hi:i<n
    · rw [zW _ _ _ _ hi,List.getElem?_take_of_lt hi]
      conv=>rhs;rw [<- h2]
      rw [zW _ _ _ _ (by omega)]
    · rw [List.getElem?_eq_none (by simp;omega),List.getElem?_eq_none (by simp;omega)]
  rw [Zac (by omega),cond_true,e,hy,zpk]
def padN (y:List Nat) (c:Nat):List AV:=y.map u8++List.replicate (c-y.length) (.int .u8 0)
theorem p5 {y:List Nat} {c:Nat} (h:y.length<=c):(padN y c).length=c:=by simp [padN];omega
theorem zgm {y:List Nat} {c x:Nat} (h:y.length<c):(padN y c).set y.length (u8 x)=padN (y++[x]) c:=by
 rw [padN,padN,List.set_append_right _ _ (by simp),Zas,Nat.sub_self,show c-y.length=(c-(y++[x]).length)+1 by simp;omega,List.replicate_succ,List.set_cons_zero];simp
theorem pC {a:Sym} (ha:∀ x∈a.1,0<=x/\x<256) (hl:a.1.length<=1000):Pure Tryz.prog B 112 [encS a] (· = .str (ku a)):=by
 refine yC fun h nx K H0 hK=>zM zP yh 1000000 fun hf => ?_;rw [jv.go];refine H0.box (l:=[encI a.1,.bool a.2]) rfl fun ba h1 nx1 H1 => ?_;rw [sFx,H1.load (k:=0) (i:=0+0) rfl rfl,zL,jf (by omega)];refine H1.mkN (n:=0) (c:=a.1.length+1) rfl (by omega) (by omega) (by omega) (by omega) fun tb h2 nx2 H2 => ?_;rw [sFx,H2.load (k:=1) (i:=0+0) rfl rfl,zL];have e0:rG (a.1.length+1) [AV.int .u8 0]=padN [] (a.1.length+1):=by rw [zfp];rfl
 refine jv.L1 (fun m x3 x7 h' nx'=>∃ i:Nat,x7=I i/\x3=.sl tb 0 i (some (a.1.length+1)) 1/\a.1.length-i=m/\i<=a.1.length/\Hp h h' nx' [.arr tb (padN ((a.1.take i).map Int.toNat) (a.1.length+1)),.arr ba [encI a.1,.bool a.2]]) (m:=a.1.length) (by omega) ⟨0,rfl,rfl,rfl,by omega,H2.cast (by rw [e0];rfl)⟩ ?_;rintro m z3 z4 z7 z8 h3 nx3 R ⟨i,rfl,rfl,rfl,hi,H3⟩ hR;simp only [jk];have hlen:((a.1.take i).map Int.toNat).length=i:=by simp;omega
 by_cases hlt:i<a.1.length
 ·simp only [show (i:Int)<(a.1.length:Int) by omega,decide_true,zD];have hx:a.1[i]? = some a.1[i]:=List.getElem?_eq_getElem hlt;obtain ⟨q1,q2⟩:=ha _ (Zal hlt);obtain ⟨c,hc⟩:∃ c:Nat,a.1[i]=(c:Int):=⟨a.1[i].toNat,by omega⟩;rw [cZ rfl hlt,ldL (rJ hx),hc,zpg,Zbi (by omega)];refine H3.yc (l:=[u8 c]) rfl fun t1 h4 nx4 H4 => ?_;refine H4.zj7 (k:=1) (n:=i) (v:=u8 c) rfl (p5 (by omega)) (by omega) (yw.rd (l:=[u8 c]) (n:=1) (H4.own _ (Zaj ..)) rfl) rfl (by decide) (by omega) fun h5 H5 => ?_;rw [jf (by omega)];refine hR _ _ _ _ _ _ _ (by omega) ⟨i+1,rfl,rfl,rfl,by omega,H5.drop.cast ?_⟩;have e1:(a.1.take (i+1)).map Int.toNat=(a.1.take i).map Int.toNat++[c]:=by
   rw [Zaq,hx,Zbk,hc];rfl
  have:=zgm (y:=(a.1.take i).map Int.toNat) (c:=a.1.length+1) (x:=c) (by omega);rw [hlen] at this;rw [e1,<- this];rfl
 ·simp only [show ¬ (i:Int)<(a.1.length:Int) by omega,decide_false,zE];obtain rfl:i=a.1.length:=by omega
  rw [List.take_length] at H3 hlen;rw [jv.k8,sFx,H3.load (k:=1) (i:=0+1) rfl rfl];cases h2:a.2 with
  | false =>
   simp only [zE];rw [H3.b2s (k:=0) (y:=a.1.map Int.toNat) rfl (by rw [p5 (by omega)];omega) (by rw [padN,List.take_left' (by simp)])];exact hK _ _ _ _ _ H3 (zK rfl) (by rw [ku,keyN,h2];simp)
  | true =>
   simp only [zD];refine H3.yc (l:=[u8 1]) rfl fun t1 h4 nx4 H4 => ?_;refine H4.zj7 (k:=1) (n:=a.1.length) (v:=u8 1) rfl (p5 (by omega)) (by omega) (yw.rd (l:=[u8 1]) (n:=1) (H4.own _ (Zaj ..)) rfl) rfl (by decide) (by omega) fun h5 H5 => ?_;have:=zgm (y:=a.1.map Int.toNat) (c:=a.1.length+1) (x:=1) (by omega);rw [hlen] at this;have H6:=H5.drop;rw [this] at H6;rw [H6.b2s (k:=0) (y:=a.1.map Int.toNat++[1]) rfl (by rw [p5 (by simp)];exact Zai _) (by rw [padN,List.take_left' (by simp)])];exact hK _ _ _ _ _ H6 (zK rfl) (by rw [ku,keyN,h2];simp)
def fD (ks:List Sym):List (AV×AV):=ks.map fun b=>(.str (ku b),encS b)
theorem zpl {n:Nat} (hn:n<=256) {a:Sym} (ha:DS n a):∀ (ks:List Sym) (i:Nat),(∀ b∈ks,DS n b)->(a∈ks->∃ j,uC .str (.str (ku a)) (fD ks) i=some (some (j,encS a)))/\(a∉ks->uC .str (.str (ku a)) (fD ks) i=some none)
 | [],i,_=>⟨fun h=>absurd h (by simp),fun _=>rfl⟩
 | b::ks,i,h=>by
  obtain ⟨r1,r2⟩:=zpl hn ha ks (i+1) fun c hc=>h c (by simp [hc])
  have e:uC .str (.str (ku a)) (fD (b::ks)) i=(match some (jD (ku a) (ku b)) with
   | some true=>some (some (i,encS b))
   | some false=>uC .str (.str (ku a)) (fD ks) (i+1)
   | none=>none):=rfl
  rw [e];by_cases c:a=b
  ·subst c;rw [qp.2 rfl];exact ⟨fun _=>⟨i,rfl⟩,fun q=>absurd (by simp) q⟩
  ·have hb:jD (ku a) (ku b)=false:=by
    cases q:jD (ku a) (ku b) with
    | false=>rfl
    | true=>exact absurd (zgl hn ha (h b (by simp)) (qp.1 q)) c
   rw [hb]
   exact ⟨fun q=>r1 (by
    rcases List.mem_cons.1 q with q | q
    ·exact absurd q c
    ·exact q),fun q=>r2 fun q2=>q (by simp [q2])⟩
theorem zzo {n:Nat} (hn:n<=256) {a:Sym} (ha:DS n a) {ks:List Sym} (hks:∀ b∈ks,DS n b) {h:T Blk} {id:Pa} {z:AV} {op:AV->OP} (own:T.get .no id h=.map (fD ks).length (fD ks)):zex .str z true (.map id) (.str (ku a)) h op=op (.tup [if a∈ks then encS a else z,.bool (decide (a∈ks))]):=by
 obtain ⟨r1,r2⟩:=zpl hn ha ks 0 hks;show bZ (T.get .no id h) _ _=_;rw [own]
 show (match gF .str (.str (ku a)) (fD ks) with
    | some (some (_,v))=>op (bif true then .tup [v,.bool true] else v)
    | some none=>op (bif true then .tup [z,.bool false] else z)
    | none=>.no 20)=_
 rw [show gF .str (.str (ku a)) (fD ks)=uC .str (.str (ku a)) (fD ks) 0 from rfl];by_cases c:a∈ks
 ·obtain ⟨j,hj⟩:=r1 c;rw [hj,if_pos c,decide_eq_true c];rfl
 ·rw [r2 c,if_neg c,decide_eq_false c];rfl
theorem zpm {n:Nat} (hn:n<=256) {a:Sym} (ha:DS n a) {ks:List Sym} (hks:∀ b∈ks,DS n b) {h0 h:T Blk} {nx p id:Pa} {L:List Ob} {k:Nat} {K:Kw Prop} (H:Hp h0 h nx L) (hk:L[k]? = some (.map id (fD ks)))
  (hK:K (.bool (decide (a∈ks))) h nx=.ok True):(CS Tryz.prog B).fn 249 p [.map id,encS a] h nx K=.ok True:=by
 refine zn5 (Q:=(· = .bool (decide (a∈ks)))) (fun hfr K hK=>zM zP yh 100 fun _ => ?_) (fun v hv _=>by rw [hv];exact hK);rw [o8.go];have own:T.get .no id h=.map (fD ks).length (fD ks):=H.own _ (Zaa hk);have Hb:=Hp.init hfr;refine Hb.box (l:=[encI a.1,.bool a.2]) rfl fun bx h1 nx1 H1 => ?_;rw [H1.zk (k:=0) (n:=2) rfl rfl];refine pC (fun x hx=>by have:=ha.2 x hx;omega) (by have:=ha.1;omega) _ _ _ _ ?_;rintro _ rfl _;have own1:T.get .no id h1=.map (fD ks).length (fD ks):=by rw [<- own];exact H1.keep id (by rw [own];intro q;cases q)
 rw [zzo hn ha hks own1,jA,jB];refine H1.alloc fun r h2 nx2 H2 => ?_;have hst:∃ l2:List AV,(if a∈ks then encS a else .agg [.zh,.bool false])=.agg l2/\l2.length=2:=by
  by_cases c:a∈ks
  ·exact ⟨_,if_pos c,rfl⟩
  ·exact ⟨_,if_neg c,rfl⟩
 obtain ⟨l2,e2,hl2⟩:=hst;rw [e2];refine H2.qo (k:=0) (n:=2) rfl rfl hl2 fun h3 H3 => ?_;exact hK _ _ _ H3.fr H3.keep ⟨_,zK rfl,rfl⟩
theorem Hp.putS {n:Nat} (hn:n<=256) {a:Sym} (ha:DS n a) {ks:List Sym} (hks:∀ b∈ks,DS n b) (hna:a∉ks) {K:AV->T Blk->Pa->OP} {h0 h:T Blk} {nx:Pa} {L:List Ob} {k:Nat} {id:Pa} (H:Hp h0 h nx L) (hk:L[k]? = some (.map id (fD ks)))
  (hK:∀ h',Hp h0 h' nx (L.set k (.map id (fD (ks++[a]))))->K .undef h' nx=.ok True):xP .str (.map id) (.str (ku a)) (encS a) h nx K=.ok True:=by
 have own:T.get .no id h=.map _ _:=H.own _ (Zaa hk);obtain ⟨_,r2⟩:=zpl hn ha ks 0 hks;show bZ (T.get .no id h) _ _=_;rw [own]
 show (match gF .str (.str (ku a)) (fD ks) with
    | some (some (i,_))=>T.xq (β:=OP) Blk.no (Blk.map (fD ks).length ((fD ks).modify i fun e=>(e.1,encS a))) id h fun h'=>K .undef h' nx
    | some none=>qy ((fD ks).length+1) fun n=>T.xq (β:=OP) Blk.no (Blk.map n (fD ks++[(AV.str (ku a),encS a)])) id h fun h'=>K .undef h' nx
    | none=>Out.no 45)=_
 rw [show gF .str (.str (ku a)) (fD ks)=uC .str (.str (ku a)) (fD ks) 0 from rfl,r2 hna];simp only [yF,T.yj];refine hK _ (H.upd hk (by simp [Ob.names]) rfl ?_);show T.get Blk.no id _=Blk.map _ _;rw [T.get_set_same];simp [fD]
theorem Hp.zup {h0 h:T Blk} {nx:Pa} {L:List Ob} {k:Nat} {id:Pa} {ks:List Sym} {op:AV->OP} (H:Hp h0 h nx L) (hk:L[k]? = some (.map id (fD ks))):zjc (.map id) h op=op (I ks.length):=by
 have own:T.get .no id h=.map _ _:=H.own _ (Zaa hk);show bZ (T.get .no id h) _ _=_;rw [own];show qy (fD ks).length (fun n=>op (.int .i64 (.ofNat n)))=_;rw [yF,fD,Zas];rfl
inductive QV:AV->Ob->List Sym->Prop
 | cap (id:Pa) (off:Nat) (l:List AV) (q:List Sym):off+q.length*2<=l.length->(l.drop off).take (q.length*2)=yY q->QV (.sl id off q.length (some q.length) 2) (.arr id l) q
 | opn (id:Pa) (off m:Nat) (l:List AV) (q:List Sym):off+q.length*2=m*2->l.length=m*2->l.drop off=yY q->QV (.sl id off q.length none 2) (.gro (some id) 2 m l) q
 | esl (id:Pa) (m:Nat) (l:List AV):QV .esl (.gro (some id) 2 m l) []
theorem gO (q:List Sym):(yY q).length=q.length*2:=by
 induction q with
 | nil=>rfl
 | cons a q ih=>rw [yY,Zbh,Zau,<- yY,ih];simp;omega
theorem QV.len {v:AV} {o:Ob} {q:List Sym} (h:QV v o q) {op:AV->OP}:sLen v op=op (I q.length):=by
 cases h <;> exact nr rfl
theorem QV.names {v:AV} {o:Ob} {q:List Sym} (h:QV v o q):∃ id,o.names=[id]:=by
 cases h <;> exact ⟨_,rfl⟩
theorem QV.cells {v:AV} {o:Ob} {a:Sym} {q:List Sym} (h:QV v o (a::q)):∃ id off cap l,v=.sl id off (a::q).length cap 2/\off+(a::q).length*2<=l.length/\(l.drop off).take ((a::q).length*2)=yY (a::q)/\∀ hh,o.holds hh->∃ op t,T.get .no id hh=.cells op l.length t/\zY t 0 l.length=l:=by
 cases h with
 | cap id off l _ h1 h2=>exact ⟨id,off,_,l,rfl,h1,h2,fun hh ho=>ho⟩
 | opn id off m l _ h1 h2 h3 =>
  refine ⟨id,off,_,l,rfl,by omega,by rw [h3,Zap (by rw [gO];exact Zai _)],fun hh ho => ?_⟩;obtain ⟨t,g1,g2,g3⟩:=ho;exact ⟨true,t,by rw [g1,h2],by rw [h2];exact g3⟩
theorem QV.first {v:AV} {o:Ob} {a:Sym} {q:List Sym} (h:QV v o (a::q)):∃ id off,(∀ op:AV->OP,zS 2 v (I 0) op=op (.ptr id off))/\∀ {h0 hh:T Blk} {nx:Pa} {L:List Ob} {k:Nat},Hp h0 hh nx L->L[k]? = some o->∀ op:AV->OP,zN 2 (.ptr id off) hh op=op (encS a):=by
 obtain ⟨id,off,cap,l,rfl,g3,g4,g⟩:=h.cells;refine ⟨id,off,fun op => ?_,fun {h0 hh nx L k} H hk op => ?_⟩
 ·have:=qQ (id:=id) (off:=off) (n:=(a::q).length) (cap:=cap) (e:=2) (e':=2) (i:=0) (k:=.i64) (K:=op) (by simp);simpa using this
 ·obtain ⟨op',t,g1,g2⟩:=g hh (H.own _ (Zaa hk));show jh (T.get .no id hh) _ _=_;rw [g1];show (bif Nat.ble (off+2) l.length then op (.agg (zY t off 2)) else .no 8)=_;have hl:(a::q).length=q.length+1:=rfl;rw [hl] at g3 g4;rw [Zac (by omega),cond_true];have e:∀ i,i<l.length->T.get .undef (.of i) t=l.getD i .undef:=fun i hi=>by
   have:=zW t 0 l.length i hi;rw [g2,Zav] at this;rw [Zab,this];rfl
  have d:∀ i,i<2->l.getD (off+i) .undef=(yY (a::q)).getD i .undef:=fun i hi=>by
   rw [<- g4,Zab,Zab,List.getElem?_take_of_lt (by omega),List.getElem?_drop]
  have e2:zY t off 2=[T.get .undef (.of off) t,T.get .undef (.of (off+1)) t]:=rfl;rw [e2,e off (by omega),e (off+1) (by omega),d 1 (by omega)];have:=d 0 (by omega);rw [Nat.add_zero] at this;rw [this];rfl
theorem QV.rest {v:AV} {o:Ob} {a:Sym} {q:List Sym} (h:QV v o (a::q)):∃ v',(∀ op:AV->OP,vF 2 v (some (I 1)) none none op=op v')/\QV v' o q:=by
 have hl:(a::q).length=q.length+1:=rfl;cases h with
 | cap id off l _ h1 h2 =>
  rw [hl] at h1 h2 ⊢
  have e0:∀ op:AV->OP,vF 2 (.sl id off (q.length+1) (some (q.length+1)) 2) (some (I 1)) none none op =
    (bif Nat.beq (q.length+1) 1 then op (.sl id off (q.length+1-1) (some 0) 2) else qy (off+1*2) fun off=>qy (q.length+1-1) fun h=>qy (q.length+1-1) fun m=>op (.sl id off h (some m) 2)):=fun op=>by
   show (match (bif Nat.ble 1 (q.length+1) then some 1 else none:Option Nat) with
    | none=>Out.no 17
    | some l=>bif Nat.beq (q.length+1) l then op (.sl id off (q.length+1-l) (some 0) 2)
     else qy (off+l*2) fun off=>qy (q.length+1-l) fun h=>qy (q.length+1-l) fun m=>op (.sl id off h (some m) 2))=_
   rw [Zac (by omega)];rfl
  cases q with
  | nil=>exact ⟨.sl id off 0 (some 0) 2,fun op=>by rw [e0];rfl,.cap id off l [] (by simp at h1 ⊢;omega) (by simp [yY])⟩
  | cons b q =>
   refine ⟨.sl id (off+2) (b::q).length (some (b::q).length) 2,fun op => ?_,.cap id (off+2) l (b::q) (by simp only [Zbz] at h1 ⊢;omega) ?_⟩
   ·rw [e0,aA (by simp)];simp only [yF,cond_false,Zco,Nat.add_sub_cancel]
   ·have e1:yY (b::q)=(yY (a::b::q)).drop 2:=rfl;rw [e1,<- h2,List.drop_take,List.drop_drop]
    congr 1
    omega
 | opn id off m l _ h1 h2 h3 =>
  rw [hl] at h1 ⊢
  have e0:∀ op:AV->OP,vF 2 (.sl id off (q.length+1) none 2) (some (I 1)) none none op =
    (bif Nat.ble 2 (q.length+1) then qy (off+1*2) fun off=>qy (q.length+1-1) fun h=>op (.sl id off h none 2) else op .esl):=fun op=>by
   show (match (bif Nat.ble 1 (q.length+1) then some 1 else none:Option Nat) with
    | none=>Out.no 17
    | some l=>bif Nat.beq l 0 then op (.sl id off (q.length+1) none 2) else bif Nat.ble (l+1) (q.length+1) then qy (off+l*2) fun off=>qy (q.length+1-l) fun h=>op (.sl id off h none 2) else op .esl)=_
   rw [Zac (by omega)];rfl
  cases q with
  | nil=>exact ⟨.esl,fun op=>by rw [e0];rfl,.esl id m l⟩
  | cons b q =>
   refine ⟨.sl id (off+2) (b::q).length none 2,fun op => ?_,.opn id (off+2) m l (b::q) (by omega) h2 ?_⟩
   ·rw [e0,Zac (by simp)];simp only [yF,cond_true,Zco,Nat.add_sub_cancel]
   ·rw [<- List.drop_drop,h3];rfl
theorem QV.app {v:AV} {o:Ob} {c:Sym} {q:List Sym} (h:QV v o q) (hq:q≠[]) {h0 hh:T Blk} {nx:Pa} {L:List Ob} {k:Nat} {x:AV} {K:AV->T Blk->Pa->OP} (H:Hp h0 hh nx L) (hk:L[k]? = some o) (hx:∀ (no:OP) (K':List AV->Nat->OP),uG x hh no K'=K' [encI c.1,.bool c.2] 1) (hlim:q.length+1<=100000)
  (hK:∀ v' o' h' nx',QV v' o' (q++[c])->Hp h0 h' nx' (L.set k o')->K v' h' nx'=.ok True):pX (CS Tryz.prog B) 2 32 v x hh nx K=.ok True:=by
 have hfl:yY (q++[c])=yY q++[encI c.1,.bool c.2]:=by simp [yY]
 have hln:(q++[c]).length=q.length+1:=by simp
 have hcc:(Nat.ble (32*1000000) 70368744177664&&Nat.beq [encI c.1,AV.bool c.2].length (1*2)&&Nat.ble 1 2&&[encI c.1,AV.bool c.2].all Go.Ev.jc)=true:=rfl;have new:∀ (id:Pa) (off:Nat) (op:Bool) (l:List AV) (t:T AV),zY t 0 l.length=l->off+q.length*2<=l.length->(l.drop off).take (q.length*2)=yY q->uA off q.length 2 t [encI c.1,.bool c.2] 1 hh nx K=.ok True:=fun id off op l t g2 g3 g4=>by
  unfold uA;rw [yH,yF];have e:zY t off (q.length*2)=yY q:=by
   rw [<- g4];refine Zax fun i => ?_;by_cases hi:i<q.length*2
   ·rw [zW _ _ _ _ hi,List.getElem?_take_of_lt hi,List.getElem?_drop]
    conv=>rhs;rw [<- g2]
    rw [zW _ _ _ _ (by omega),Zav]
   ·rw [List.getElem?_eq_none (by simp;omega),List.getElem?_eq_none (by rw [Zaz];omega)]
  rw [e,<- hfl];have hlen:=gO (q++[c]);refine hK _ (.gro (some nx) 2 (q.length+1) (yY (q++[c]))) _ _ ?_ (Hp.back hk (Hp.new (x:=.gro (some nx) 2 (q.length+1) (yY (q++[c]))) (H.front hk).drop rfl fun h' e=>⟨_,by rw [e,hlen,hln],by rw [hlen,hln],?_⟩))
  ·have:=QV.opn nx 0 (q.length+1) (yY (q++[c])) (q++[c]) (by rw [hln];omega) (by rw [hlen,hln]) rfl;rw [hln] at this;exact this
  ·have:=uW (yY (q++[c]));rw [hlen,hln] at this;exact this
 cases h with
 | cap id off l _ h1 h2 =>
  obtain ⟨op,t,g1,g2⟩:=H.own _ (Zaa hk);show oM 2 32 (.sl id off q.length (some q.length) 2) x hh nx K=_;unfold oM;rw [hx,hcc,cond_true];show (bif Nat.beq 2 2&&Nat.ble (q.length+1) 1000000 then jh (T.get .no id hh) _ (.no 35) else .no 36)=_;rw [g1,Zac (by omega)];show (bif Nat.ble (off+q.length*2) l.length then (bif Nat.ble (q.length+1) q.length then _ else uA off q.length 2 t [encI c.1,.bool c.2] 1 hh nx K) else .no 34)=_;rw [Zac h1,bleF (by omega),cond_true,cond_false];exact new id off op l t g2 h1 h2
 | opn id off m l _ h1 h2 h3 =>
  obtain ⟨t,g1,g2,g3⟩:=H.own _ (Zaa hk);by_cases h0':off=0
  ·subst h0';obtain rfl:m=q.length:=by omega
   rw [List.drop_zero] at h3;subst h3;have e:(AV.sl id 0 q.length none 2)=xu (some id) 2 q.length:=rfl;show oM 2 32 (.sl id 0 q.length none 2) x hh nx K=_;refine H.appN (k:=k) (o:=some id) (c:=1) (esz:=2) (bytes:=32) (new:=[encI c.1,.bool c.2]) hk hx rfl rfl (by decide) (by decide) (by omega) fun o' h' nx' ho H' => ?_;cases o' with
   | none=>exact absurd rfl (ho (.inl (by simp)))
   | some id' =>
    rw [<- hfl] at H';have hlen:=gO (q++[c]);have:=QV.opn id' 0 (q.length+1) (yY (q++[c])) (q++[c]) (by rw [hln];omega) (by rw [hlen,hln]) rfl;rw [hln] at this;exact hK _ _ _ _ this H'
  ·have hb0:Nat.beq off 0=false:=aA h0';show (bif Nat.beq off 0 then _ else bW (CS Tryz.prog B) id off q.length 2 2 32 x hh nx K)=_;rw [hb0,cond_false];unfold bW;rw [hx,hcc,cond_true];show (bif Nat.beq 2 2&&Nat.ble (q.length+1) 1000000 then jh (T.get .no id hh) _ (.no 35) else .no 36)=_;rw [g1,Zac (by omega)];show (bif Nat.ble (off+q.length*2) (m*2) then (bif Nat.ble (off+(q.length+1)*2) (m*2) then _ else bif true&&Nat.beq (off+q.length*2) (m*2) then _ else _) else _)=_;rw [Zac (by omega),bleF (by omega),beqT (by omega),cond_true,cond_false];show (CS Tryz.prog B).pk [0,1] _=_;refine zn4.2 ⟨fun i hi => ?_,rfl⟩;simp only [Zag,List.not_mem_nil,or_false] at hi;rcases hi with rfl | rfl
   ·show zaz id off q.length 2 (m*2) t [encI c.1,.bool c.2] 1 hh nx K=_;unfold zaz;rw [yV,yF,T.yj,yF];have hwr:=u7 t l [encI c.1,.bool c.2] (m*2) (by rw [<- h2] at g3 ⊢;exact g3);have hq2:=QV.opn id off (m+1) (l++[encI c.1,.bool c.2]) (q++[c]) (by rw [hln];omega) (by rw [Zau,h2];simp;omega) (by rw [List.drop_append_of_le_length (by omega),h3,hfl]);rw [hln] at hq2;refine hK _ _ _ _ hq2 (H.upd hk (by simp [Ob.names]) rfl ⟨_,by rw [T.get_set_same,show (m+1)*2=m*2+1*2 by omega],by rw [Zau,h2];simp;omega,?_⟩);rw [show (m+1)*2=m*2+[encI c.1,AV.bool c.2].length by simp;omega];exact hwr
   ·show uA off q.length 2 t [encI c.1,.bool c.2] 1 hh nx K=_;exact new id off true l t (by rw [h2];exact g3) (by omega) (by rw [h3,Zap (by rw [gO];exact Zai _)])
 | esl id m l=>exact absurd rfl hq
theorem zpn {G:List Sym} {l:List (List Int)} (h:zpi G l=0):j5 G (vU G)=0/\l.length<=1024/\lsE (vU G) none l=0/\∀ g∈G,∀ f∈l,jH g.2 g.1 f∈l:=by
 rw [zpi] at h;by_cases c1:j5 G (vU G)=0
 case neg=>rw [if_pos c1] at h;exact absurd h c1
 rw [if_neg (fun q=>q c1),zj6] at h;by_cases c2:1024<l.length
 ·rw [if_pos c2] at h;cases h
 rw [if_neg c2] at h;by_cases c3:lsE (vU G) none l=0
 case neg=>rw [if_pos c3] at h;exact absurd h c3
 rw [if_neg (fun q=>q c3)] at h;refine ⟨c1,by omega,c3,fun g hg f hf => ?_⟩;cases q:imgB G l with
 | false=>rw [if_pos q] at h;cases h
 | true =>
  rw [imgB,Zae] at q;have q1:=q f hf;rw [Zae] at q1;exact of_decide_eq_true (q1 g hg)
theorem zan {C:Calls Prop} {esz bytes e n:Nat} {o:Option Pa} {x:AV} {h:T Blk} {nx:Pa} {K:KW3}:pX C esz bytes (xu o e n) x h nx K=tC esz bytes (xu o e n) x h nx K:=by cases o <;> exact nr rfl
end Go.Ev
set_option linter.unusedSectionVars false
namespace Go.Ev
section
variable {G:Type} [DecidableEq G] (mul:G->G->G) (e:G) (D:G->Prop)
structure zao:Prop where
 de:D e
 dm:∀ a b,D a->D b->D (mul a b)
 assoc:∀ a b c,D a->D b->D c->mul (mul a b) c=mul a (mul b c)
 el:∀ a,D a->mul e a=a
 er:∀ a,D a->mul a e=a
 cl:∀ a b c,D a->D b->D c->mul a b=mul a c->b=c
def vC (l:List G):Prop:=∀ a∈l,∀ b∈l,mul a b∈l
structure Clo (u g:List G):Prop where
 one:e∈g
 clo:∀ x∈g,∀ b∈u,mul b x∈g
 ind:∀ T:G->Prop,T e->(∀ x,T x->∀ b∈u,T (mul b x))->∀ x∈g,T x
variable {mul e D}
theorem subG:∀ (l r:List G),l.Nodup->(∀ x∈l,x∈r)->∃ s,r.Perm (l++s)
 | [],r,_,_=>⟨r,.refl _⟩
 | a::l,r,hn,hs=>by
  obtain ⟨h1,h2⟩:=List.nodup_cons.1 hn;have ha:=hs a (by simp);obtain ⟨s,hp⟩:=subG l (r.erase a) h2 fun x hx=>(List.mem_erase_of_ne (by rintro rfl;exact h1 hx)).2 (hs x (by simp [hx]));exact ⟨s,(List.perm_cons_erase ha).trans (.cons a hp)⟩
theorem lenG {l r:List G} (h1:l.Nodup) (h2:∀ x∈l,x∈r):l.length<=r.length:=by
 obtain ⟨s,hs⟩:=subG l r h1 h2;rw [hs.length_eq,Zau];omega
theorem allG {l r:List G} (h1:l.Nodup) (h2:∀ x∈l,x∈r) (h3:r.length<=l.length):∀ x∈r,x∈l:=by
 obtain ⟨s,hs⟩:=subG l r h1 h2;have hl:=hs.length_eq;obtain rfl:s=[]:=Zbc (by rw [Zau] at hl;omega);intro x hx;simpa using hs.mem_iff.1 hx
theorem Clo.dom {u g:List G} (L:zao mul e D) (C:Clo mul e u g) (hu:∀ b∈u,D b):∀ x∈g,D x :=
 C.ind D L.de fun x hx b hb=>L.dm b x (hu b hb) hx
theorem Clo.mono {u u' g g':List G} (C:Clo mul e u g) (C':Clo mul e u' g') (h:∀ b∈u,b∈u'):∀ x∈g,x∈g' :=
 C.ind (· ∈ g') C'.one fun x hx b hb=>C'.clo x hx b (h b hb)
theorem Clo.sub {u g l:List G} (C:Clo mul e u g) (h1:e∈l) (h2:vC mul l) (hu:∀ b∈u,b∈l):∀ x∈g,x∈l :=
 C.ind (· ∈ l) h1 fun x hx b hb=>h2 b (hu b hb) x hx
theorem Clo.prod {u g:List G} (L:zao mul e D) (C:Clo mul e u g) (hu:∀ b∈u,D b):vC mul g:=by
 intro a ha b hb;have hd:=C.dom L hu
 have key:∀ x∈g,D x/\mul x b∈g:=C.ind (fun x=>D x/\mul x b∈g) ⟨L.de,by rw [L.el b (hd b hb)];exact hb⟩ fun x hx c hc=>⟨L.dm c x (hu c hc) hx.1,by
  rw [L.assoc c x b (hu c hc) hx.1 (hd b hb)];exact C.clo _ hx.2 c hc⟩
 exact (key a ha).2
theorem pL {l:List G} (L:zao mul e D) (hd:∀ a∈l,D a) (hn:l.Nodup) (h0:l≠[]) (hc:vC mul l):e∈l:=by
 obtain ⟨a,ha⟩:=List.exists_mem_of_ne_nil l h0;have nd:(l.map (mul a)).Nodup:=by
  rw [List.Nodup,Zbl];refine (List.Pairwise.and_mem.1 hn).imp ?_;rintro x y ⟨hx,hy,hxy⟩ q;exact hxy (L.cl a x y (hd a ha) (hd x hx) (hd y hy) q)
 have:=allG nd (fun x hx=>by obtain ⟨y,hy,rfl⟩:=List.mem_map.1 hx;exact hc a ha y hy) (by simp) a ha;obtain ⟨x,hx,q⟩:=List.mem_map.1 this;have:x=e:=L.cl a x e (hd a ha) (hd x hx) L.de (by rw [q,L.er a (hd a ha)]);exact this ▸ hx
structure Bfs (u:List G) (q:List G) (i:Nat):Prop where
 nd:q.Nodup
 hd:q[0]? = some e
 clo:∀ j x,j<i->q[j]? = some x->∀ b∈u,mul b x∈q
 ind:∀ T:G->Prop,T e->(∀ x,T x->∀ b∈u,T (mul b x))->∀ x∈q,T x
theorem Bfs.start (u:List G):Bfs (mul:=mul) (e:=e) u [e] 0:=⟨by simp,rfl,fun j x h=>by omega,fun T h1 _ x hx=>by rw [List.mem_singleton.1 hx];exact h1⟩
theorem Bfs.done {u q:List G} (B:Bfs (mul:=mul) (e:=e) u q q.length):Clo mul e u q :=
 ⟨Zaa B.hd,fun x hx b hb=>by
  obtain ⟨j,hj⟩:=List.mem_iff_getElem?.1 hx;exact B.clo j x (List.getElem?_eq_some_iff.1 hj).1 hj b hb,B.ind⟩
structure aT (u:List G) (q:List G) (i:Nat) (x:G) (k:Nat):Prop where
 nd:q.Nodup
 hd:q[0]? = some e
 at':q[i]? = some x
 clo:∀ j y,j<i->q[j]? = some y->∀ b∈u,mul b y∈q
 clk:∀ b∈u.take k,mul b x∈q
 ind:∀ T:G->Prop,T e->(∀ x,T x->∀ b∈u,T (mul b x))->∀ x∈q,T x
theorem Bfs.at {u q:List G} {i:Nat} {x:G} (B:Bfs (mul:=mul) (e:=e) u q i) (h:q[i]? = some x):aT (mul:=mul) (e:=e) u q i x 0:=⟨B.nd,B.hd,h,B.clo,by simp,B.ind⟩
theorem aT.had {u q:List G} {i k:Nat} {x b:G} (B:aT (mul:=mul) (e:=e) u q i x k) (hb:u[k]? = some b) (h:mul b x∈q):aT (mul:=mul) (e:=e) u q i x (k+1) :=
 ⟨B.nd,B.hd,B.at',B.clo,fun c hc=>by
  rw [Zaq,hb] at hc;rcases List.mem_append.1 hc with q | q
  ·exact B.clk c q
  ·simp at q;rw [q];exact h,B.ind⟩
theorem aT.new {u q:List G} {i k:Nat} {x b:G} (B:aT (mul:=mul) (e:=e) u q i x k) (hb:u[k]? = some b) (h:mul b x∉q):aT (mul:=mul) (e:=e) u (q++[mul b x]) i x (k+1):=by
 have hget:∀ {j:Nat} {y:G},q[j]? = some y->(q++[mul b x])[j]? = some y:=fun {j y} hj=>by
  rw [List.getElem?_append_left (List.getElem?_eq_some_iff.1 hj).1];exact hj
 have hback:∀ {j:Nat} {y:G},j<i->(q++[mul b x])[j]? = some y->q[j]? = some y:=fun {j y} hj hy=>by
  have:=(List.getElem?_eq_some_iff.1 B.at').1;rw [List.getElem?_append_left (by omega)] at hy;exact hy
 refine ⟨?_,hget B.hd,hget B.at',fun j y hj hy c hc=>Zbt _ (B.clo j y hj (hback hj hy) c hc),fun c hc => ?_,fun T h1 h2 y hy => ?_⟩
 ·rw [Zbb];refine ⟨B.nd,by simp,?_⟩;rintro a ha c hc rfl;rw [List.mem_singleton.1 hc] at ha;exact h ha
 ·rw [Zaq,hb] at hc;rcases List.mem_append.1 hc with r | r
  ·exact Zbt _ (B.clk c r)
  ·simp at r;rw [r];simp
 ·rcases List.mem_append.1 hy with r | r
  ·exact B.ind T h1 h2 y r
  ·rw [List.mem_singleton.1 r];exact h2 x (B.ind T h1 h2 x (Zaa B.at')) b (Zaa hb)
theorem aT.next {u q:List G} {i:Nat} {x:G} (B:aT (mul:=mul) (e:=e) u q i x u.length):Bfs (mul:=mul) (e:=e) u q (i+1) :=
 ⟨B.nd,B.hd,fun j y hj hy b hb=>by
  by_cases c:j<i
  ·exact B.clo j y c hy b hb
  ·obtain rfl:j=i:=by omega
   rw [B.at'] at hy;rw [<- Option.some.inj hy];exact B.clk b (by rw [List.take_length];exact hb),B.ind⟩
theorem aT.many {u q l:List G} {i k:Nat} {x b:G} (L:zao mul e D) (B:aT (mul:=mul) (e:=e) u q i x k) (hb:u[k]? = some b) (h:mul b x∉q) (hq:q.length=l.length) (hd:∀ a∈l,D a) (hn:l.Nodup) (h0:l≠[]) (hu:∀ b∈u,b∈l):¬ vC mul l:=by
 intro hc;have h1:=pL L hd hn h0 hc;have B':=B.new hb h;have:=lenG B'.nd (B'.ind (· ∈ l) h1 fun y hy c hc'=>hc c (hu c hc') y hy);rw [Zau,List.length_singleton] at this;omega
theorem zl5 {u g l:List G} (L:zao mul e D) (C:Clo mul e u g) (hg:g.Nodup) (hd:∀ a∈l,D a) (hn:l.Nodup) (h0:l≠[]) (hu:∀ b∈u,b∈l) (hl:∀ a∈l,a∈g):g.length=l.length↔vC mul l:=by
 have hud:∀ b∈u,D b:=fun b hb=>hd b (hu b hb);constructor
 ·intro h a ha b hb;have hgl:=allG hn hl (by omega);exact hgl _ (C.prod L hud a (hl a ha) b (hl b hb))
 ·intro hc;have h1:=pL L hd hn h0 hc;have:=lenG hg (C.sub h1 hc hu);have:=lenG hn hl;omega
end
end Go.Ev
namespace Go.Ev
open Go Go.Proofs
variable {B:Nat}
theorem zde (l:List Sym):fH (fB l)=true:=mF fun v hv=>by
 obtain ⟨x,_,hx⟩:=List.mem_flatMap.1 hv;simp only [Zag,List.not_mem_nil,or_false] at hx;rcases hx with rfl | rfl
 ·exact uM _
 ·rfl
theorem zpo {l:List Sym}:Pure Tryz.prog B 86 [fB l] (· = .fn 144 (.of 144) [.fp [fB l]]):=by
 refine yC fun h nx K H0 hK=>zM zP yh 10000000 fun hf => ?_;rw [F86.go];refine H0.box (l:=[fB l]) rfl fun bx h1 nx1 H1 => ?_;obtain ⟨op,t,g1,g2⟩:yw h1 bx [fB l]:=H1.own _ (Zaj ..);have hfx:fH (fB l)=true:=zde l;refine hK _ _ _ _ (.fn 144 (.of 144) [.fp [fB l]]) H1 (.fn _ _ _ _ rfl fun i v v' h2 h3 => ?_) rfl
 match i with
 | 0 =>
  simp only [List.getElem?_cons_zero,Option.some.injEq] at h2 h3;subst h2 h3;refine .ptr _ _ op _ t _ (H1.off bx (by simp [Ob.names])) g1 (by simp) (by simp [jc]) fun i v hv => ?_
  match i with
  | 0 =>
   simp only [List.getElem?_cons_zero,Option.some.injEq] at hv;subst hv;have:=zW t 0 1 0 (by omega);have g2:zY t 0 1=[fB l]:=g2;rw [g2] at this;simp only [List.getElem?_cons_zero,Option.some.injEq] at this;rw [<- this];exact zK hfx
  | i+1=>simp at hv
 | i+1=>simp at h2
theorem zj8 {h0 h:T Blk} {nx p id:Pa} {l:List Sym} {L:List Ob} {K:Kw Prop} (J:Nat->List Ob->Prop) (X:List Ob->Prop) (hl:l.length<=1000000) (hJ:J 0 L) (H:Hp h0 h nx L)
  (step:∀ (i:Nat) (a:Sym) (h:T Blk) (nx:Pa) (L:List Ob) (K:Kw Prop),l[i]? = some a->J i L->Hp h0 h nx L->(∀ h' nx' L',J (i+1) L'->Hp h0 h' nx' L'->K (.bool true) h' nx'=.ok True)->(∀ h' nx' L',X L'->Hp h0 h' nx' L'->K (.bool false) h' nx'=.ok True)->(CS Tryz.prog B).yld id [I i,encS a] h nx K=.ok True)
  (hK:∀ h' nx' L',(J l.length L'\/X L')->Hp h0 h' nx' L'->K (.tup []) h' nx'=.ok True):(CS Tryz.prog B).fn 144 p [.yld id,.fp [fB l]] h nx K=.ok True:=by
 refine yE (p:=.of 144) (K:=K) (zM zP yh 10000000 fun hf => ?_) fun _ _ _ _ q=>q;rw [xg.go,zc8,zL];refine xg.L1 (fun m z6 h' nx'=>∃ (i:Nat) (L':List Ob),z6=I i/\l.length-i=m/\i<=l.length/\J i L'/\Hp h0 h' nx' L') (m:=l.length) (by omega) ⟨0,L,rfl,rfl,by omega,hJ,H⟩ ?_;rintro m z2 z3 z6 z7 z8 h1 nx1 R ⟨i,L1,rfl,rfl,hi,hJ1,H1⟩ hR;simp only [jk];by_cases hlt:i<l.length
 ·simp only [show (i:Int)<(l.length:Int) by omega,decide_true,zD];have hx:l[i]? = some l[i]:=List.getElem?_eq_getElem hlt;rw [cZ rfl hlt,uZ hlt,zej];refine H1.alloc fun ab h5 nx5 H5 => ?_;refine H5.qo (k:=0) (n:=2) rfl rfl rfl fun h6 H6 => ?_;rw [H6.zk (k:=0) (n:=2) rfl rfl,zc9];refine step i _ _ _ _ _ hx hJ1 H6.drop (fun h7 nx7 L7 hJ7 H7 => ?_) (fun h7 nx7 L7 hX H7 => ?_)
  ·simp only [yW,Zaf,zE];rw [jf (by omega)];exact hR _ _ _ _ _ _ _ _ (by omega) ⟨i+1,L7,rfl,rfl,by omega,hJ7,H7⟩
  ·simp only [yW,Zah,zD];exact hK _ _ _ (.inr hX) H7
 ·simp only [show ¬ (i:Int)<(l.length:Int) by omega,decide_false,zE];obtain rfl:i=l.length:=by omega
  exact hK _ _ _ (.inl hJ1) H1
theorem zwk {h0 h:T Blk} {nx:Pa} {L:List Ob} {k j n:Nat} {o:Option Pa} {u:List Sym} {c:Sym} (H:Hp h0 h nx L) (hk:L[k]? = some (.gro o 2 n (yY u))) (hj:u[j]? = some c):∃ id off,(∀ op:AV->OP,zS 2 (xu o 2 n) (I (j:Int)) op=op (.ptr id off))/\∀ op:AV->OP,zN 2 (.ptr id off) h op=op (encS c):=by
 have own:=H.own _ (Zaa hk);have hjl:=(List.getElem?_eq_some_iff.1 hj).1;have hlen:=gO u;cases o with
 | none =>
  obtain ⟨q,_⟩:=own;rw [q] at hlen;simp at hlen;omega
 | some id =>
  obtain ⟨t,h1,h2,h3⟩:=own;have hn:n=u.length:=by omega
  subst hn;refine ⟨id,j*2,fun op=>by rw [xu,qQ hjl,Zav],fun op => ?_⟩;show jh (T.get .no id h) _ _=_;rw [h1];show (bif Nat.ble (j*2+2) (u.length*2) then op (.agg (zY t (j*2) 2)) else .no 8)=_;rw [Zac (by omega),cond_true];have e:∀ i,i<u.length*2->T.get .undef (.of i) t=(yY u).getD i .undef:=fun i hi=>by
   have:=zW t 0 (u.length*2) i hi;rw [h3,Zav] at this;rw [Zab,this];rfl
  have d:∀ i,(yY u).getD (j*2+i) .undef=((yY u).drop (j*2)).getD i .undef:=fun i=>by
   rw [Zab,Zab,List.getElem?_drop]
  have e2:zY t (j*2) 2=[T.get .undef (.of (j*2)) t,T.get .undef (.of (j*2+1)) t]:=rfl;have d0:=d 0;rw [Nat.add_zero] at d0;obtain rfl:u[j]=c:=by rw [List.getElem?_eq_getElem hjl] at hj;exact Option.some.inj hj
  rw [e2,e _ (by omega),e _ (by omega),d 1,d0,uZ hjl]
  rfl
theorem DS.comp {n:Nat} {a b:Sym} (ha:DS n a) (hb:DS n b):DS n (jJ a b):=by
 refine ⟨by rw [jJ,kB];exact hb.1,fun x hx => ?_⟩;obtain ⟨c,hc,rfl⟩:=List.mem_map.1 hx;have h1:=hb.2 c hc;have h2:=ha.1;rw [Zab,List.getElem?_eq_getElem (by omega)];exact ha.2 _ (Zal _)
theorem DS.id (n:Nat):DS n (idS n):=by
 refine ⟨by simp [idS],fun x hx => ?_⟩;obtain ⟨j,hj,rfl⟩:=List.mem_map.1 hx;have:=List.mem_range.1 hj;omega
abbrev CloS (n:Nat) (u g:List Sym):Prop:=Clo jJ (idS n) u g
abbrev BfsS (n:Nat) (u q:List Sym) (i:Nat):Prop:=Bfs (mul:=jJ) (e:=idS n) u q i
abbrev bD (n:Nat) (u q:List Sym) (i:Nat) (x:Sym) (k:Nat):Prop:=aT (mul:=jJ) (e:=idS n) u q i x k
def zj9 (n limit:Nat) (l:List Sym):Prop:=∃ u q i x k b,(∀ c∈u,c∈l)/\bD n u q i x k/\u[k]? = some b/\jJ b x∉q/\q.length=limit
theorem BfsS.ds {n:Nat} {u q:List Sym} (hu:∀ b∈u,DS n b) (h:∀ T:Sym->Prop,T (idS n)->(∀ x,T x->∀ b∈u,T (jJ b x))->∀ x∈q,T x):∀ x∈q,DS n x :=
 h (DS n) (DS.id n) fun _ hx b hb=>DS.comp (hu b hb) hx
noncomputable abbrev zo.tm (n limit:Nat) (l:List Sym) (b3 b4 b5 b6 b7 b8 b9:Pa):T AV:=zo.fr (fB l) (I n) (I limit) (.ptr b3 0) (.ptr b4 0) (.ptr b5 0) (.ptr b6 0) (.ptr b7 0) (.ptr b8 0) (.ptr b9 0) .undef .undef .undef .undef (.fn 144 (.of 144) [.fp [fB l]]) .undef .undef .undef .undef .undef .undef .undef .undef .undef .undef
theorem zo.prods {N:Nat} {K0:Kw Prop} {E1 E2 E3 K:Ks Prop} {h0 h:T Blk} {nx id b3 b4 b5 b6 b8 g1:Pa} {x0 x1 x2 x7 x9 x10 x12 x13 x14 x15 x16 x17 x18 x22 x23 x24 v:AV} {o:Option Pa} {ob:Ob} {X:List Ob} {n limit i:Nat} {u q:List Sym} {x:Sym}
  (hN:100000<N) (hn:n<=256) (hlim:limit<=2000) (hu:∀ b∈u,DS n b) (hul:u.length<=2000)
  (k3:X[11]? = some (.arr b3 [I limit])) (k4:X[10]? = some (.arr b4 [.qj])) (k5:X[9]? = some (.arr b5 [.zh])) (k6:X[8]? = some (.arr b6 [.bool false])) (k8:X[4]? = some (.arr b8 [.map g1])) (kg:X[6]? = some (.gro o 2 u.length (yY u)))
  (hB:bD n u q i x 0) (hql:q.length<=limit) (hv:QV v ob (q.drop i)) (H:Hp h0 h nx (ob::.map g1 (fD q)::X))
  (hbad:∀ k b q' h' nx' O1 O2,bD n u q' i x k->u[k]? = some b->jJ b x∉q'->q'.length=limit->Hp h0 h' nx' (O1::O2::X)->yZ id K0 .ret false .e h' nx'=.ok True)
  (hK:∀ q' v' ob' w12 w13 w22 w23 w24 h' nx',bD n u q' i x u.length->q'.length<=limit->QV v' ob' (q'.drop i)->Hp h0 h' nx' (ob'::.map g1 (fD q')::X) ->
   K (zo.fr x0 x1 x2 (.ptr b3 0) (.ptr b4 0) (.ptr b5 0) (.ptr b6 0) x7 (.ptr b8 0) x9 x10 v' w12 w13 x14 x15 x16 x17 x18 (xu o 2 u.length) (I u.length) (I u.length) w22 w23 w24) h' nx'=.ok True) :
  IR.run zo.b13 (CS Tryz.prog B) N ((((rO id K0).blk 1 E1).blk 2 E2).blk 3 E3) K (zo.fr x0 x1 x2 (.ptr b3 0) (.ptr b4 0) (.ptr b5 0) (.ptr b6 0) x7 (.ptr b8 0) x9 x10 v x12 x13 x14 x15 x16 x17 x18 (xu o 2 u.length) (I u.length) (I 0) x22 x23 x24) h nx=.ok True:=by
 refine zo.L13 (fun m x11 x21 h' nx'=>∃ (k:Nat) (q:List Sym) (ob:Ob),x21=I k/\u.length-k=m/\k<=u.length/\bD n u q i x k/\q.length<=limit/\QV x11 ob (q.drop i)/\Hp h0 h' nx' (ob::.map g1 (fD q)::X)) (m:=u.length) (by omega) ⟨0,q,ob,rfl,rfl,by omega,hB,hql,hv,H⟩ ?_
 clear hB hql hv H v ob q
 rintro m v z12 z13 z21 z22 z23 z24 h1 nx1 R ⟨k,q,ob,rfl,rfl,hk,hB,hql,hv,H1⟩ hR;simp only [jk];by_cases hlt:k<u.length
 case neg =>
  simp only [show ¬ (k:Int)<(u.length:Int) by omega,decide_false,zE];obtain rfl:k=u.length:=by omega
  exact hK _ _ _ _ _ _ _ _ _ _ hB hql hv H1
 simp only [show (k:Int)<(u.length:Int) by omega,decide_true,zD];have hb:u[k]? = some u[k]:=List.getElem?_eq_getElem hlt;have hqd:∀ y∈q,DS n y:=BfsS.ds hu hB.ind;have hdb:=hu _ (Zal hlt);have hil:=(List.getElem?_eq_some_iff.1 hB.at').1;have hxq:q[i]=x:=by have:=hB.at';rw [List.getElem?_eq_getElem hil] at this;exact Option.some.inj this
 have hdx:DS n x:=hqd x (hxq ▸ Zal hil);have hdr:q.drop i=x::q.drop (i+1):=by rw [Zar hil,hxq]
 have hdc:=DS.comp hdb hdx;obtain ⟨iu,ou,e1,e2⟩:=zwk (k:=8) H1 kg hb;rw [e1,e2];refine H1.alloc fun c12 h2 nx2 H2 => ?_;refine H2.qo (k:=0) (n:=2) rfl rfl rfl fun h3 H3 => ?_;rw [show (true&&true)=true from rfl,jE,H3.zk (k:=0) (n:=2) rfl rfl];rw [hdr] at hv;obtain ⟨iq,oq,f1,f2⟩:=hv.first
 rw [f1,f2 H3 (k:=1) rfl];have hdb2:=hdb.1;have hdx2:=hdx.1;refine zpj (fun y hy=>by have:=hdx.2 y hy;omega) (by omega) _ _ _ _ ?_;rintro _ rfl _;rw [f2 H3 (k:=1) rfl,zC,f1,zC,zC,H3.zk (k:=0) (n:=2) rfl rfl,zC];refine H3.alloc fun c13 h4 nx4 H4 => ?_;rw [f2 H4 (k:=2) rfl,zC,f1,zC,zC,H4.zk (k:=1) (n:=2) rfl rfl,zC];refine H4.qo (k:=0) (n:=2) rfl rfl rfl fun h5 H5 => ?_;rw [H5.load (k:=8) (i:=0) k8 rfl,H5.zk (k:=0) (n:=2) rfl rfl];refine zpm hn hdc hqd H5 (k:=3) rfl ?_;by_cases c:jJ u[k] x∈q
 ·simp only [c,decide_true,zD];rw [jf (by omega)];exact hR _ _ _ _ _ _ _ _ _ _ (by omega) ⟨k+1,q,ob,rfl,rfl,by omega,hB.had hb c,hql,hdr ▸ hv,H5.drop.drop⟩
 simp only [c,decide_false,zE];rw [H5.load (k:=8) (i:=0) k8 rfl,H5.zup (k:=3) rfl,H5.load (k:=15) (i:=0) k3 rfl];simp only [fQ];by_cases c2:q.length=limit
 ·simp only [show (q.length:Int)=(limit:Int) by omega,decide_true,zD];refine H5.store (k:=14) k4 (by simp) rfl fun h6 H6 => ?_;refine H6.store (k:=13) (l:=[.zh]) (by rw [List.getElem?_set_ne (by decide)];exact k5) (by simp) rfl fun h7 H7 => ?_;refine H7.store (k:=12) (l:=[.bool false]) (by rw [List.getElem?_set_ne (by decide),List.getElem?_set_ne (by decide)];exact k6) (by simp) rfl fun h8 H8 => ?_;have ew:∀ {j:Nat} {y:Ob} (hj:X[j]? = some y),X.set j y=X:=fun {j y} hj=>by
   refine Zax fun p => ?_;rw [List.getElem?_set];by_cases e:j=p
   ·subst e;rw [if_pos rfl,if_pos (List.getElem?_eq_some_iff.1 hj).1,hj]
   ·rw [if_neg e]
  refine hbad k _ q _ _ ob (.map g1 (fD q)) hB hb c c2 (H8.drop.drop.cast ?_);show ob::.map g1 (fD q)::((X.set 10 (.arr b4 ([AV.qj].set 0 .qj))).set 9 (.arr b5 ([AV.zh].set 0 .zh))).set 8 (.arr b6 ([AV.bool false].set 0 (.bool false)))=_;rw [show [AV.qj].set 0 .qj=[.qj] from rfl,show [AV.zh].set 0 .zh=[.zh] from rfl,show [AV.bool false].set 0 (.bool false)=[.bool false] from rfl,ew k4,ew k5,ew k6]
 simp only [show ¬ (q.length:Int)=(limit:Int) by omega,decide_false,zE];rw [H5.load (k:=8) (i:=0) k8 rfl,H5.zk (k:=0) (n:=2) rfl rfl,H5.zk (k:=0) (n:=2) rfl rfl];have hdc2:=hdc.1;refine pC (fun y hy=>by have:=hdc.2 y hy;omega) (by omega) _ _ _ _ ?_;rintro _ rfl _;rw [H5.zk (k:=0) (n:=2) rfl rfl,zC,H5.load (k:=8) (i:=0) k8 rfl,zC];refine H5.putS hn hdc hqd c (k:=3) rfl fun h6 H6 => ?_;rw [H6.zk (k:=0) (n:=2) rfl rfl];refine H6.yc (l:=[encI (jJ u[k] x).1,.bool (jJ u[k] x).2]) rfl fun tb h7 nx7 H7 => ?_;refine hv.app (c:=jJ u[k] x) (by simp) H7 (k:=3) rfl (yw.rd (l:=[encI (jJ u[k] x).1,.bool (jJ u[k] x).2]) (n:=1) (e:=2) (H7.own _ (Zaj ..)) rfl) ?_ fun v' ob' h8 nx8 hv' H8 => ?_
 ·rw [<- hdr,Zcd];omega
 rw [jf (by omega)];refine hR _ _ _ _ _ _ _ _ _ _ (by omega) ⟨k+1,q++[jJ u[k] x],ob',rfl,rfl,by omega,hB.new hb c,by rw [Zau,List.length_singleton];omega,?_,H8.drop.drop.drop⟩;rw [List.drop_append_of_le_length (by omega),hdr];exact hv'
theorem comp_id {n:Nat} {b:Sym} (hb:DS n b):jJ b (idS n)=b:=by
 have h1:=hb.1;refine Prod.ext ?_ (by show (b.2 != false)=b.2;cases b.2 <;> rfl);show vT b.1 ((List.range n).map fun j:Nat=>(j:Int))=b.1;refine Zax fun i => ?_;rw [vT,List.map_map,List.getElem?_map];by_cases hi:i<n
 ·rw [List.getElem?_range hi,List.getElem?_eq_getElem (by omega)];show some (b.1.getD ((i:Nat):Int).toNat 0)=_;rw [Zab,Int.toNat_natCast,List.getElem?_eq_getElem (by omega)];rfl
 ·rw [List.getElem?_eq_none (by simp;omega),List.getElem?_eq_none (by omega)];rfl
theorem zo.bfs {N:Nat} {K0:Kw Prop} {E1 K:Ks Prop} {h0 h:T Blk} {nx id b3 b4 b5 b6 b8 b9 g1:Pa} {x0 x1 x2 x7 x10 x12 x13 x14 x15 x16 x17 x18 x19 x20 x21 x22 x23 x24 v:AV} {o:Option Pa} {ob:Ob} {X:List Ob} {n limit:Nat} {u q:List Sym}
  (hN:100000<N) (hn:n<=256) (hlim:limit<=2000) (hu:∀ b∈u,DS n b) (hul:u.length<=2000)
  (k3:X[11]? = some (.arr b3 [I limit])) (k4:X[10]? = some (.arr b4 [.qj])) (k5:X[9]? = some (.arr b5 [.zh])) (k6:X[8]? = some (.arr b6 [.bool false])) (k8:X[4]? = some (.arr b8 [.map g1])) (kg:X[6]? = some (.gro o 2 u.length (yY u))) (k9:X[3]? = some (.arr b9 [xu o 2 u.length]))
  (hB:BfsS n u q 0) (hql:q.length<=limit) (hv:QV v ob q) (H:Hp h0 h nx (ob::.map g1 (fD q)::X))
  (hbad:∀ i x k b q' h' nx' O1 O2,bD n u q' i x k->u[k]? = some b->jJ b x∉q'->q'.length=limit->Hp h0 h' nx' (O1::O2::X)->yZ id K0 .ret false .e h' nx'=.ok True)
  (hK:∀ q' ob' tm h' nx',CloS n u q'->q'.Nodup->q'.length<=limit->Hp h0 h' nx' (ob'::.map g1 (fD q')::X)->K tm h' nx'=.ok True) :
  IR.run zo.b7 (CS Tryz.prog B) N ((rO id K0).blk 1 E1) K (zo.fr x0 x1 x2 (.ptr b3 0) (.ptr b4 0) (.ptr b5 0) (.ptr b6 0) x7 (.ptr b8 0) (.ptr b9 0) x10 v x12 x13 x14 x15 x16 x17 x18 x19 x20 x21 x22 x23 x24) h nx=.ok True:=by
 refine zo.L7 (fun m x11 h' nx'=>∃ (i:Nat) (q:List Sym) (ob:Ob),limit-i=m/\i<=q.length/\BfsS n u q i/\q.length<=limit/\QV x11 ob (q.drop i)/\Hp h0 h' nx' (ob::.map g1 (fD q)::X)) (m:=limit) (by omega) ⟨0,q,ob,rfl,by omega,hB,hql,hv,H⟩ ?_
 clear hB hql hv H v ob q
 rintro m v z12 z13 z18 z19 z20 z21 z22 z23 z24 h1 nx1 R ⟨i,q,ob,rfl,hi,hB,hql,hv,H1⟩ hR;rw [hv.len];simp only [xk];by_cases hlt:i<q.length
 case neg =>
  rw [Zcd];simp only [show ¬ (0:Int)<((q.length-i:Nat):Int) by omega,decide_false,zE];obtain rfl:i=q.length:=by omega
  exact hK _ _ _ _ _ hB.done hB.nd hql H1
 rw [Zcd];simp only [show (0:Int)<((q.length-i:Nat):Int) by omega,decide_true,zD];rw [H1.load (k:=5) (i:=0) k9 rfl,H1.zh3 (k:=8) kg];refine zo.prods (x:=q[i]) hN hn hlim hu hul k3 k4 k5 k6 k8 kg (hB.at (List.getElem?_eq_getElem hlt)) hql hv H1 (fun k b q' h' nx' O1 O2 a1 a2 a3 a4 a5=>hbad i _ k b q' h' nx' O1 O2 a1 a2 a3 a4 a5) fun q' v' ob' w12 w13 w22 w23 w24 h2 nx2 hB2 hql2 hv2 H2 => ?_;have hil:=(List.getElem?_eq_some_iff.1 hB2.at').1;rw [Zar hil] at hv2;obtain ⟨v3,e3,hv3⟩:=hv2.rest;rw [zo.k22,e3];exact hR _ _ _ _ _ _ _ _ _ _ _ _ _ (by omega) ⟨i+1,q',ob',rfl,by omega,hB2.next,hql2,hv3,H2⟩
def zo.J (n limit:Nat) (l:List Sym) (id b3 b4 b5 b6 b7 b8 b9:Pa) (L:List Ob) (i:Nat) (L':List Ob):Prop :=
 ∃ (u q:List Sym) (o:Option Pa) (g:Pa),(∀ c∈u,c∈l)/\u.length<=i/\(∀ a∈l.take i,a∈q)/\q.Nodup/\CloS n u q/\q.length<=limit /\
  L'=.raw id (.loop .ready .none (zo.tm n limit l b3 b4 b5 b6 b7 b8 b9) [.of 15,.of 16] zo.b3 zo.b4)::.arr b9 [xu o 2 u.length]::.arr b8 [.map g]::.map g (fD q)::.gro o 2 u.length (yY u)::.arr b7 [encI (idS n).1,.bool (idS n).2]::.arr b6 [.bool false]::.arr b5 [.zh]::.arr b4 [.qj]::.arr b3 [I limit]::L
def zo.X (n limit:Nat) (l:List Sym) (id b3 b4 b5 b6 b7 b8 b9:Pa) (L:List Ob) (L':List Ob):Prop :=
 zj9 n limit l/\∃ O1 O2 O3 O4 O5 O6 O7 O8 O9,L'=O1::O2::O3::O4::.raw id (.loop .done .ret (zo.tm n limit l b3 b4 b5 b6 b7 b8 b9) [.of 15,.of 16] zo.b3 zo.b4)::O5::O6::O7::O8::O9::.arr b6 [.bool false]::.arr b5 [.zh]::.arr b4 [.qj]::.arr b3 [I limit]::L
theorem Hp.tidy {h0 h:T Blk} {nx:Pa} {A M T' B' R B9 B8 G:Ob} {L:List Ob} (H:Hp h0 h nx (A::M::T'::B'::R::B9::B8::G::L)):Hp h0 h nx (R::B9::B8::M::L):=by
 have e1:(M::T'::B'::R::B9::B8::G::L).Perm (T'::B'::R::B9::B8::M::G::L):=(Zbu (l₁:=[T',B',R,B9,B8]) (a:=M) (l₂:=G::L)).symm;have H1:=H.drop.perm e1;have e2:(R::B9::B8::M::G::L).Perm (G::R::B9::B8::M::L):=Zbu (l₁:=[R,B9,B8,M]) (a:=G) (l₂:=L);exact (H1.drop.drop.perm e2).drop
theorem Hp.zzp {h0 h:T Blk} {nx:Pa} {A1 A2 M G B1 B2 B3 B4 B5:Ob} {L:List Ob} (H:Hp h0 h nx (A1::A2::M::G::B1::B2::B3::B4::B5::L)):Hp h0 h nx (M::G::L):=by
 have e1:(M::G::B1::B2::B3::B4::B5::L).Perm (M::B1::B2::B3::B4::B5::G::L):=.cons _ (Zbu (l₁:=[B1,B2,B3,B4,B5]) (a:=G) (l₂:=L)).symm;have e2:(M::B1::B2::B3::B4::B5::G::L).Perm (B1::B2::B3::B4::B5::M::G::L):=(Zbu (l₁:=[B1,B2,B3,B4,B5]) (a:=M) (l₂:=G::L)).symm;exact (H.drop.drop.perm (e1.trans e2)).drop.drop.drop.drop.drop
theorem zo.round {h0 h:T Blk} {nx id b3 b4 b5 b6 b7 b8 b9:Pa} {K:Kw Prop} {L L':List Ob} {n limit i:Nat} {l:List Sym} {a:Sym} (hn:n<=256) (hl1:1<=limit) (hlim:limit<=2000) (hl:∀ a∈l,DS n a) (hll:l.length<=2000) (hx:l[i]? = some a)
  (hJ:zo.J n limit l id b3 b4 b5 b6 b7 b8 b9 L i L') (H:Hp h0 h nx L')
  (hj:∀ h' nx' L',zo.J n limit l id b3 b4 b5 b6 b7 b8 b9 L (i+1) L'->Hp h0 h' nx' L'->K (.bool true) h' nx'=.ok True)
  (hs:∀ h' nx' L',zo.X n limit l id b3 b4 b5 b6 b7 b8 b9 L L'->Hp h0 h' nx' L'->K (.bool false) h' nx'=.ok True):(CS Tryz.prog B).yld id [I i,encS a] h nx K=.ok True:=by
 obtain ⟨u,q,o,g,hu,hul,hin,hnd,hC,hql,rfl⟩:=hJ;have hi:=(List.getElem?_eq_some_iff.1 hx).1;have ham:=Zaa hx;have hda:=hl a ham;have hqd:∀ y∈q,DS n y:=BfsS.ds (fun b hb=>hl b (hu b hb)) hC.ind;have htk:∀ c∈l.take (i+1),c∈l.take i\/c=a:=fun c hc=>by
  rw [Zaq,hx] at hc;rcases List.mem_append.1 hc with r | r
  ·exact .inl r
  ·exact .inr (by simpa using r)
 refine zbp (fns:=tbl) yh 10000000 fun hf => ?_;rw [zo.p4 (mB H (k:=0) rfl)];refine H.alloc fun b10 h1 nx1 H1 => ?_;refine H1.qo (k:=0) (n:=2) rfl rfl rfl fun h2 H2 => ?_;rw [zjr (mB H2 (k:=1) rfl)];have H3:=H2.zih (k:=1) rfl (b':=.loop .busy .none (zo.tm n limit l b3 b4 b5 b6 b7 b8 b9) [.of 15,.of 16] zo.b3 zo.b4) (by intro e;cases e);rw [zo.y4,H3.load (k:=3) (i:=0) rfl rfl,H3.zk (k:=0) (n:=2) rfl rfl];refine zpm hn hda hqd H3 (k:=4) rfl ?_;by_cases c:a∈q
 ·simp only [c,decide_true,zD];refine H3.rend (k:=1) rfl fun h4 H4 => ?_;exact hj _ _ _ ⟨u,q,o,g,hu,by omega,fun d hd=>(htk d hd).elim (hin d) (fun e=>e ▸ c),hnd,hC,hql,rfl⟩ H4.drop
 simp only [c,decide_false,zE];rw [H3.load (k:=2) (i:=0) rfl rfl,H3.zk (k:=0) (n:=2) rfl rfl];refine H3.yc (l:=[encI a.1,.bool a.2]) rfl fun tb h4 nx4 H4 => ?_;rw [zan];refine H4.appN (k:=6) (o:=o) (c:=1) (esz:=2) (new:=[encI a.1,.bool a.2]) rfl (yw.rd (l:=[encI a.1,.bool a.2]) (n:=1) (e:=2) (H4.own _ (Zaj ..)) rfl) rfl rfl (by decide) (by decide) (by omega) fun o' h5 nx5 _ H5 => ?_;refine H5.store (k:=3) rfl (by simp) (kP _ _ _) fun h6 H6 => ?_;rw [show (true&&true)=true from rfl,jE,H6.zk (k:=7) (n:=2) rfl rfl,H6.zk (k:=7) (n:=2) rfl rfl];have hid:=DS.id n;have hid1:=hid.1;refine pC (a:=idS n) (fun y hy=>by have:=hid.2 y hy;omega) (by omega) _ _ _ _ ?_;rintro _ rfl _;rw [H6.zk (k:=7) (n:=2) rfl rfl,zC,H6.zk (k:=7) (n:=2) rfl rfl,zC];refine H6.rF fun g1 h7 nx7 H7 => ?_;rw [H7.zk (k:=8) (n:=2) rfl rfl,zC,H7.zk (k:=8) (n:=2) rfl rfl,zC];refine H7.putS hn hid (ks:=[]) (by simp) (by simp) (k:=0) rfl fun h8 H8 => ?_;refine H8.store (k:=5) rfl (by simp) rfl fun h9 H9 => ?_;rw [H9.zk (k:=8) (n:=2) rfl rfl];refine H9.yc (l:=[encI (idS n).1,.bool (idS n).2]) rfl fun qb h10 nx10 H10 => ?_;have eu:u.length+1=(u++[a]).length:=by simp
 have ef:yY u++[encI a.1,.bool a.2]=yY (u++[a]):=by simp [yY]
 have hu':∀ b∈u++[a],b∈l:=fun b hb=>by
  rcases List.mem_append.1 hb with r | r
  ·exact hu b r
  ·rw [List.mem_singleton.1 r];exact ham
 rw [eu,ef] at H10;refine zo.bfs (o:=o') (ob:=.arr qb [encI (idS n).1,.bool (idS n).2]) (u:=u++[a]) (q:=[idS n]) (limit:=limit) (by decide) hn hlim (fun b hb=>hl b (hu' b hb)) (by simp;omega) rfl rfl rfl rfl rfl rfl rfl (Bfs.start _) (by simpa using hl1) (.cap qb 0 _ [idS n] (by simp) rfl) H10 (fun j x k b q' h' nx' O1 O2 a1 a2 a3 a4 H' => ?_) fun q' ob' tm h' nx' hC' hnd' hql' H' => ?_
 ·refine H'.rend (k:=4) rfl fun h11 H11 => ?_;exact hs _ _ _ ⟨⟨u++[a],q',j,x,k,b,hu',a1,a2,a3,a4⟩,_,_,_,_,_,_,_,_,_,rfl⟩ H11
 ·refine H'.rend (k:=4) rfl fun h11 H11 => ?_;refine hj _ _ _ ⟨u++[a],q',o',g1,hu',by simp;omega,fun d hd => ?_,hnd',hC',hql',rfl⟩ (Hp.tidy H11);rcases htk d hd with r | rfl
  ·exact Clo.mono hC hC' (fun b hb=>Zbt _ hb) d (hin d r)
  ·have:=hC'.clo _ hC'.one d (by simp)
   rwa [comp_id hda] at this
theorem zio {h0 h:T Blk} {nx p:Pa} {K:Kw Prop} {L:List Ob} {n limit:Nat} {l:List Sym} (hn:n<=256) (hl1:1<=limit) (hlim:limit<=2000) (hl:∀ a∈l,DS n a) (hll:l.length<=2000) (H:Hp h0 h nx L)
  (hno:∀ h' nx',zj9 n limit l->Hp h0 h' nx' L->K (.tup [.qj,.zh,.bool false]) h' nx'=.ok True)
  (hyes:∀ (u q:List Sym) g o h' nx',(∀ c∈u,c∈l)->(∀ a∈l,a∈q)->q.Nodup->CloS n u q->q.length<=limit->Hp h0 h' nx' (.map g (fD q)::.gro o 2 u.length (yY u)::L)->K (.tup [.map g,xu o 2 u.length,.bool true]) h' nx'=.ok True) :
  (CS Tryz.prog B).fn 200 p [fB l,I n,I limit] h nx K=.ok True:=by
 refine yE (p:=.of 200) (K:=K) (zM zP yh 10000000 fun hf => ?_) fun _ _ _ _ q=>q;have hid:=DS.id n;have hid1:=hid.1;rw [zo.go];refine H.box (l:=[I limit]) rfl fun b3 h1 nx1 H1 => ?_;refine H1.alloc fun b4 h2 nx2 H2 => ?_;refine H2.alloc fun b5 h3 nx3 H3 => ?_;refine H3.alloc fun b6 h4 nx4 H4 => ?_;refine zgk (by omega) _ _ _ _ ?_;rintro _ rfl _;refine H4.alloc fun b7 h5 nx5 H5 => ?_;refine H5.qo (k:=0) (n:=2) rfl rfl rfl fun h6 H6 => ?_;rw [show (true&&(true&&true))=true from rfl,jE,H6.zk (k:=0) (n:=2) rfl rfl,H6.zk (k:=0) (n:=2) rfl rfl];refine pC (a:=idS n) (fun y hy=>by have:=hid.2 y hy;omega) (by omega) _ _ _ _ ?_;rintro _ rfl _;rw [H6.zk (k:=0) (n:=2) rfl rfl,zC,H6.zk (k:=0) (n:=2) rfl rfl,zC];refine H6.rF fun g h7 nx7 H7 => ?_;rw [H7.zk (k:=1) (n:=2) rfl rfl,zC,H7.zk (k:=1) (n:=2) rfl rfl,zC];refine H7.putS hn hid (ks:=[]) (by simp) (by simp) (k:=0) rfl fun h8 H8 => ?_;rw [H8.zk (k:=1) (n:=2) rfl rfl,zC,H8.zk (k:=1) (n:=2) rfl rfl,zC];refine H8.alloc fun b8 h9 nx9 H9 => ?_;rw [zC,H9.zk (k:=2) (n:=2) rfl rfl,zC,H9.zk (k:=2) (n:=2) rfl rfl,zC];refine H9.store (k:=0) rfl (by simp) rfl fun h10 H10 => ?_;refine H10.alloc fun b9 h11 nx11 H11 => ?_;refine zpo _ _ _ _ ?_;rintro _ rfl _;have H12:=H11.oh 2;have H13:Hp h0 h11 nx11 (.arr b9 [xu none 2 0]::.arr b8 [.map g]::.map g (fD [idS n])::.gro none 2 0 []::.arr b7 [encI (idS n).1,.bool (idS n).2]::.arr b6 [.bool false]::.arr b5 [.zh]::.arr b4 [.qj]::.arr b3 [I limit]::L):=by
  have e:=(Zbu (l₁:=[.arr b9 [xu none 2 0],.arr b8 [.map g],.map g (fD [idS n])]) (a:=Ob.gro none 2 0 []) (l₂:=.arr b7 [encI (idS n).1,.bool (idS n).2]::.arr b6 [.bool false]::.arr b5 [.zh]::.arr b4 [.qj]::.arr b3 [I limit]::L)).symm;exact H12.perm e
 refine H13.rf (g:=144) (p:=.of 144) (cap:=[.fp [fB l]]) rfl fun id h14 nx14 H14 => ?_;refine zj8 (zo.J n limit l id b3 b4 b5 b6 b7 b8 b9 L) (zo.X n limit l id b3 b4 b5 b6 b7 b8 b9 L) (by omega) ⟨[],[idS n],none,g,by simp,by simp,by simp,by simp,?_,by simpa using hl1,rfl⟩ H14 (fun i a h' nx' L' K' hx hJ H' hj hs=>zo.round hn hl1 hlim hl hll hx hJ H' hj hs) fun h' nx' L' hJX H' => ?_
 ·exact ⟨by simp,fun x _ b hb=>absurd hb (by simp),(Bfs.start (mul:=jJ) (e:=idS n) []).ind⟩
 rcases hJX with ⟨u,q,o,g',hu,hul,hin,hnd,hC,hql,rfl⟩ | ⟨hT,O1,O2,O3,O4,O5,O6,O7,O8,O9,rfl⟩
 ·refine H'.aj fun h15 H15 => ?_;rw [zbt,zo.k23,H15.load (k:=1) (i:=0) rfl rfl,H15.load (k:=0) (i:=0) rfl rfl];refine H15.store (k:=7) rfl (by simp) rfl fun h16 H16 => ?_;rw [H16.load (k:=0) (i:=0) rfl rfl,zC];refine H16.store (k:=6) rfl (by simp) (kP _ _ _) fun h17 H17 => ?_;refine H17.store (k:=5) rfl (by simp) rfl fun h18 H18 => ?_;rw [H18.load (k:=7) (i:=0) rfl rfl,H18.load (k:=6) (i:=0) rfl rfl,H18.load (k:=5) (i:=0) rfl rfl];rw [List.take_length] at hin;exact hyes u q g' o _ _ hu hin hnd hC hql (Hp.zzp H18)
 ·have Q:=H'.front (k:=4) rfl;refine Q.aj fun h15 H15 => ?_;show Ev.aj _ _ .done .ret _ h15 nx'=_;rw [zcy];have e:∀ E0,(((fnO zo.res K).blk 0 E0).rt (zo.tm n limit l b3 b4 b5 b6 b7 b8 b9) h15 nx')=(zB (.ptr b4 0) h15 fun v1=>zB (.ptr b5 0) h15 fun v2=>zB (.ptr b6 0) h15 fun v3=>K (.tup [v1,v2,v3]) h15 nx'):=fun E0=>by kernel_rfl
  rw [e,H15.load (k:=11) (i:=0) rfl rfl,H15.load (k:=10) (i:=0) rfl rfl,H15.load (k:=9) (i:=0) rfl rfl];exact hno _ _ hT H15.drop.drop.drop.drop.drop.drop.drop.drop.drop.drop.drop.drop.drop
end Go.Ev
namespace Go.Ev
open Go Go.Proofs
def DP (n:Nat) (a:Sym):Prop:=DS n a/\a.1.Nodup
theorem DP.perm {n:Nat} {a:Sym} (h:DP n a):qK a.1:=⟨h.2,by rw [h.1.1];exact h.1.2⟩
theorem DP.of {n:Nat} {a:Sym} (h:qK a.1) (hl:a.1.length=n):DP n a:=⟨⟨hl,by have:=h.2;rw [hl] at this;exact this⟩,h.1⟩
theorem kT {n:Nat} {a b:Sym} (hb:DS n b) {i:Nat} (hi:i<n):(jJ a b).1[i]? = some (a.1.getD (b.1.getD i 0).toNat 0):=by
 have h1:=hb.1;show (b.1.map fun c=>a.1.getD c.toNat 0)[i]? = _;rw [List.getElem?_map,Zab (l:=b.1),List.getElem?_eq_getElem (by omega)]
 rfl
theorem DS.get {n:Nat} {b:Sym} (hb:DS n b) {i:Nat} (hi:i<n):b.1[i]? = some (b.1.getD i 0)/\0<=b.1.getD i 0/\b.1.getD i 0<(n:Int):=by
 have h1:=hb.1;have e:b.1[i]? = some (b.1.getD i 0):=by rw [Zab,List.getElem?_eq_getElem (by omega)];rfl
 exact ⟨e,hb.2 _ (Zaa e)⟩
theorem DP.inj {n:Nat} {a:Sym} (ha:DP n a) {i j:Nat} (hi:i<n) (hj:j<n) (h:a.1.getD i 0=a.1.getD j 0):i=j:=by
 obtain ⟨e1,_⟩:=ha.1.get hi;obtain ⟨e2,_⟩:=ha.1.get hj;rw [h] at e1;obtain ⟨p1,q1⟩:=List.getElem?_eq_some_iff.1 e1;obtain ⟨p2,q2⟩:=List.getElem?_eq_some_iff.1 e2;exact (List.getElem_inj (h₀:=p1) (h₁:=p2) ha.2).1 (q1.trans q2.symm)
theorem bA {n:Nat} {p q:List Int} (hp:p.length=n) (hq:q.length=n) (h:∀ i,i<n->p[i]? = q[i]?):p=q:=by
 refine Zax fun i => ?_;by_cases hi:i<n
 ·exact h i hi
 ·rw [List.getElem?_eq_none (by omega),List.getElem?_eq_none (by omega)]
theorem ziq (n:Nat):zao jJ (idS n) (DP n):={
 de:=⟨DS.id n,by
  show ((List.range n).map fun j:Nat=>(j:Int)).Nodup;rw [List.Nodup,Zbl];exact List.nodup_range.imp fun h q=>h (by omega)⟩
 dm a b ha hb:=⟨DS.comp ha.1 hb.1,by
  show (b.1.map fun c=>a.1.getD c.toNat 0).Nodup;rw [List.Nodup,Zbl];refine (List.Pairwise.and_mem.1 hb.2).imp ?_;rintro x y ⟨hx,hy,hxy⟩ q;have h1:=hb.1.2 x hx;have h2:=hb.1.2 y hy;have:=ha.inj (i:=x.toNat) (j:=y.toNat) (by omega) (by omega) q;exact hxy (by omega)⟩
 assoc a b c ha hb hc:=by
  refine Prod.ext ?_ (by show ((a.2 != b.2) != c.2)=(a.2 != (b.2 != c.2));cases a.2 <;> cases b.2 <;> cases c.2 <;> rfl);refine bA (n:=n) (by rw [jJ,kB];exact hc.1.1) (by rw [jJ,kB,jJ,kB];exact hc.1.1) fun i hi => ?_;obtain ⟨e1,h1,h2⟩:=hc.1.get hi;have hk:(c.1.getD i 0).toNat<n:=by omega
  rw [kT hc.1 hi,kT (DS.comp hb.1 hc.1) hi];have q1:=kT (a:=a) hb.1 hk;have q2:=kT (a:=b) hc.1 hi;rw [Zab (l:=(jJ a b).1),q1,Zab (l:=(jJ b c).1),q2]
  rfl
 el a ha:=by
  refine Prod.ext ?_ (by show (false != a.2)=a.2;cases a.2 <;> rfl);refine bA (n:=n) (by rw [jJ,kB];exact ha.1.1) ha.1.1 fun i hi => ?_;obtain ⟨e1,h1,h2⟩:=ha.1.get hi;rw [kT ha.1 hi,e1];show some (((List.range n).map fun j:Nat=>(j:Int)).getD (a.1.getD i 0).toNat 0)=_;rw [Zab (l:=List.map _ _),List.getElem?_map,List.getElem?_range (by omega)];show some (((a.1.getD i 0).toNat:Nat):Int)=_
  congr 1;omega
 er a ha:=comp_id ha.1
 cl a b c ha hb hc h:=by
  refine Prod.ext ?_ ?_
  ·refine bA (n:=n) hb.1.1 hc.1.1 fun i hi => ?_;obtain ⟨e1,h1,h2⟩:=hb.1.get hi;obtain ⟨e2,h3,h4⟩:=hc.1.get hi;have q:(jJ a b).1[i]? = (jJ a c).1[i]? := by rw [h]
   rw [kT hb.1 hi,kT hc.1 hi] at q;have:=ha.inj (by omega) (by omega) (Option.some.inj q);rw [e1,e2];congr 1;omega
  ·have q:(a.2 != b.2)=(a.2 != c.2):=congrArg Prod.snd h;cases h1:a.2 <;> cases h2:b.2 <;> cases h3:c.2 <;> rw [h1,h2,h3] at q <;> first | rfl | cases q }
theorem zaj {G:List Sym}:clG G=true↔vC jJ G:=by
 rw [clG,Zae];constructor
 ·intro h a ha b hb;have:=h a ha;rw [Zae] at this;exact of_decide_eq_true (this b hb)
 ·intro h a ha;rw [Zae];exact fun b hb=>decide_eq_true (h a ha b hb)
theorem zgn {a b c:List Int} (h1:gB a b=true) (h2:gB b c=true):gB a c=true:=by
 rw [xE,decide_eq_true_eq] at h1 h2 ⊢;exact gE h1 h2
theorem zir {a b c:Sym} (h1:befS a b=true) (h2:befS b c=true):befS a c=true:=by
 rw [befS] at h1 h2 ⊢;by_cases c1:a.1=b.1
 ·rw [if_pos c1] at h1;by_cases c2:b.1=c.1
  ·rw [if_pos c2] at h2;rw [if_pos (c1.trans c2)];cases h3:a.2 <;> cases h4:b.2 <;> cases h5:c.2 <;> simp_all
  ·rw [if_neg c2] at h2;rw [if_neg (by rw [c1];exact c2),c1];exact h2
 ·rw [if_neg c1] at h1;by_cases c2:b.1=c.1
  ·rw [if_neg (by rw [<- c2];exact c1),<- c2];exact h1
  ·rw [if_neg c2] at h2;have:=zgn h1 h2;rw [if_neg (fun e=>by rw [e,lex_irrefl] at this;cases this)];exact this
theorem zgo (a:Sym):befS a a=false:=by rw [befS,if_pos rfl];cases a.2 <;> rfl
theorem zka:∀ {G:List Sym},aF G=true->G.Pairwise fun a b=>befS a b=true
 | [],_=>.nil
 | [a],_=>by simp
 | a::b::G,h=>by
  have e:aF (a::b::G)=(befS a b&&aF (b::G)):=rfl;rw [e,Zad] at h;have ih:=zka h.2;refine List.pairwise_cons.2 ⟨fun c hc => ?_,ih⟩;rcases List.mem_cons.1 hc with rfl | hc
  ·exact h.1
  ·exact zir h.1 ((List.pairwise_cons.1 ih).1 c hc)
theorem d8 {G:List Sym} (h:aF G=true):G.Nodup:=(zka h).imp fun hab e=>by rw [e,zgo] at hab;cases hab
structure GrOk (G:List Sym) (n:Nat):Prop where
 n256:n<=256
 ne:G≠[]
 len:G.length<=1536
 dp:∀ g∈G,DP n g
 ord:aF G=true
 cl:vC jJ G
theorem GrOk.nd {G:List Sym} {n:Nat} (h:GrOk G n):G.Nodup:=d8 h.ord
theorem GrOk.one {G:List Sym} {n:Nat} (h:GrOk G n):idS n∈G:=pL (ziq n) h.dp h.nd h.ne h.cl
theorem zl6 {G:List Sym} {z:Int} (h:j5 G z=0):∃ n:Nat,z=(n:Int)/\GrOk G n:=by
 rw [j5] at h;by_cases c1:z<0\/256<z
 ·rw [if_pos c1] at h;cases h
 rw [if_neg c1] at h;by_cases c2:G.length=0
 ·rw [if_pos c2] at h;cases h
 rw [if_neg c2] at h;by_cases c3:1536<G.length
 ·rw [if_pos c3] at h;cases h
 rw [if_neg c3] at h;by_cases c4:gL z G=0
 case neg=>rw [if_pos c4] at h;exact absurd h c4
 rw [if_neg (by simp [c4])] at h;by_cases c5:aF G=false
 ·rw [if_pos c5] at h;cases h
 rw [if_neg c5] at h;by_cases c6:clG G=false
 ·rw [if_pos c6] at h;cases h
 refine ⟨z.toNat,by omega,by omega,by rintro rfl;exact c2 rfl,by omega,fun g hg => ?_,by simpa using c5,zaj.1 (by simpa using c6)⟩;obtain ⟨_,h2,h3⟩:=dC (d4 c4 g hg);exact DP.of h3 (by omega)
end Go.Ev
namespace Go.Ev
open Go Go.Proofs
variable {B:Nat}
theorem zsw (op:KW3->OP) (h:T Blk) (nx:Pa) (k:KW3):sGW (.bool false) true op h nx k=k .undef h nx:=nr rfl
theorem zsx (op:KW3->OP) (h:T Blk) (nx:Pa) (k:KW3):sGW (.bool true) true op h nx k=op k:=nr rfl
noncomputable abbrev yx.tm (n:Int) (l:List Sym) (b2 b3 b4 b5:Pa):T AV:=yx.fr (fB l) (I n) (.ptr b2 0) (.ptr b3 0) (.ptr b4 0) (.ptr b5 0) (I 0) (I 0) .undef .undef .undef .undef .undef (.bool false) (.bool false) (.fn 144 (.of 144) [.fp [fB l]]) .undef .undef .undef .undef
def yx.J (n:Int) (l:List Sym) (id b2 b3 b4 b5:Pa) (L:List Ob) (i:Nat) (L':List Ob):Prop :=
 aF l=aF (l.drop (i-1))/\L'=.raw id (.loop .ready .none (yx.tm n l b2 b3 b4 b5) [.of 16,.of 17] yx.b5 yx.b6)::.arr b5 [I 0]::.arr b4 [.zh]::.arr b3 [.qj]::.arr b2 [fB l]::L
def yx.X (n:Int) (l:List Sym) (id b2 b3 b4 b5:Pa) (L:List Ob) (L':List Ob):Prop :=
 aF l=false/\∃ O1,L'=O1::.raw id (.loop .done .ret (yx.tm n l b2 b3 b4 b5) [.of 16,.of 17] yx.b5 yx.b6)::.arr b5 [I 11]::.arr b4 [.zh]::.arr b3 [.qj]::.arr b2 [fB l]::L
theorem yx.round {h0 h:T Blk} {nx id b2 b3 b4 b5:Pa} {K:Kw Prop} {L L':List Ob} {i:Nat} {n:Int} {l:List Sym} {a:Sym} (hll:l.length<=2000) (hw:∀ g∈l,g.1.length<=1000000) (hx:l[i]? = some a)
  (hJ:yx.J n l id b2 b3 b4 b5 L i L') (H:Hp h0 h nx L')
  (hj:∀ h' nx' L',yx.J n l id b2 b3 b4 b5 L (i+1) L'->Hp h0 h' nx' L'->K (.bool true) h' nx'=.ok True)
  (hs:∀ h' nx' L',yx.X n l id b2 b3 b4 b5 L L'->Hp h0 h' nx' L'->K (.bool false) h' nx'=.ok True):(CS Tryz.prog B).yld id [I i,encS a] h nx K=.ok True:=by
 obtain ⟨ho,rfl⟩:=hJ;have hi:=(List.getElem?_eq_some_iff.1 hx).1;refine zbp (fns:=tbl) yh 10000 fun hf => ?_;rw [yx.p6 (mB H (k:=0) rfl)];refine H.alloc fun b10 h1 nx1 H1 => ?_;refine H1.qo (k:=0) (n:=2) rfl rfl rfl fun h2 H2 => ?_;rw [zjr (mB H2 (k:=1) rfl)];have H3:=H2.zih (k:=1) rfl (b':=.loop .busy .none (yx.tm n l b2 b3 b4 b5) [.of 16,.of 17] yx.b5 yx.b6) (by intro e;cases e);rw [yx.y6];simp only [xk];by_cases c0:i=0
 ·subst c0;simp only [show ¬ (0:Int)<((0:Nat):Int) by decide,decide_false,jZ,zsw,zT,zE];refine H3.rend (k:=1) rfl fun h4 H4 => ?_;exact hj _ _ _ ⟨ho,rfl⟩ H4.drop
 simp only [show (0:Int)<(i:Int) by omega,decide_true,jM,zsx];have hi1:i-1<l.length:=by omega
 have hai:l[i]=a:=by rw [List.getElem?_eq_getElem hi] at hx;exact Option.some.inj hx
 rw [H3.load (k:=5) (i:=0) rfl rfl,pq (by omega),cZ (i:=i-1) (by omega) hi1,uZ hi1,zej,H3.zk (k:=0) (n:=2) rfl rfl];refine zin (a:=l[i-1]) (b:=a) (hw _ (Zal hi1)) (hw _ (Zaa hx)) _ _ _ _ ?_;rintro _ rfl _;rw [rC,zV];have hd:aF (l.drop (i-1))=(befS l[i-1] a&&aF (l.drop i)):=by
  have e:=zlx (G:=l) (i:=i-1) (by omega);simp only [show i-1+1=i by omega,hai] at e;exact e
 cases c:befS l[i-1] a with
 | true =>
  have:=(zgi l[i-1] a).2 c;rw [decide_eq_false (show ¬ (0:Int)<=cmpS l[i-1] a by omega),zE];refine H3.rend (k:=1) rfl fun h4 H4 => ?_;exact hj _ _ _ ⟨by rw [ho,hd,c];simp,rfl⟩ H4.drop
 | false =>
  have:¬ cmpS l[i-1] a<0:=fun q=>by rw [(zgi _ _).1 q] at c;cases c
  rw [decide_eq_true (show (0:Int)<=cmpS l[i-1] a by omega),zD];refine H3.store (k:=4) rfl (by simp) rfl fun h4 H4 => ?_;refine H4.store (k:=3) rfl (by simp) rfl fun h5 H5 => ?_;refine H5.store (k:=2) rfl (by simp) rfl fun h6 H6 => ?_;refine H6.rend (k:=1) rfl fun h7 H7 => ?_;exact hs _ _ _ ⟨by rw [ho,hd,c];rfl,_,rfl⟩ H7
theorem zsy {h0 h:T Blk} {nx p:Pa} {K:Kw Prop} {L:List Ob} {n:Int} {G:List Sym} (hG:G.length<=100000) (hw:∀ g∈G,g.1.length<=100000) (H:Hp h0 h nx L)
  (hbad:∀ h' nx',j5 G n≠0->Hp h0 h' nx' L->K (.tup [.qj,.zh,I (j5 G n)]) h' nx'=.ok True)
  (hok:∀ (n':Nat) (u q:List Sym) g o h' nx',n=n'->GrOk G n'->j5 G n=0->(∀ c∈u,c∈G)->CloS n' u q->q.Nodup->(∀ a,a∈q↔a∈G)->Hp h0 h' nx' (.map g (fD q)::.gro o 2 u.length (yY u)::L)->K (.tup [.map g,xu o 2 u.length,I 0]) h' nx'=.ok True) :
  (CS Tryz.prog B).fn 143 p [fB G,I n] h nx K=.ok True:=by
 refine yE (p:=.of 143) (K:=K) (zM zP yh 10000000 fun hf => ?_) fun _ _ _ _ q=>q;rw [yx.go];refine H.box (l:=[fB G]) rfl fun b2 h1 nx1 H1 => ?_;refine H1.alloc fun b3 h2 nx2 H2 => ?_;refine H2.alloc fun b4 h3 nx3 H3 => ?_;refine H3.alloc fun b5 h4 nx4 H4 => ?_
 have bad:∀ (v:Int) h' nx' X,v≠0->j5 G n=v->Hp h0 h' nx' (X::.arr b5 [I 0]::.arr b4 [.zh]::.arr b3 [.qj]::.arr b2 [fB G]::L) ->
   (zQ 1 (.ptr b3 0) .qj h' nx' fun _ h36 n37=>zQ 1 (.ptr b4 0) .zh h36 n37 fun _ h39 n40=>zQ 1 (.ptr b5 0) (I v) h39 n40 fun _ h42 n43=>zB (.ptr b3 0) h42 fun v44=>zB (.ptr b4 0) h42 fun v45=>zB (.ptr b5 0) h42 fun v46=>K (.tup [v44,v45,v46]) h42 n43)=.ok True:=by
  intro v h' nx' X hv hg H';refine H'.store (k:=3) rfl (by simp) rfl fun h6 H6 => ?_;refine H6.store (k:=2) rfl (by simp) rfl fun h7 H7 => ?_;refine H7.store (k:=1) rfl (by simp) rfl fun h8 H8 => ?_;rw [H8.load (k:=3) (i:=0) rfl rfl,H8.load (k:=2) (i:=0) rfl rfl,H8.load (k:=1) (i:=0) rfl rfl];have:=hbad _ _ (by rw [hg];exact hv) H8.drop.drop.drop.drop.drop;rw [hg] at this;exact this
 rw [H4.load (k:=3) (i:=0) rfl rfl,zL,fQ,H4.load (k:=3) (i:=0) rfl rfl,zL,xk];refine zgg n _ _ _ _ ?_;rintro _ rfl _;rw [xk,zC,zL,zC,H4.load (k:=3) (i:=0) rfl rfl,zC,fQ,zC,zL,zC,H4.load (k:=3) (i:=0) rfl rfl,zC];refine kF _ _ _ _ _ _ ?_;rintro _ rfl _;rw [xk,zC,zL,zC,H4.load (k:=3) (i:=0) rfl rfl,zC];refine kF _ _ _ _ _ _ ?_;rintro _ rfl _;refine H4.yc (l:=[I (if n<0\/256<n then 3 else 0),I (if decide ((G.length:Int)=0)=true then 12 else 0),I (if decide ((1536:Int)<(G.length:Int))=true then 5 else 0)]) rfl fun tb h5 nx5 H5 => ?_;refine u9 (l:=[if n<0\/256<n then 3 else 0,if decide ((G.length:Int)=0)=true then 12 else 0,if decide ((1536:Int)<(G.length:Int))=true then 5 else 0]) H5 (k:=0) rfl (fun B=>vP (by simp)) (fun v hv=>by rw [hv];exact .int _ _) ?_;rintro _ rfl;have fE:gQ [if n<0\/256<n then (3:Int) else 0,if decide ((G.length:Int)=0)=true then 12 else 0,if decide ((1536:Int)<(G.length:Int))=true then 5 else 0]=if n<0\/256<n then 3 else if G.length=0 then 12 else if 1536<G.length then 5 else 0:=by
  by_cases c1:n<0\/256<n
  ·rw [if_pos c1,if_pos c1];rfl
  rw [if_neg c1,if_neg c1];by_cases c2:G.length=0
  ·rw [decide_eq_true (show (G.length:Int)=0 by omega),if_pos c2];rfl
  rw [decide_eq_false (show ¬ (G.length:Int)=0 by omega),if_neg c2];by_cases c3:1536<G.length
  ·rw [decide_eq_true (show (1536:Int)<(G.length:Int) by omega),if_pos c3];rfl
  ·rw [decide_eq_false (show ¬ (1536:Int)<(G.length:Int) by omega),if_neg c3];rfl
 rw [fE,qm];by_cases c1:n<0\/256<n
 ·rw [if_pos c1];simp only [show ¬ (3:Int)=0 by decide,decide_false,Zah,zD];exact bad 3 _ _ _ (by decide) (by rw [j5,if_pos c1]) H5
 rw [if_neg c1];by_cases c2:G.length=0
 ·rw [if_pos c2];simp only [show ¬ (12:Int)=0 by decide,decide_false,Zah,zD];exact bad 12 _ _ _ (by decide) (by rw [j5,if_neg c1,if_pos c2]) H5
 rw [if_neg c2];by_cases c3:1536<G.length
 ·rw [if_pos c3];simp only [show ¬ (5:Int)=0 by decide,decide_false,Zah,zD];exact bad 5 _ _ _ (by decide) (by rw [j5,if_neg c1,if_neg c2,if_pos c3]) H5
 rw [if_neg c3];have e0:j5 G n=if gL n G≠0 then gL n G else if aF G=false then 11 else if clG G=false then 28 else 0:=by rw [j5,if_neg c1,if_neg c2,if_neg c3]
 simp only [decide_true,Zaf,zE];rw [H5.load (k:=4) (i:=0) rfl rfl];refine zgh hG hw _ _ _ _ ?_;rintro _ rfl _;rw [qm];by_cases c4:gL n G=0
 case neg =>
  simp only [c4,decide_false,Zah,zD];exact bad _ _ _ _ c4 (by rw [e0,if_pos c4]) H5
 rw [if_neg (by simp [c4])] at e0;simp only [c4,decide_true,Zaf,zE];have hsy:=d4 c4;obtain ⟨n',rfl⟩:∃ n':Nat,n=(n':Int):=⟨n.toNat,by omega⟩;have hdp:∀ g∈G,DP n' g:=fun g hg=>by
  obtain ⟨_,q2,q3⟩:=dC (hsy g hg);exact DP.of q3 (by omega)
 rw [H5.load (k:=4) (i:=0) rfl rfl];refine zpo _ _ _ _ ?_;rintro _ rfl _;refine H5.drop.rf (g:=144) (p:=.of 144) (cap:=[.fp [fB G]]) rfl fun id h6 nx6 H6 => ?_;refine zj8 (yx.J n' G id b2 b3 b4 b5 L) (yx.X n' G id b2 b3 b4 b5 L) (by omega) ⟨by simp,rfl⟩ H6 (fun i a h' nx' L' K' hx hJ H' hj hs=>yx.round (by omega) (fun g hg=>by have:=hw g hg;omega) hx hJ H' hj hs) fun h' nx' L' hJX H' => ?_;rcases hJX with ⟨ho,rfl⟩ | ⟨ho,O1,rfl⟩
 case inr =>
  have Q:=H'.front (k:=1) rfl;refine Q.aj fun h15 H15 => ?_;show Ev.aj _ _ .done .ret _ h15 nx'=_;rw [zcy];have e:∀ E0,(((fnO yx.res K).blk 0 E0).rt (yx.tm n' G b2 b3 b4 b5) h15 nx')=(zB (.ptr b3 0) h15 fun v1=>zB (.ptr b4 0) h15 fun v2=>zB (.ptr b5 0) h15 fun v3=>K (.tup [v1,v2,v3]) h15 nx'):=fun E0=>by kernel_rfl
  rw [e,H15.load (k:=3) (i:=0) rfl rfl,H15.load (k:=2) (i:=0) rfl rfl,H15.load (k:=1) (i:=0) rfl rfl];have hg:j5 G n'=11:=by rw [e0,if_pos ho]
  have:=hbad _ _ (by rw [hg];decide) H15.drop.drop.drop.drop.drop;rw [hg] at this;exact this
 have hord:aF G=true:=by rw [ho];exact zpd (by omega)
 rw [if_neg (by simp [hord])] at e0;have hnd:=d8 hord;have hG0:G≠[]:=by rintro rfl;exact c2 rfl
 refine H'.aj fun h15 H15 => ?_;rw [zbt,yx.k8,H15.load (k:=3) (i:=0) rfl rfl,H15.load (k:=3) (i:=0) rfl rfl,zL];refine zio (n:=n') (limit:=G.length) (by omega) (by omega) (by omega) (fun g hg=>(hdp g hg).1) (by omega) H15 (fun h16 nx16 hT H16 => ?_) fun u q g o h16 nx16 hu hin hqn hC hql H16 => ?_
 ·obtain ⟨u,q,i,x,k,b,hu,hB,hb,hnot,hq⟩:=hT;have hnc:=hB.many (ziq n') hb hnot hq hdp hnd hG0 hu;have hcl:clG G=false:=by
   cases c:clG G with
   | false=>rfl
   | true=>exact absurd (zaj.1 c) hnc
  rw [jA,jB,gI,yW];simp only [Zah,yQ,zV,zD];refine H16.store (k:=2) rfl (by simp) rfl fun h7 H7 => ?_;refine H7.store (k:=1) rfl (by simp) rfl fun h8 H8 => ?_;refine H8.store (k:=0) rfl (by simp) rfl fun h9 H9 => ?_;rw [H9.load (k:=2) (i:=0) rfl rfl,H9.load (k:=1) (i:=0) rfl rfl,H9.load (k:=0) (i:=0) rfl rfl];have hg:j5 G n'=28:=by rw [e0,if_pos hcl]
  have:=hbad _ _ (by rw [hg];decide) H9.drop.drop.drop.drop;rw [hg] at this;exact this
 ·rw [jA,jB,gI,yW];simp only [Zaf,yL];rw [H16.zup (k:=0) rfl,H16.load (k:=5) (i:=0) rfl rfl,zL,qm,zT];have hiff:=zl5 (ziq n') hC hqn hdp hnd hG0 hu hin;by_cases c:q.length=G.length
  case neg =>
   have hcl:clG G=false:=by
    cases c':clG G with
    | false=>rfl
    | true=>exact absurd (hiff.2 (zaj.1 c')) c
   simp only [show ¬ (q.length:Int)=(G.length:Int) by omega,decide_false,Zah,zD];refine H16.store (k:=4) rfl (by simp) rfl fun h7 H7 => ?_;refine H7.store (k:=3) rfl (by simp) rfl fun h8 H8 => ?_;refine H8.store (k:=2) rfl (by simp) rfl fun h9 H9 => ?_;rw [H9.load (k:=4) (i:=0) rfl rfl,H9.load (k:=3) (i:=0) rfl rfl,H9.load (k:=2) (i:=0) rfl rfl];have hg:j5 G n'=28:=by rw [e0,if_pos hcl]
   have:=hbad _ _ (by rw [hg];decide) H9.drop.drop.drop.drop.drop.drop;rw [hg] at this;exact this
  ·have hcl:=zaj.2 (hiff.1 c);have hg:j5 G n'=0:=by rw [e0,hcl];rfl
   simp only [show (q.length:Int)=(G.length:Int) by omega,decide_true,Zaf,zE];rw [yx.k9];refine H16.store (k:=4) rfl (by simp) rfl fun h7 H7 => ?_;refine H7.store (k:=3) rfl (by simp) (kP _ _ _) fun h8 H8 => ?_;refine H8.store (k:=2) rfl (by simp) rfl fun h9 H9 => ?_;rw [H9.load (k:=4) (i:=0) rfl rfl,H9.load (k:=3) (i:=0) rfl rfl,H9.load (k:=2) (i:=0) rfl rfl];have hok':GrOk G n':=⟨by omega,hG0,by omega,hdp,hord,hiff.1 c⟩;have hsub:∀ x∈q,x∈G:=hC.sub hok'.one hok'.cl hu;have P:Hp h0 h9 nx16 (.map g (fD q)::.gro o 2 u.length (yY u)::L):=by
    have e1:∀ (A M B1 B2 B3 B4:Ob),(A::M::B1::B2::B3::B4::L).Perm (B1::B2::B3::B4::A::M::L):=fun A M B1 B2 B3 B4 =>
     (List.Perm.cons A (Zbu (l₁:=[B1,B2,B3,B4]) (a:=M) (l₂:=L)).symm).trans (Zbu (l₁:=[B1,B2,B3,B4]) (a:=A) (l₂:=M::L)).symm
    exact (H9.perm (e1 _ _ _ _ _ _)).drop.drop.drop.drop
   exact hok n' u q g o _ _ rfl hok' hg hu hC hqn (fun a=>⟨hsub a,hin a⟩) P
theorem zco {G:List Sym} {n:Int} (hG:G.length<=100000) (hw:∀ g∈G,g.1.length<=100000):Pure Tryz.prog B 84 [fB G,I n] (· = I (j5 G n)):=by
 refine yC fun h nx K H0 hK=>zM zP yh 1000 fun hf => ?_;rw [F84.go];refine zsy hG hw H0 (fun h' nx' hg H' => ?_) fun n' u q g o h' nx' hn hok hg hu hC hqn hq H' => ?_
 ·rw [jA,jB,gI];exact hK _ _ _ _ _ H' (zK rfl) rfl
 ·rw [jA,jB,gI];exact hK _ _ _ _ _ H' (zK rfl) (by rw [hg])
end Go.Ev
namespace Go.Ev
open Go Go.Proofs Go.RowKit Go.Sort
def oD (h:T Blk) (id0:Pa) (a:AV) (l:List Int):Prop :=
 a=encI l\/∃ id off o op m t,id≠id0/\a=.sl id off l.length o 1/\T.get .no id h=.cells op m t/\off+l.length<=m/\zY t off l.length=l.map I
theorem oD.jc {h:T Blk} {id0:Pa} {a:AV} {l:List Int} (R:oD h id0 a l):jc a=true:=by
 rcases R with rfl | ⟨_,_,_,_,_,_,_,rfl,_⟩ <;> rfl
theorem oD.set {h:T Blk} {id0:Pa} {a:AV} {l:List Int} {b:Blk} (R:oD h id0 a l):oD (T.set .no b id0 h) id0 a l:=by
 rcases R with rfl | ⟨id,off,o,op,m,t,h1,h2,h3,h4,h5⟩
 ·exact .inl rfl
 ·exact .inr ⟨id,off,o,op,m,t,h1,h2,by rw [T.zu (h:=h1)];exact h3,h4,h5⟩
theorem oD.cells {P:Program} {B:Nat} {E:Env} {h:T Blk} {nx:Pa} {w:World} {id0:Pa} {a:AV} {l:List Int} {v:Value} (H:HR P B E h nx w) (R:oD h id0 a l) (hv:VR E a v) :
  ∃ p c,v=.slice p l.length c/\(l.length=0\/∃ b o,p=some ⟨b,o,none⟩/\∀ j,j<l.length->w.cell? ⟨b,o+j,none⟩=some (.int .i64 l[j]!)):=by
 rcases R with rfl | ⟨id,off,o,op,m,t,h1,rfl,h3,h4,h5⟩
 ·obtain ⟨_,_,p,c,rfl,hh⟩:=hv.oH;refine ⟨p,c,rfl,?_⟩;rcases hh with h0 | ⟨b,off,rfl,_,hf⟩
  ·exact .inl h0
  ·refine .inr ⟨b,off,rfl,fun j hj => ?_⟩;obtain ⟨v,hv1,hv2⟩:=VRF.get hf (i:=j) (a:=I l[j]) (by rw [List.getElem?_map,List.getElem?_eq_getElem hj];rfl);simp only [VR] at hv2;subst hv2;obtain ⟨⟨c,ty,fr,q1,q2⟩,_⟩:=H.frz _ _ _ hv1;rw [getElem!_pos l j hj];simp [World.cell?,q1,q2]
 ·obtain ⟨b,n,c,hE,rfl,hcap⟩:=hv.sH;refine ⟨_,c,rfl,.inr ⟨b,off,rfl,fun j hj => ?_⟩⟩;obtain ⟨b',n',ob,q1,q2,q3⟩:=H.blk id (by rw [h3];intro e;cases e);rw [hE] at q1;cases q1;rw [h3] at q3;obtain ⟨cs,ty,fr,rfl,g1,g2,g3,g4,hc⟩:=q3;obtain ⟨_,v',k1,k2⟩:=hc (off+j) (by omega);have he:T.get .undef (.of (off+j)) t=I l[j]:=by
   have e1:=zW t off l.length j (by omega);rw [h5,List.getElem?_map,List.getElem?_eq_getElem hj] at e1;exact (Option.some.inj e1).symm
  rw [he] at k2;simp only [VR] at k2;subst k2;rw [getElem!_pos l j hj];simp [World.cell?,q2,k1]
theorem qJ {β γ:Type} {f:β->γ}:∀ {l:List β},(l.map f).Nodup->∀ {a b:β},a∈l->b∈l->f a=f b->a=b
 | [],_,_,_,h,_,_=>by cases h
 | x::l,hn,a,b,ha,hb,e=>by
  rw [Zce,Zbx] at hn;rcases List.mem_cons.1 ha with ea | ha'
  ·rcases List.mem_cons.1 hb with eb | hb'
   ·exact ea.trans eb.symm
   ·exact (hn.1 (List.mem_map.2 ⟨b,hb',(ea ▸ e).symm⟩)).elim
  ·rcases List.mem_cons.1 hb with eb | hb'
   ·exact (hn.1 (List.mem_map.2 ⟨a,ha',(eb ▸ e)⟩)).elim
   ·exact qJ hn.2 ha' hb' e
end Go.Ev
namespace Go.Proofs
open Go.Shelf Go.Lib Go.RowKit Go.Sort
def rQ (a b:List Int×Bool):Int:=if gy a.1 b.1≠0\/a.2=b.2 then gy a.1 b.1 else if a.2 then 1 else -1
theorem drew_grow (w:World) (X Y:Obj) (q:Nat):((w.alloc X).alloc Y).drewN q=grow (w.drewN q) #[X,Y]:=by
 have e:(w.heap.push X).push Y=w.heap ++ #[X,Y]:=by apply Array.ext';simp
 unfold World.drewN World.alloc grow
 dsimp only
 rw [e]
theorem xW {w:World} {X:Obj} {a:Addr} {v:Value} (h:w.cell? a=some v):(w.alloc X).cell? a=some v:=by
 unfold World.cell? World.alloc at *
 cases e:w.heap[a.block]? with
 | none=>rw [e] at h;cases h
 | some o =>
  have hl:a.block<w.heap.size:=(Array.getElem?_eq_some_iff.1 e).1;have:(w.heap.push X)[a.block]? = w.heap[a.block]? := by rw [Array.getElem?_push,if_neg (by omega)]
  simp only [this,e] at *
  exact h
set_option maxHeartbeats 2000000 in
set_option maxRecDepth 100000 in
theorem zgp (p1 p2:Option Addr) (n c m d:Nat) (xs ys:List Int) (a b:Bool) (w:World) (hn:n=xs.length) (hm:m=ys.length) (hbig:n<=1000000) (hbig2:m<=1000000)
  (hc1:n=0\/∃ b1 o1,p1=some ⟨b1,o1,none⟩/\∀ j,j<n->w.cell? ⟨b1,o1+j,none⟩=some (.int .i64 xs[j]!)) (hc2:m=0\/∃ b2 o2,p2=some ⟨b2,o2,none⟩/\∀ j,j<m->w.cell? ⟨b2,o2+j,none⟩=some (.int .i64 ys[j]!)) :
  Calls Tryz.prog 114 #[.agg #[.slice p1 n c,.bool a],.agg #[.slice p2 m d,.bool b]] w fun e w'=>e=.returned (.int .i64 (rQ (xs,a) (ys,b)))/\∃ q os',w'=grow (w.drewN q) os':=by
 have H1:Aside (n=0\/∃ b1 o1,p1=some ⟨b1,o1,none⟩/\∀ j,j<n->w.cell? ⟨b1,o1+j,none⟩=some (.int .i64 xs[j]!)):=hc1;have H2:Aside (m=0\/∃ b2 o2,p2=some ⟨b2,o2,none⟩/\∀ j,j<m->w.cell? ⟨b2,o2+j,none⟩=some (.int .i64 ys[j]!)):=hc2
 clear hc1 hc2
 have mixed:Tryz.prog.follows .mixedOrders=true:=by kernel_rfl
 have t0:=Tryz.underlying0;have a0:=Tryz.isAgg0;have z0:=Tryz.sizeOf0;have v0:=Tryz.zeroValue0;have t3:=Tryz.underlying3;have a3:=Tryz.isAgg3;have z3:=Tryz.sizeOf3;have v3:=Tryz.zeroValue3;have t4:=Tryz.underlying4;have a4:=Tryz.isAgg4;have z4:=Tryz.sizeOf4;have v4:=Tryz.zeroValue4;have t35:=Tryz.underlying38;have a35:=Tryz.isAgg38;have z35:=Tryz.sizeOf38;have v35:=Tryz.zeroValue38;have t112:=Tryz.underlying115;have a112:=Tryz.isAgg115;have z112:=Tryz.sizeOf115;have v112:=Tryz.zeroValue115;have S0:Aside (n=xs.length/\m=ys.length):=⟨hn,hm⟩
 have hcall:∃ r,Aside (gy xs ys=r)/\∀ X Y,Calls Tryz.prog 161 #[.slice p1 n c,.slice p2 m d] ((w.alloc X).alloc Y) fun e w'=>e=.returned (.int .i64 r)/\∃ q,w'=((w.alloc X).alloc Y).drewN q :=
  ⟨gy xs ys,rfl,fun X Y=>zik p1 p2 n c m d xs ys _ hn hm hbig hbig2
   (H1.out.imp id fun ⟨b1,o1,e,f⟩=>⟨b1,o1,e,fun j hj=>xW (xW (f j hj))⟩)
   (H2.out.imp id fun ⟨b1,o1,e,f⟩=>⟨b1,o1,e,fun j hj=>xW (xW (f j hj))⟩)⟩
 obtain ⟨r,hr,hcall⟩:=hcall
 clear H1 H2
 have fin:∀ v:Int,Aside (v=if r≠0\/a=b then r else if a then 1 else -1)->Aside (v=rQ (xs,a) (ys,b)):=fun v e=>by
  unfold Aside at *
  rw [e,<- hr];rfl
 clear hn hm hr
 by_cases h0:r=0
 ·subst h0;have h0:(0:Int)=0:=rfl;cases a <;> cases b
  all_goals
   go_enter Tryz.func114,Tryz.ntmps114
   go_wp2_with (go_at_call 161;refine (hcall _ _).mono ?_;rintro e w' ⟨rfl,q,rfl⟩)
   all_goals (go_ret;exact ⟨congrArg (fun v=>Ending.returned (.int .i64 v)) (fin _ (by unfold Aside;simp [h0])).out,q,_,drew_grow _ _ _ _⟩)
 ·cases a <;> cases b
  all_goals
   go_enter Tryz.func114,Tryz.ntmps114
   go_wp2_with (go_at_call 161;refine (hcall _ _).mono ?_;rintro e w' ⟨rfl,q,rfl⟩)
   all_goals (go_ret;exact ⟨congrArg (fun v=>Ending.returned (.int .i64 v)) (fin _ (by unfold Aside;simp [h0])).out,q,_,drew_grow _ _ _ _⟩)
end Go.Proofs
namespace Go.Proofs
theorem zdf {a b:List Int} (h:a≠b):gy a b≠0:=fun e=>h (qN e)
theorem vL (a b:List Int×Bool):rQ a b=if a.1=b.1 then (if a.2=b.2 then 0 else if a.2 then 1 else -1) else gy a.1 b.1:=by
 unfold rQ;by_cases h:a.1=b.1
 ·rw [if_pos h,h,qS];by_cases g:a.2=b.2
  ·rw [if_pos (.inr g),if_pos g]
  ·rw [if_neg (by simp [g]),if_neg g]
 ·rw [if_neg h,if_pos (.inl (zdf h))]
theorem kH (a b:List Int×Bool):rQ b a = - rQ a b:=by
 rw [vL,vL];by_cases h:a.1=b.1
 ·rw [if_pos h,if_pos h.symm];cases a.2 <;> cases b.2 <;> rfl
 ·rw [if_neg h,if_neg (fun e=>h e.symm)];exact xC _ _
theorem zl7 (a:List Int×Bool):rQ a a=0:=by rw [vL,if_pos rfl,if_pos rfl]
theorem zem {a b:List Int×Bool} (e:rQ a b=0):a=b:=by
 rw [vL] at e;by_cases h:a.1=b.1
 ·rw [if_pos h] at e;refine Prod.ext h ?_;by_cases g:a.2=b.2
  ·exact g
  ·rw [if_neg g] at e
   revert e;cases a.2 <;> simp
 ·rw [if_neg h] at e;exact absurd e (zdf h)
theorem dU {a b c:List Int×Bool} (h1:rQ a b<0) (h2:rQ b c<0):rQ a c<0:=by
 rw [vL] at h1 h2 ⊢;by_cases e1:a.1=b.1
 ·rw [if_pos e1] at h1;by_cases e2:b.1=c.1
  ·rw [if_pos e2] at h2;rw [if_pos (e1.trans e2)]
   revert h1 h2
   cases a.2 <;> cases b.2 <;> cases c.2 <;> simp
  ·rw [if_neg e2] at h2;rw [if_neg (fun e=>e2 (e1.symm.trans e)),e1];exact h2
 ·rw [if_neg e1] at h1;by_cases e2:b.1=c.1
  ·rw [if_neg (fun e=>e1 (e.trans e2.symm)),<- e2];exact h1
  ·rw [if_neg e2] at h2;have:=gE h1 h2;rw [if_neg (fun e=>by rw [e,qS] at this;omega)];exact this
theorem dV {a b c:List Int×Bool} (h1:0<=rQ a b) (h2:0<=rQ b c):0<=rQ a c:=by
 by_cases e1:rQ a b=0
 ·rw [zem e1];exact h2
 by_cases e2:rQ b c=0
 ·rw [<- zem e2];exact h1
 have n1:=kH a b;have n2:=kH b c;have n3:=kH a c;have:=dU (a:=c) (b:=b) (c:=a) (by omega) (by omega);omega
end Go.Proofs
namespace Go.Ev
open Go Go.Proofs Go.RowKit Go.Sort
theorem HR.zsz {P:Program} {B:Nat} {E:Env} {h:T Blk} {nx:Pa} {w:World} {A:List AV} {F:Array Value} (hA:A.length=F.size) (hva:∀ i,i<F.size->jc (A.getD i .undef)=true/\VR E (A.getD i .undef) F[i]!)
  (H:HR P B E h nx w) {id:Pa} {op:Bool} {m off b n k:Nat} {t:T AV} {os:Array Obj} (hb:T.get .no id h=.cells op m t) (hE:E id=some (b,n)) (hm:off+F.size<=m) :
  HR P B (E) (T.set .no (.cells op m (yT A t off)) id h) nx (grow (putRow (fun v:Value=>v) (Sort.ahead w k) b off F) os)/\Ex E E w (grow (putRow (fun v:Value=>v) (Sort.ahead w k) b off F) os):=by
 have hid:T.get .no id h≠.no:=by rw [hb];intro e;cases e
 obtain ⟨b',n',o,h1,h2,h3⟩:=H.blk id hid;rw [hE] at h1;cases h1;rw [hb] at h3;obtain ⟨c,ty,fr,rfl,q1,q2,q3,q4,q5⟩:=h3;have hcs:(putCells (fun v:Value=>v) off F c).size=c.size:=by simp [putCells]
 have hbr:BR P E n (.cells op m (yT A t off)) (.cells (putCells (fun v:Value=>v) off F c) ty fr):=by
  refine ⟨_,ty,fr,rfl,by rw [hcs];exact q1,by rw [hcs];exact q2,q3,q4,fun i hi => ?_⟩;rw [uE];have hic:i<c.size:=by omega
  have hce:(putCells (fun v:Value=>v) off F c)[i]? = some (if off<=i/\i<off+F.size then F[i-off]! else c[i]):=by
   simp [putCells,Array.getElem?_eq_getElem hic]
  rw [hA];by_cases hr:off<=i/\i<off+F.size
  ·rw [if_pos hr];rw [if_pos hr] at hce;obtain ⟨r1,r2⟩:=hva (i-off) (by omega);exact ⟨r1,_,hce,r2⟩
  ·rw [if_neg hr];rw [if_neg hr] at hce;obtain ⟨r1,v,r2,r3⟩:=q5 i hi;rw [Array.getElem?_eq_getElem hic] at r2;exact ⟨r1,_,hce,by rw [Option.some.inj r2];exact r3⟩
 have H1:=H.put hid hE hbr;have X1:Ex E E w (w.putObj b (.cells (putCells (fun v:Value=>v) off F c) ty fr)):=Ex.put hE h2 fun L hL=>by cases hL
 have hbl:b<w.heap.size:=(Array.getElem?_eq_some_iff.1 h2).1;have hBel:Below (w.putObj b (.cells (putCells (fun v:Value=>v) off F c) ty fr)).heap.size (w.putObj b (.cells (putCells (fun v:Value=>v) off F c) ty fr)) (grow (putRow (fun v:Value=>v) (Sort.ahead w k) b off F) os):=by
  refine ⟨rfl,rfl,rfl,?_,fun j hj => ?_⟩
  ·rw [World.putObj_size];simp [grow,putRow,mapBlock,Sort.ahead]
  ·rw [World.putObj_size] at hj;have e1:(grow (putRow (fun v:Value=>v) (Sort.ahead w k) b off F) os).heap[j]? = (w.heap.modify b (onCells (putCells (fun v:Value=>v) off F)))[j]? := by
    show (w.heap.modify b (onCells (putCells (fun v:Value=>v) off F))++os)[j]? = _;rw [Array.getElem?_append_left (by simpa using hj)]
   rw [e1,Array.getElem?_modify];by_cases e:b=j
   ·subst e;rw [if_pos rfl,h2,gX _ hbl];rfl
   ·rw [if_neg e,yM _ (fun q=>e q.symm)]
 obtain ⟨r1,r2⟩:=H1.below hBel;exact ⟨r1,X1.trans r2⟩
def jO (ps:List (AV×Sym)):List AV:=ps.flatMap fun p=>[p.1,.bool p.2.2]
theorem xJ:∀ (ps:List (AV×Sym)) (i:Nat),(jO ps)[i]? = (ps[i / 2]?).map fun p=>if i%2=0 then p.1 else .bool p.2.2
 | [],i=>by simp [jO]
 | p::ps,0=>rfl
 | p::ps,1=>rfl
 | p::ps,i+2=>by
  rw [show (i+2) / 2=i / 2+1 by omega,show (i+2)%2=i%2 by omega,List.getElem?_cons_succ,<- xJ ps i]
  rfl
theorem qU:∀ (ps:List (AV×Sym)),(jO ps).length=ps.length*2
 | []=>rfl
 | p::ps=>by
  show (jO ps).length+2=_;rw [qU ps,Zbz];omega
theorem zl8 {B:Nat} {h:T Blk} {id:Pa} {op:Bool} {m off n:Nat} {o:Option Nat} {t:T AV} {ps qs:List (AV×Sym)} (hb:T.get .no id h=.cells op m t) (hm:off+n*2<=m) (hn:n<=1000000) (hl:ps.length=n) (hp:zY t off (n*2)=jO ps)
  (hr:∀ p∈ps,oD h id p.1 p.2.1/\p.2.1.length<=1000000) (hnd:(ps.map (·.2)).Nodup) (hq:qs.Perm ps) (hqs:qs.Pairwise fun a b=>rQ a.2 b.2<=0) :
  JOk Tryz.prog B (fun f a h'=>open Classical in if f=113/\a=[.sl id off n o 2,.fn 114 (.of 114) []]/\h'=h then some (.tup [],T.set .no (.cells op m (yT (jO qs) t off)) id h) else none):=by
 intro E h' nx w f args vs v h2 H hv hj
 dsimp only at hj
 by_cases hc:f=113/\args=[AV.sl id off n o 2,.fn 114 (.of 114) []]/\h'=h
 case neg=>rw [if_neg hc] at hj;cases hj
 rw [if_pos hc] at hj;obtain ⟨rfl,rfl,rfl⟩:=hc;simp only [Option.some.injEq,Prod.mk.injEq] at hj;obtain ⟨rfl,rfl⟩:=hj;refine ⟨_,Tryz.func113,by kernel_rfl,by kernel_rfl,fun nn=>callsIn_wide.2 ?_⟩;obtain ⟨l⟩:=vs;simp only [VRL] at hv;obtain ⟨u,_,rfl,hu,u2,_,rfl,hu2,rfl⟩:=hv;simp only [VR,VRL] at hu2;obtain ⟨_,vs2,rfl,hvs2⟩:=hu2;obtain rfl:vs2 = #[]:=by cases vs2;simpa using hvs2
 obtain ⟨b,bn,c,hE,rfl,hcap⟩:=hu.sH;obtain ⟨b',n',ob,h1,h2,h3⟩:=H.blk id (by rw [hb];intro e;cases e);rw [hE] at h1;cases h1;have h3':=h3;rw [hb] at h3;obtain ⟨cs,ty,fr,rfl,g1,g2,g3,g4,hc⟩:=h3
 let α:={x:(AV×Sym)×Value // oD h' id x.1.1 x.1.2.1/\x.1.2.1.length<=1000000/\VR E x.1.1 x.2}
 haveI:Inhabited α:=⟨⟨((encI [],([],false)),.slice none 0 0),.inl rfl,by simp,by simp only [VR];exact ⟨rfl,rfl,none,0,rfl,.inl ⟨rfl,fun _=>rfl⟩⟩⟩⟩
 let enc:α->List Value:=fun x=>[x.1.2,.bool x.1.1.2.2]
 let cf:α->α->Int:=fun x y=>rQ x.1.1.2 y.1.1.2
 have hk:∀ x,(enc x).length=2:=fun _=>rfl;have hone:∀ x,∀ v∈enc x,v.oneCell'=true:=fun x v hv=>by
  obtain ⟨p,c,e,_⟩:=x.2.1.cells H x.2.2.2;simp only [enc,Zag,List.not_mem_nil,or_false] at hv;rcases hv with rfl | rfl
  ·rw [e];rfl
  ·rfl
 have hO:SWO (ltOf cf):={
  irrefl:=fun x=>by show decide (rQ _ _<0)=false;rw [zl7];rfl
  trans:=fun x y z p q=>by
   have p:=of_decide_eq_true p;have q:=of_decide_eq_true q;exact decide_eq_true (dU p q)
  ntrans:=fun x y z p q=>by
   have p:=of_decide_eq_false p;have q:=of_decide_eq_false q;exact decide_eq_false (Int.not_lt.2 (dV (Int.not_lt.1 p) (Int.not_lt.1 q))) }
 have rd:∀ i,i<n*2->∃ p,ps[i / 2]? = some p/\T.get .undef (.of (off+i)) t=(if i%2=0 then p.1 else .bool p.2.2)/\∃ v',cs[off+i]? = some v'/\VR E (if i%2=0 then p.1 else .bool p.2.2) v'/\w.frozen? ⟨b,off+i,none⟩=false:=by
  intro i hi;have hjp:i / 2<ps.length:=by omega
  have e1:=zW t off (n*2) i hi;rw [hp,xJ,List.getElem?_eq_getElem hjp] at e1;have he:=(Option.some.inj e1).symm;obtain ⟨_,v',k1,k2⟩:=hc (off+i) (by omega);rw [he] at k2;refine ⟨_,List.getElem?_eq_getElem hjp,he,v',k1,k2,?_⟩;have:=g1 (off+i) (Array.getElem?_eq_some_iff.1 k1).1;simp only [World.frozen?,h2];obtain ⟨lo,hi⟩:=fr;simp only [Bool.and_eq_false_iff,decide_eq_false_iff_not];simp only at this;omega
 have each:∀ j,j<n->∃ x:α,ps[j]? = some x.1.1/\w.cell? ⟨b,off+j*2,none⟩=some x.1.2/\w.cell? ⟨b,off+(j*2+1),none⟩=some (.bool x.1.1.2.2):=by
  intro j hj;obtain ⟨p,a1,a2,v1,a3,a4,a5⟩:=rd (j*2) (by omega);obtain ⟨p',b1,b2,v2,b3,b4,b5⟩:=rd (j*2+1) (by omega);rw [show j*2 / 2=j by omega] at a1;rw [show (j*2+1) / 2=j by omega,a1] at b1;cases b1
  rw [if_pos (by omega)] at a4;rw [if_neg (by omega)] at b4;simp only [VR] at b4;subst b4;obtain ⟨r1,r2⟩:=hr _ (Zaa a1);exact ⟨⟨(p,v1),r1,r2,a4⟩,a1,by simp [World.cell?,h2,a3],by simp [World.cell?,h2,b3]⟩
 obtain ⟨D,hD⟩:=Go.Deep.choose_lt each;have hsz:((List.range n).map D).toArray.size=n:=by simp
 have hget:∀ j,j<n->((List.range n).map D).toArray[j]! = D j:=fun j hj=>by simp [getElem!_pos,hj]
 have hH:HoldsK enc 2 w b off ((List.range n).map D).toArray:=by
  intro i hi;rw [size_flatK,hsz] at hi;rw [get_flatK _ _ _ _ (by rw [hsz];exact hi),hget _ (by omega)];obtain ⟨_,d1,d2⟩:=hD (i / 2) (by omega);obtain ⟨_,_,_,_,_,_,fz⟩:=rd i hi;refine ⟨?_,fz⟩;rcases Nat.mod_two_eq_zero_or_one i with e | e
  ·rw [e];rw [show i / 2*2=i by omega] at d1;exact d1
  ·rw [e];rw [show i / 2*2+1=i by omega] at d2;exact d2
 have hsort:∀ (k:Nat) (os:Array Obj) (dk:Array α),dk.size=n->HR Tryz.prog B E (T.set .no (.cells op m (yT (jO (dk.toList.map fun x=>x.1.1)) t off)) id h') nx (sortWorldK enc 2 w b off k dk os)/\Ex E E w (sortWorldK enc 2 w b off k dk os):=by
  intro k os dk hs;have hfs:(flatK enc 2 dk).size=n*2:=by rw [size_flatK,hs]
  refine H.zsz (F:=flatK enc 2 dk) (by rw [qU,hfs,Zas,Array.length_toList,hs]) (fun i hi => ?_) hb hE (by rw [hfs];exact hm);rw [hfs] at hi;have hlt:i / 2<dk.size:=by omega
  rw [get_flatK _ _ _ _ (by rw [hs];exact hi),Zab,xJ,List.getElem?_map,Array.getElem?_toList,Array.getElem?_eq_getElem hlt,getElem!_pos dk _ hlt];simp only [Zbv,Option.getD_some];rcases Nat.mod_two_eq_zero_or_one i with e | e
  ·rw [e,if_pos rfl];exact ⟨dk[i / 2].2.1.jc,dk[i / 2].2.2.2⟩
  ·rw [e,if_neg (by decide)];exact ⟨rfl,by show VR E (.bool _) (.bool _);simp only [VR]⟩
 have hcmp:CmpLays Tryz.prog 114 #[] enc 2 cf b off ((List.range n).map D).toArray.size w:=by
  intro k os dk hs x y;rw [hsz] at hs;obtain ⟨H',_⟩:=hsort k os dk hs;obtain ⟨p1,c1,e1,m1⟩:=(x.2.1.set (b:=.cells op m (yT (jO (dk.toList.map fun x=>x.1.1)) t off))).cells H' x.2.2.2;obtain ⟨p2,c2,e2,m2⟩:=(y.2.1.set (b:=.cells op m (yT (jO (dk.toList.map fun x=>x.1.1)) t off))).cells H' y.2.2.2;have:=zgp p1 p2 _ c1 _ c2 x.1.1.2.1 y.1.1.2.1 x.1.1.2.2 y.1.1.2.2 (sortWorldK enc 2 w b off k dk os) rfl rfl x.2.2.1 y.2.2.1 m1 m2;show Go.Calls Tryz.prog 114 #[.agg #[x.1.2,.bool x.1.1.2.2],.agg #[y.1.2,.bool y.1.1.2.2]] _ _;rw [e1,e2];exact this
 have key:=AnyQ.slices_SortFunc Tryz.sortS 2 Tryz.isAgg115 Tryz.sizeOf115 enc hk hone cf hO 114 #[] b off c ((List.range n).map D).toArray w (enters_of Tryz.func114 (by kernel_rfl) rfl) hcmp hH (H.lt _ _ _ hE).2 (by rw [hsz];omega);rw [hsz] at key;refine key.mono ?_;rintro e w' ⟨rfl,d',k,os,hP,hS,rfl⟩;obtain ⟨hd1,_,hperm⟩:=hP;rw [hsz] at hd1;have e1:d'.extract 0 n=d':=by rw [<- hd1];exact Array.extract_size
 have e2:((List.range n).map D).toArray.extract 0 n=((List.range n).map D).toArray:=by
  have := @Array.extract_size _ ((List.range n).map D).toArray
  rwa [hsz] at this
 rw [e1,e2] at hperm;have hps:((List.range n).map D).map (fun x:α=>x.1.1)=ps:=by
  refine Zax fun j => ?_;rw [List.getElem?_map,List.getElem?_map];by_cases hj:j<n
  ·rw [List.getElem?_range hj,(hD j hj).1];rfl
  ·rw [List.getElem?_eq_none (by simp;omega),List.getElem?_eq_none (by omega)];rfl
 have hpm:(d'.toList.map fun x:α=>x.1.1).Perm ps:=by rw [<- hps];exact hperm.map _
 have hqe:(d'.toList.map fun x:α=>x.1.1)=qs:=by
  refine List.Perm.eq_of_pairwise (le:=fun a b=>rQ a.2 b.2<=0) ?_ ?_ hqs (hpm.trans hq.symm)
  ·intro a a' ha ha' p q;have e:a.2=a'.2:=zem (by have:=kH a.2 a'.2;omega);have ma:=hpm.mem_iff.1 ha;have ma':=hq.mem_iff.1 ha';exact qJ hnd ma ma' e
  ·rw [Zbl,Zcc];intro i j hi hj hij;have hi':i<d'.size:=by simpa using hi
   have hj':j<d'.size:=by simpa using hj
   have:=hS i j (Nat.zero_le _) hij (by omega);rw [getElem!_pos d' j hj',getElem!_pos d' i hi'] at this;have:=of_decide_eq_false this;have e:rQ d'[j].1.1.2 d'[i].1.1.2 = - rQ d'[i].1.1.2 d'[j].1.1.2:=kH _ _;have f:¬ rQ d'[j].1.1.2 d'[i].1.1.2<0:=this;simp only [Array.getElem_toList];omega
 obtain ⟨r1,r2⟩:=hsort k os d' hd1;rw [hqe] at r1;exact ⟨_,E,rfl,by simp only [VR,VRL];exact ⟨_,rfl,rfl⟩,r1,r2⟩
end Go.Ev
namespace Go.Ev
open Go Go.Proofs
variable {B:Nat}
theorem Hp.zwl {h0 h:T Blk} {nx:Pa} {L:List Ob} {j k:Nat} {x y:Ob} {a b:Pa} (H:Hp h0 h nx L) (hk:L[k]? = some x) (hj:L[j]? = some y) (hjk:j≠k) (ha:a∈x.names) (hb:b∈y.names):b≠a:=by
 have hnd:=(H.front hk).nd;rw [Zbh] at hnd;have hy:y∈L.take k++L.drop (k+1):=by
  rcases Nat.lt_or_gt_of_ne hjk with c | c
  ·exact Zbt _ (Zaa (i:=j) (by rw [List.getElem?_take_of_lt c];exact hj))
  ·exact List.mem_append_right _ (Zaa (i:=j-(k+1)) (by rw [List.getElem?_drop,show k+1+(j-(k+1))=j by omega];exact hj))
 rintro rfl;exact (List.nodup_append.1 hnd).2.2 b ha b (List.mem_flatMap.2 ⟨y,hy,hb⟩) rfl
def sV (L:List Ob) (p:AV×Sym):Prop:=p.1=encI p.2.1\/∃ rid,p.1=.sl rid 0 p.2.1.length (some p.2.1.length) 1/\Ob.arr rid (p.2.1.map I)∈L
theorem sV.jc {L:List Ob} {p:AV×Sym} (h:sV L p):jc p.1=true:=by rcases h with e | ⟨_,e,_⟩ <;> rw [e] <;> rfl
theorem sV.mono {L L':List Ob} {p:AV×Sym} (h:sV L p) (hl:∀ x∈L,x∈L'):sV L' p:=h.imp id fun ⟨r,e,m⟩=>⟨r,e,hl _ m⟩
theorem sV.at {h0 h:T Blk} {nx id:Pa} {L:List Ob} {n:Nat} {z:List AV} {p:AV×Sym} (H:Hp h0 h nx (.gro (some id) 2 n z::L)) (hp:sV L p):oD h id p.1 p.2.1:=by
 rcases hp with e | ⟨rid,e,hj⟩
 ·exact .inl e
 ·obtain ⟨op,t,h1,h2⟩:=H.own _ (Zan _ hj);rw [Zas] at h1 h2;obtain ⟨j,hj⟩:=List.getElem?_of_mem hj;exact .inr ⟨rid,0,some p.2.1.length,op,p.2.1.length,t,H.zwl (k:=0) (j:=j+1) rfl hj (by omega) (by simp [Ob.names]) (by simp [Ob.names]),e,h1,by omega,h2⟩
abbrev agP (p:AV×Sym):AV:=.agg [p.1,.bool p.2.2]
def fM (ps:List (AV×Sym)):List (AV×AV):=ps.map fun p=>(.str (ku p.2),agP p)
theorem pH:∀ (q:List (AV×Sym)) (i:Nat),(jO q).drop (i*2)=jO (q.drop i)
 | q,0=>by simp
 | [],i+1=>by simp [jO]
 | p::q,i+1=>by
  rw [List.drop_succ_cons,<- pH q i,show (i+1)*2=i*2+1+1 by omega]
  rfl
theorem zis {q:List (AV×Sym)} {i:Nat} (h:i<q.length):(jO q).drop (i*2)=q[i].1::.bool q[i].2.2::(jO q).drop ((i+1)*2):=by
 rw [pH,pH,Zar h];rfl
theorem zwm {h0 h:T Blk} {nx:Pa} {L:List Ob} {k j n:Nat} {o:Option Pa} {u:List (AV×Sym)} {c:AV×Sym} (H:Hp h0 h nx L) (hk:L[k]? = some (.gro o 2 n (jO u))) (hj:u[j]? = some c):∃ id off,(∀ op:AV->OP,zS 2 (xu o 2 n) (I (j:Int)) op=op (.ptr id off))/\∀ op:AV->OP,zN 2 (.ptr id off) h op=op (agP c):=by
 have own:=H.own _ (Zaa hk);have hjl:=(List.getElem?_eq_some_iff.1 hj).1;have hlen:=qU u;cases o with
 | none =>
  obtain ⟨q,_⟩:=own;rw [q] at hlen;simp at hlen;omega
 | some id =>
  obtain ⟨t,h1,h2,h3⟩:=own;have hn:n=u.length:=by omega
  subst hn;refine ⟨id,j*2,fun op=>by rw [xu,qQ hjl,Zav],fun op => ?_⟩;show jh (T.get .no id h) _ _=_;rw [h1];show (bif Nat.ble (j*2+2) (u.length*2) then op (.agg (zY t (j*2) 2)) else .no 8)=_;rw [Zac (by omega),cond_true];have e:∀ i,i<u.length*2->T.get .undef (.of i) t=(jO u).getD i .undef:=fun i hi=>by
   have:=zW t 0 (u.length*2) i hi;rw [h3,Zav] at this;rw [Zab,this];rfl
  have d:∀ i,(jO u).getD (j*2+i) .undef=((jO u).drop (j*2)).getD i .undef:=fun i=>by
   rw [Zab,Zab,List.getElem?_drop]
  have e2:zY t (j*2) 2=[T.get .undef (.of (j*2)) t,T.get .undef (.of (j*2+1)) t]:=rfl;have d0:=d 0;rw [Nat.add_zero] at d0;obtain rfl:u[j]=c:=by rw [List.getElem?_eq_getElem hjl] at hj;exact Option.some.inj hj
  rw [e2,e _ (by omega),e _ (by omega),d 1,d0,zis hjl]
  rfl
theorem zen {h0 h:T Blk} {nx p id:Pa} {L:List Ob} {k n:Nat} {K:Kw Prop} {q s:List (AV×Sym)} (H:Hp h0 h nx L) (hk:L[k]? = some (.gro (some id) 2 n (jO q))) (hql:q.length=n) (hn:n<=1000000) (hw:∀ a∈q,oD h id a.1 a.2.1/\a.2.1.length<=1000000)
  (hnd:(q.map (·.2)).Nodup) (hq:s.Perm q) (hs:s.Pairwise fun a b=>rQ a.2 b.2<=0) (hK:∀ h',Hp h0 h' nx (L.set k (.gro (some id) 2 n (jO s)))->K (.tup []) h' nx=.ok True):(CS Tryz.prog B).fn 113 p [xu (some id) 2 n,.fn 114 (.of 114) []] h nx K=.ok True:=by
 obtain ⟨t,h1,h2,h3⟩:=H.own _ (Zaa hk);have hsl:(jO s).length=n*2:=by rw [qU,hq.length_eq,hql]
 refine bY (zl8 (ps:=q) (qs:=s) (off:=0) (o:=none) h1 (by omega) hn hql h3 hw hnd hq hs)
  (v:=.tup []) (h2:=T.set .no (.cells true (n*2) (yT (jO s) t 0)) id h) (if_pos ⟨rfl,rfl,rfl⟩) (hK _ ?_)
 refine H.upd hk (by simp [Ob.names]) rfl ⟨_,T.get_set_same ..,hsl,?_⟩;have:=u7 t [] (jO s) 0 rfl;rw [Zav,List.nil_append,hsl] at this;exact this
theorem zkb {h0 h:T Blk} {nx p g:Pa} {L:List Ob} {k:Nat} {K:Kw Prop} {q s:List (AV×Sym)} (H:Hp h0 h nx L) (hg:L[k]? = some (.map g (fM q))) (hq0:0<q.length) (hql:q.length<=2000) (hw:∀ a∈q,sV L a/\a.2.1.length<=1000000)
  (hnd:(q.map (·.2)).Nodup) (hq:s.Perm q) (hs:s.Pairwise fun a b=>rQ a.2 b.2<=0) (hK:∀ o h' nx' A,Hp h0 h' nx' (.gro o 2 s.length (jO s)::(A++L))->K (xu o 2 s.length) h' nx'=.ok True):(CS Tryz.prog B).fn 60 p [.map g] h nx K=.ok True:=by
 refine yE (p:=.of 60) (K:=K) (zM zP yh 10000000 fun hf => ?_) fun _ _ _ _ q=>q;rw [F60.go];refine H.range (k:=k) hg fun it h1 nx1 H1 => ?_;have hel:(fM q).length=q.length:=by simp [fM]
 refine F60.L1 (fun m' x2 h' nx'=>∃ (seen:List Nat) (o:Option Pa),x2=xu o 2 seen.length/\(uP q.length seen).length=m'/\seen.length+m'=q.length/\seen.Nodup/\(∀ i∈seen,i<q.length) /\
  Hp h0 h' nx' (.gro o 2 seen.length (jO (seen.reverse.map fun i=>q.getD i (.undef,([],false))))::.iter it g (fM q).length seen (fM q).length::L)) (m:=q.length) (by omega)
  ⟨[],none,rfl,by (have e:uP q.length []=List.range q.length:=List.filter_eq_self.2 (by simp));rw [e];simp,by simp,by simp,by simp,H1.oh 2⟩ ?_
 rintro m' z2 z3 z7 h2 nx2 R ⟨seen,o,rfl,rfl,hsl,hns,hse,H2⟩ hR;refine H2.next (k:=1) (j:=k+2) rfl (by simpa using hg) (fun hall => ?_) fun i a b h3 hi hnin hab H3 => ?_
 ·simp only [jA,zE];have hsp:=zlw hns hse fun i hi=>hall i (by rw [hel];exact hi);have hup:(seen.reverse.map fun i=>q.getD i (.undef,([],false))).Perm q:=by
   have e:=zlb q (.undef,([],false))
   conv=>rhs;rw [e]
   exact ((List.reverse_perm seen).trans hsp).map _
  have hul:=hup.length_eq;rw [Zas,List.length_reverse] at hul;rw [hul] at H2 ⊢;rw [F60.k6];cases o with
  | none =>
   obtain ⟨e,_⟩:=H2.own _ (Zaj ..);omega
  | some id =>
   refine zen (k:=0) (s:=s) H2 rfl (by rw [hup.length_eq]) (by omega) (fun a ha=>⟨((hw a (hup.mem_iff.1 ha)).1.mono fun x hx=>Zan _ hx).at H2,(hw a (hup.mem_iff.1 ha)).2⟩) ((hup.map _).nodup_iff.2 hnd) (hq.trans hup.symm) hs fun h4 H4 => ?_;rw [H4.zh3 (k:=0) rfl,<- hq.length_eq];rw [<- hq.length_eq] at H4
   refine F60.L7 (fun m x4 x10 h' nx'=>∃ (i:Nat) (o':Option Pa),x10=I i/\x4=xu o' 2 i/\m=s.length-i/\i<=s.length/\Hp h0 h' nx' (.gro o' 2 i (jO (s.take i))::.gro (some id) 2 s.length (jO s)::.iter it g (fM q).length seen (fM q).length::L)) (m:=s.length) (by rw [hq.length_eq];omega)
    ⟨0,none,rfl,rfl,by omega,by omega,H4.oh 2⟩ ?_
   rintro m z4 z5 z10 z11 h5 nx5 R' ⟨i,o',rfl,rfl,rfl,hi,H5⟩ hR';by_cases hlt:i<s.length
   case neg =>
    have ei:i=s.length:=by omega
    subst ei;simp only [jk,show ¬ (s.length:Int)<(s.length:Int) by omega,decide_false,zE];rw [F60.k14];rw [Zap (Zai _)] at H5;exact hK _ _ _ [.gro (some id) 2 s.length (jO s),.iter it g (fM q).length seen (fM q).length] H5
   simp only [jk,show (i:Int)<(s.length:Int) by omega,decide_true,zD];have hx:s[i]? = some s[i]:=List.getElem?_eq_getElem hlt;obtain ⟨iu,ou,e1,e2⟩:=zwm (k:=1) H5 rfl hx;rw [e1,e2];refine H5.alloc fun b5 h6 nx6 H6 => ?_;refine H6.qo (k:=0) (n:=2) rfl rfl rfl fun h7 H7 => ?_;rw [H7.zk (k:=0) (n:=2) rfl rfl];refine H7.yc (l:=[s[i].1,.bool s[i].2.2]) rfl fun tb h8 nx8 H8 => ?_;rw [zan];refine H8.appN (k:=2) (o:=o') (c:=1) (esz:=2) (new:=[s[i].1,.bool s[i].2.2]) rfl (yw.rd (l:=[s[i].1,.bool s[i].2.2]) (n:=1) (e:=2) (H8.own _ (Zaj ..)) rfl) rfl (by rw [List.all_cons,(hw _ (hq.mem_iff.1 (Zal hlt))).1.jc];rfl) (by decide) (by decide) (by rw [hq.length_eq] at hlt;omega) fun o'' h9 nx9 _ H9 => ?_;rw [jf (by rw [hq.length_eq] at hlt;omega)];refine hR' (s.length-(i+1)) _ _ _ _ _ _ (by omega) ⟨i+1,o'',by rfl,rfl,rfl,by omega,?_⟩;have ef:jO (s.take i)++[s[i].1,.bool s[i].2.2]=jO (s.take (i+1)):=by rw [Zaq,hx];unfold jO;rw [Zch];rfl
   rw [ef] at H9;exact H9.drop.drop
 ·have hi':i<q.length:=by rw [<- hel];exact hi
  have hx:q[i]? = some q[i]:=List.getElem?_eq_getElem hi';have hent:(fM q)[i]? = some (.str (ku q[i].2),agP q[i]):=by rw [fM,List.getElem?_map,hx];rfl
  rw [hent] at hab;cases hab
  simp only [jA,zD];rw [H3.entry (k:=1) (j:=k+2) rfl (by simpa using hg) hent];simp only [jB];refine H3.alloc fun b5 h6 nx6 H6 => ?_;refine H6.qo (k:=0) (n:=2) rfl rfl rfl fun h7 H7 => ?_;rw [H7.zk (k:=0) (n:=2) rfl rfl];refine H7.yc (l:=[q[i].1,.bool q[i].2.2]) rfl fun tb h8 nx8 H8 => ?_;rw [zan];refine H8.appN (k:=2) (o:=o) (c:=1) (esz:=2) (new:=[q[i].1,.bool q[i].2.2]) rfl (yw.rd (l:=[q[i].1,.bool q[i].2.2]) (n:=1) (e:=2) (H8.own _ (Zaj ..)) rfl) rfl (by rw [List.all_cons,(hw _ (Zal hi')).1.jc];rfl) (by decide) (by decide) (by omega) fun o'' h9 nx9 _ H9 => ?_;have hst:=zh2 hi' hnin;refine hR (uP q.length (i::seen)).length _ _ _ _ _ (by omega) ⟨i::seen,o'',rfl,rfl,by simp;omega,List.nodup_cons.2 ⟨hnin,hns⟩,fun j hj => ?_,?_⟩
  ·rcases List.mem_cons.1 hj with rfl | r
   ·exact hi'
   ·exact hse j r
  ·have ef:jO (seen.reverse.map fun i=>q.getD i (.undef,([],false)))++[q[i].1,.bool q[i].2.2]=jO ((i::seen).reverse.map fun i=>q.getD i (.undef,([],false))):=by
    rw [List.reverse_cons,Zbk];simp [jO,hx]
   rw [ef] at H9;exact H9.drop.drop
end Go.Ev
namespace Go.Ev
open Go Go.Proofs
theorem zs3 {P:Program} {B:Nat} {f:Nat} {args:List AV} {h h0:T Blk} {nx:Pa} {r:AV} (hk0:uR h0 h) (hc:∀ K:Kw Prop,(∀ v h' nx',Fr h' nx'->uR h0 h'->rH h0 h' v r->K v h' nx'=.ok True)->(CS P B).fn f (.of f) args h nx K=.ok True)
  {E:Env} {w:World} {vs:Array Value} (H:HR P B E h nx w) (hv:VRL E args vs.toList) :
  ∃ fn:Func,P.funcs[f]? = some fn/\fn.body.isNone=false/\(fn.name == "runtime.NumGoroutine")=false/\∀ n,CallsIn Fence.wide n P f vs w fun e w'=>∃ u E',e=.returned u/\VR E' r u/\HR P B E' h0 nx w'/\Ex E E' w w':=by
 have hk:=hc (fun v h' nx'=>open Classical in if uR h0 h'/\rH h0 h' v r then .ok True else .no 0) (fun v h' nx' _ h1 h2=>if_pos ⟨h1,h2⟩);rw [sS] at hk;obtain ⟨fn,h1,h2,h3,h4⟩:=hk.1 E w vs H hv;refine ⟨fn,h1,h2,h3,fun n=>(h4 n).mono fun e w' he => ?_⟩
 cases e <;> first
  | exact he.elim
  |(obtain ⟨av,h',nx',E',k1,k2,k3,k4⟩:=he
    have k1':(open Classical in if uR h0 h'/\rH h0 h' av r then (Out.ok True:Out Prop) else .no 0)=.ok True:=k1;split at k1'
    ·rename_i hh;obtain ⟨hkp,hF⟩:=hh;have H0:=H.zfm hk0;obtain ⟨r1,r2,_⟩:=vJ H0 k3 k4 hkp;exact ⟨_,_,rfl,zea H0 k3 k4 hkp hF k2,r1,r2⟩
    ·cases k1')
theorem zs4 {h0 h:T Blk} {nx:Pa} {L:List Ob} {o:Option Pa} {n k e:Nat} {l l':List AV} (H:Hp h0 h nx L) (hk:L[k]? = some (.gro o e n l)) (hl:l'.length=l.length) (hs:l'.all jc=true) (hf:∀ (i:Nat) (v v':AV),l[i]? = some v->l'[i]? = some v'->rH h0 h v v'):rH h0 h (xu o e n) (.lst e n l'):=by
 have own:=H.own _ (Zaa hk);have hoff:=H.off;cases o with
 | none =>
  obtain ⟨rfl,rfl⟩:=own;obtain rfl:l'=[]:=by simpa using hl
  exact .zai e
 | some id =>
  obtain ⟨t,h1,h2,h3⟩:=own;refine .sl _ _ _ _ _ true _ t _ (hoff id (List.mem_flatMap.2 ⟨_,Zaa hk,by simp [Ob.names]⟩)) trivial h1 (by omega) (by rw [hl];exact h2) hs fun i v hi => ?_;have hil:i<l.length:=by rw [<- hl];exact (List.getElem?_eq_some_iff.1 hi).1
  have:=zW t 0 (n*e) i (by rw [<- h2];exact hil);rw [h3,List.getElem?_eq_getElem hil] at this;rw [<- Option.some.inj this];exact hf i _ _ (List.getElem?_eq_getElem hil) hi
end Go.Ev
