import Derived.Test.YtdclaaahnodljaaGreatDoorEvD
import Derived.Test.YtdclaaahnodljaaGreatDoorCodea
import GoSem.Core.Next
import Derived.Lib.Small
import Derived.Lib.Walk
import Derived.Deep.Draws
import Derived.Lib.Agree
import Derived.Shelf.SlLaysF
import Derived.Shelf.RegionOpenPlain
import Derived.WalkKit
import Derived.Deep.LoopGhost
import Derived.Test.YtdclaaahnodljaaGreatDoorProg
import Derived.Test.YtdclaaahnodljaaGreatDoorEvC
import Derived.Test.YtdclaaahnodljaaGreatDoorLaws
import Derived.Sort.Grow
import Derived.Sort.Row
import Derived.KernelRfl
set_option linter.unusedSimpArgs false
set_option linter.unusedVariables false
noncomputable section
namespace Go.Ev
open Go
def jZ (q:List (Int×Int)):List AV:=q.flatMap fun p=>[I p.1,I p.2]
abbrev ql (q:List (Int×Int)):AV:=.lst 2 q.length (jZ q)
theorem zl1 (q:List (Int×Int)):(jZ q).length=q.length*2:=by
 induction q with
 | nil=>rfl
 | cons p q ih=>rw [jZ,Zbc,Zas,<- jZ,ih];simp;omega
theorem zl5 (a b:List (Int×Int)):jZ (a++b)=jZ a++jZ b:=by simp [jZ]
theorem pR:∀ (q:List (Int×Int)) (i:Nat),(jZ q).drop (i*2)=jZ (q.drop i)
 | q,0=>by simp
 | [],i+1=>by simp [jZ]
 | p::q,i+1=>by
  rw [Zcu,<- pR q i,show (i+1)*2=i*2+1+1 by omega]
  rfl
theorem zbu:∀ (q:List (Int×Int)) (i:Nat),(jZ q).take (i*2)=jZ (q.take i)
 | q,0=>by simp [jZ]
 | [],i+1=>by simp [jZ]
 | p::q,i+1=>by
  rw [List.take_succ_cons,show (i+1)*2=i*2+1+1 by omega];show I p.1::I p.2::(jZ q).take (i*2)=_;rw [zbu q i]
  rfl
theorem zc2 {q:List (Int×Int)}:∀ v∈jZ q,∃ x,v=I x:=fun v hv=>by
 obtain ⟨p,_,h⟩:=List.mem_flatMap.1 hv;simp only [Zad,Zcb,or_false] at h;rcases h with rfl | rfl
 ·exact ⟨_,rfl⟩
 ·exact ⟨_,rfl⟩
theorem zbv {q:List (Int×Int)}:∀ v∈jZ q,fK v=true:=fun v hv=>by obtain ⟨x,rfl⟩:=zc2 v hv;rfl
theorem ziy {q:List (Int×Int)}:(jZ q).all jf=true:=List.all_eq_true.2 fun v hv=>by obtain ⟨x,rfl⟩:=zc2 v hv;rfl
theorem dP (q:List (Int×Int)):fK (ql q)=true:=vQ zbv
theorem jR {q:List (Int×Int)} {i:Nat} (h:i<q.length):(jZ q).drop (i*2)=I q[i].1::I q[i].2::(jZ q).drop ((i+1)*2):=by
 rw [pR,pR,Zap h];rfl
theorem aS {K:AV->OP} {id:Pa} {off:Nat}:yR 1 2 (.ptr id off) (I 0) K=K (.ptr id off):=by
 show (bif Nat.ble (0+1) 2 then qo (off+0*1) (fun o=>K (.ptr id o)) else .no 14)=_;rw [Zac (by omega),zZ];simp
theorem sAx1 {K:AV->OP} {id:Pa} {off:Nat}:yR 1 2 (.ptr id off) (I 1) K=K (.ptr id (off+1)):=by
 show (bif Nat.ble (1+1) 2 then qo (off+1*1) (fun o=>K (.ptr id o)) else .no 14)=_;rw [Zac (by omega),zZ];simp
theorem zy9 {a b:AV} {l:List AV} {K:AV->OP}:yR 1 2 (.fp (a::b::l)) (I 0) K=K (.fp (a::b::l)):=nr rfl
theorem zza {a b:AV} {l:List AV} {K:AV->OP}:yR 1 2 (.fp (a::b::l)) (I 1) K=K (.fp (b::l)):=nr rfl
theorem sLdF {a:AV} {l:List AV} {h:T Blk} {K:AV->OP}:zB (.fp (a::l)) h K=K a:=nr rfl
theorem qD {a b:AV} {l:List AV} {h:T Blk} {K:AV->OP}:zK 2 (.fp (a::b::l)) h K=K (.agg [a,b]):=nr rfl
theorem zue {a b c d:Int} {K:AV->OP}:zf .eql (.agg 2) (.agg [I a,I b]) (.agg [I c,I d]) K=K (.bool (decide (a=c)&&decide (b=d))):=by
 have e:zf .eql (.agg 2) (.agg [I a,I b]) (.agg [I c,I d]) K=K (.bool (ieq a c&&ieq b d)):=by
  have e1:uT [I a,I b] [I c,I d]=some (ieq a c&&ieq b d):=by
   show (bif ieq a c then (bif ieq b d then some true else some false) else some false)=_;cases ieq a c <;> cases ieq b d <;> rfl
  show (match uT [I a,I b] [I c,I d] with | some r=>pA .eql r K | none=>Out.no 5)=_;rw [e1]
  rfl
 rw [e,q9,q9]
 congr 3
theorem zek {n i:Nat} {l:List AV} {op:AV->OP} (hn:1<=n) (hi:i<=n):kZ 2 (.lst 2 n l) none (some (I (i:Int))) none op=op (.lst 2 i (l.take (i*2))):=by
 show (bif Nat.beq 2 2&&Nat.ble 1 n then (match bnd (some (I (i:Int))) n n with | none=>Out.no 17 | some h=>match bnd none h 0 with | none=>.no 17 | some q=>op (.lst 2 (h-q) ((l.drop (q*2)).take ((h-q)*2)))) else .no 17)=_;rw [Zac hn];have:bnd (some (I (i:Int))) n n=some i:=by
  show (bif Nat.ble i n then some i else none)=_;rw [Zac hi];rfl
 rw [this];show op (.lst 2 (i-0) ((l.drop (0*2)).take ((i-0)*2)))=_;simp
theorem bU {E:List (Int×Int)} {i:Nat} (h:i<=E.length):AV.lst 2 i ((jZ E).take (i*2))=ql (E.take i):=by
 rw [zbu];show _=AV.lst 2 (E.take i).length (jZ (E.take i));rw [Zbb,Zci h]
end Go.Ev
namespace Go.Ev
open Go Go.Proofs
theorem yj {B:Nat}:m6 Tryz.prog B Prop:=zfh mixed
variable {B:Nat}
end Go.Ev
namespace Go.Ev
open Go Go.Proofs
variable {B:Nat}
theorem uJ (b:Bool) (e:Int):Pure Tryz.prog B 44 [.bool b,I e] (· = I (if b then e else 0)):=by
 intro p h nx K hK;refine zL zP yj 9 fun hf => ?_;rw [F44.go];cases b <;> simp (disch:=omega) only [jd,fH,fJ,dh,qg,jm,fO,vk,vw,zT,zR,zC,zD,y9,yH,yW,jA,yK,yL,yN,jH,y8,y7,y3,zE,yM,zY,zA,decide_true,decide_false,Zae,Zag,yV] <;> exact hK _ rfl hf
def yX:List Int->Int
 | []=>0
 | e::l=>if e≠0 then e else yX l
theorem uF:∀ (l:List Int) (i:Nat),(∀ e∈l.take i,e=0)->yX l=yX (l.drop i)
 | l,0,_=>rfl
 | [],_+1,_=>rfl
 | e::l,i+1,h=>by
  have h0:e=0:=h e (by simp);rw [yX,if_neg (by simp [h0]),Zcu];exact uF l i fun x hx=>h x (by simp [hx])
theorem wD {l:List Int} (hl:l.length<=1000000):Pure Tryz.prog B 42 [encI l] (· = I (yX l)):=by
 intro p h nx K hK;refine zL zP yj 10000000 fun hf => ?_;rw [F42.go];simp (disch:=omega) only [jd,fH,fJ,dh,qg,jm,fO,vk,vw,zT,zR,zC,zD,y9,yH,yW,jA,yK,yL,yN,jH,y8,y7,y3,zE,yM,zY,zA,decide_true,decide_false,Zae,Zag,yV];refine F42.L1 (fun m z5 h' nx'=>∃ i:Nat,z5=I i/\l.length-i=m/\i<=l.length/\h'=h/\nx'=nx/\∀ e∈l.take i,e=0) (m:=l.length) (by omega) ⟨0,rfl,rfl,by omega,rfl,rfl,by simp⟩ ?_;rintro m z1 z2 z5 z6 z7 _ _ R ⟨i,rfl,rfl,hi,rfl,rfl,htk⟩ hR;simp (disch:=omega) only [jd,fH,fJ,dh,qg,jm,fO,vk,vw,zT,zR,zC,zD,y9,yH,yW,jA,yK,yL,yN,jH,y8,y7,y3,zE,yM,zY,zA,decide_true,decide_false,Zae,Zag,yV];by_cases hlt:i<l.length
 ·simp only [show (i:Int)<(l.length:Int) by omega,decide_true,zC];have hx:l[i]? = some l[i]:=List.getElem?_eq_getElem hlt;rw [dw rfl hlt,ldL (sH hx)];simp (disch:=omega) only [jd,fH,fJ,dh,qg,jm,fO,vk,vw,zT,zR,zC,zD,y9,yH,yW,jA,yK,yL,yN,jH,y8,y7,y3,zE,yM,zY,zA,decide_true,decide_false,Zae,Zag,yV];have hd:l.drop i=l[i]::l.drop (i+1):=Zap hlt;by_cases h0:l[i]=0
  ·simp only [h0,decide_true,Zae,zD];refine hR _ _ _ _ _ _ _ _ (by omega) ⟨i+1,rfl,rfl,by omega,rfl,rfl,fun e he => ?_⟩;rw [Zan,hx] at he;rcases List.mem_append.1 he with q | q
   ·exact htk e q
   ·simp at q;rw [q];exact h0
  ·simp only [h0,decide_false,Zag,zC];refine hK _ ?_ hf;rw [uF l i htk,hd,yX,if_pos h0]
 ·simp only [show ¬ (i:Int)<(l.length:Int) by omega,decide_false,zD];rw [F42.k8];refine hK _ ?_ hf;rw [uF l i htk,Zbn (by omega)];rfl
theorem zpm {a b:List Int} (ha:a.length<=1000000000):Pure Tryz.prog B 190 [encI a,encI b] (· = .bool (decide (a=b))):=by
 intro p h nx K hK;refine zL zP yj (a.length+2) fun hf => ?_;rw [jv.go];simp (disch:=omega) only [jd,fH,fJ,dh,qg,jm,fO,vk,vw,zT,zR,zC,zD,y9,yH,yW,jA,yK,yL,yN,jH,y8,y7,y3,zE,yM,zY,zA,decide_true,decide_false,Zae,Zag,yV];by_cases hl:a.length=b.length
 ·simp only [hl,decide_true,Zae,zD];refine jv.L2 (fun m z6 h' nx'=>∃ i:Nat,z6=I i/\a.length-i=m/\i<=a.length/\h'=h/\nx'=nx/\a.take i=b.take i) (m:=a.length) (by omega) ⟨0,rfl,by simp,by omega,rfl,rfl,by simp⟩ ?_;rintro m z2 z3 z6 z7 z8 _ _ R ⟨i,rfl,rfl,hi,rfl,rfl,htk⟩ hR;simp (disch:=omega) only [jd,fH,fJ,dh,qg,jm,fO,vk,vw,zT,zR,zC,zD,y9,yH,yW,jA,yK,yL,yN,jH,y8,y7,y3,zE,yM,zY,zA,decide_true,decide_false,Zae,Zag,yV];by_cases hlt:i<a.length
  ·have hb:i<b.length:=by omega
   simp only [show (i:Int)<(b.length:Int) by omega,decide_true,zC];rw [dw rfl hlt,ldL (sH (List.getElem?_eq_getElem hlt)),dw rfl hb,ldL (sH (List.getElem?_eq_getElem hb))];simp (disch:=omega) only [jd,fH,fJ,dh,qg,jm,fO,vk,vw,zT,zR,zC,zD,y9,yH,yW,jA,yK,yL,yN,jH,y8,y7,y3,zE,yM,zY,zA,decide_true,decide_false,Zae,Zag,yV];by_cases he:a[i]=b[i]
   ·simp only [he,decide_true,Zae,zD];refine hR (a.length-(i+1)) _ _ _ _ _ _ _ (by omega) ⟨i+1,rfl,rfl,by omega,rfl,rfl,?_⟩;rw [Zan,Zan,htk,List.getElem?_eq_getElem hlt,List.getElem?_eq_getElem hb,he]
   ·simp only [he,decide_false,Zag,zC];refine hK _ ?_ hf;rw [decide_eq_false];rintro rfl;exact he rfl
  ·simp only [show ¬ (i:Int)<(b.length:Int) by omega,decide_false,zD];rw [jv.k9];refine hK _ ?_ hf;rw [Zal (by omega),Zal (by omega)] at htk;rw [decide_eq_true htk]
 ·have h1:¬ (a.length:Int)=b.length:=by omega
  simp only [h1,decide_false,Zag,zC];refine hK _ ?_ hf;rw [decide_eq_false];rintro rfl;exact hl rfl
theorem zf0 {h0 h:T Blk} {nx:Pa} {L:List Ob} {k:Nat} {x p:Pa} {l:List Int} {prev:List (List Int)} {K:Kw Prop} (H:Hp h0 h nx L) (hk:L[k]? = some (.arr x [encI l])) (hp:prev.length<=1000000) (hw:∀ q∈prev,q.length<=1000000)
  (hK:K (.bool (decide (l∈prev))) h nx=.ok True):(CS Tryz.prog B).fn 196 p [ji prev,.fn 197 (.of 197) [.ptr x 0]] h nx K=.ok True:=by
 refine yQ (p:=.of 196) (K:=K) (zL zP yj 9 fun hf => ?_) fun _ _ _ _ q=>q;rw [eG.go];refine yQ (p:=.of 238) (K:=fun v1 h2 n3=>zf .geq .int v1 (I 0) fun v4=>K v4 h2 n3) (zL zP yj 10000000 fun hf => ?_) fun _ _ _ _ q=>q;rw [gy.go];simp (disch:=omega) only [jd,fH,fJ,dh,qg,jm,fO,vk,vw,zT,zR,zC,zD,y9,yH,yW,jA,yK,yL,yN,jH,y8,y7,y3,zE,yM,zY,zA,decide_true,decide_false,Zae,Zag,yV];refine gy.L1 (fun m z5 h' nx'=>∃ i:Nat,z5=I i/\prev.length-i=m/\i<=prev.length/\h'=h/\nx'=nx/\l∉prev.take i) (m:=prev.length) (by omega) ⟨0,rfl,rfl,by omega,rfl,rfl,by simp⟩ ?_;rintro m z2 z3 z5 z6 z7 _ _ R ⟨i,rfl,rfl,hi,rfl,rfl,htk⟩ hR;simp (disch:=omega) only [jd,fH,fJ,dh,qg,jm,fO,vk,vw,zT,zR,zC,zD,y9,yH,yW,jA,yK,yL,yN,jH,y8,y7,y3,zE,yM,zY,zA,decide_true,decide_false,Zae,Zag,yV];by_cases hlt:i<prev.length
 ·simp only [show (i:Int)<(prev.length:Int) by omega,decide_true,zC];have hx:prev[i]? = some prev[i]:=List.getElem?_eq_getElem hlt;rw [dw rfl hlt,ldL (getT hx),vH];refine yQ (p:=.of 197) (zL zP yj 9 fun hf => ?_) fun _ _ _ _ q=>q;show zM tbl 9 _ (Pa.of 197) [encI prev[i],.ptr x 0] _ _ _=_;rw [eF.go,H.load (k:=k) (i:=0) hk rfl];refine zpm (Zbf (hw _ (Zao hlt)) (by omega)) _ _ _ _ ?_;rintro _ rfl _;by_cases he:prev[i]=l
  ·simp only [he,decide_true,zC,vw,show (0:Int)<=(i:Int) by omega];rw [decide_eq_true (he ▸ Zao hlt)] at hK;exact hK
  ·simp only [he,decide_false,zD];refine hR _ _ _ _ _ _ _ _ (by omega) ⟨i+1,rfl,rfl,by omega,rfl,rfl,fun q => ?_⟩;rw [Zan,hx] at q;rcases List.mem_append.1 q with q | q
   ·exact htk q
   ·simp at q;exact he q.symm
 ·simp only [show ¬ (i:Int)<(prev.length:Int) by omega,decide_false,zD];rw [gy.k8];rw [Zal (by omega)] at htk;rw [decide_eq_false htk] at hK;simp only [vw,show ¬ (0:Int) <= -1 by omega,decide_false];exact hK
def jP (cells:Int):Option Int->List Int->Int
 | _,[]=>0
 | p,c::l=>if c<0\/cells<=c then 10 else if p.any (fun q=>decide (c<=q)) then 11 else jP cells (some c) l
def gO (cells:Int) (prev:List (List Int)) (l:List Int):Int:=if l=[] then 12 else if jP cells none l≠0 then jP cells none l else if l∈prev then 9 else 0
def uX (cells:Int):List (List Int)->List (List Int)->Int
 | _,[]=>0
 | prev,l::r=>if gO cells prev l≠0 then gO cells prev l else uX cells (prev++[l]) r
def jX (cells:Int) (lines:List (List Int)):Int:=if cells<1\/256<cells then 3 else if 128<lines.length then 5 else uX cells [] lines
def pv (l:List Int) (k:Nat):Option Int:=if k=0 then none else l[k-1]?
theorem zki {l:List Int} {k:Nat} (h:k<l.length):pv l (k+1)=some l[k]:=by simp [pv,h]
theorem zsj {n i:Nat} {l:List AV} {op:AV->OP} (hn:1<=n) (hi:i<=n):kZ 1 (.lst 1 n l) none (some (I (i:Int))) none op=op (.lst 1 i (l.take i)):=by
 show (bif Nat.beq 1 1&&Nat.ble 1 n then (match bnd (some (I (i:Int))) n n with | none=>Out.no 17 | some h=>match bnd none h 0 with | none=>.no 17 | some q=>op (.lst 1 (h-q) ((l.drop (q*1)).take ((h-q)*1)))) else .no 17)=_;rw [Zac hn];have:bnd (some (I (i:Int))) n n=some i:=by
  show (bif Nat.ble i n then some i else none)=_;rw [Zac hi];rfl
 rw [this];show op (.lst 1 (i-0) ((l.drop (0*1)).take ((i-0)*1)))=_;simp
theorem gI {P:Program} {f:Nat} {p id:Pa} {h0 h:T Blk} {nx:Pa} {L:List Ob} {k:Nat} {l:List Int} {K:Kw Prop} {Q:AV->Prop} (H:Hp h0 h nx L) (hk:L[k]? = some (.arr id (l.map I))) (hq:∀ B,Pure P B f [encI l] Q) (hpl:∀ v,Q v->Plain v)
  (hK:∀ v,Q v->K v h nx=.ok True):(CS P B).fn f p [.sl id 0 l.length (some l.length) 1] h nx K=.ok True :=
 m7 (.cons (yu.frz (H.own _ (Zaa hk)) (T.fB _ id) (Zah _) (by simp) fun v hv=>by obtain ⟨x,_,rfl⟩:=List.mem_map.1 hv;rfl) .nil) (by
  have:=u7 l;simp only [nns,fK.nn this,Bool.and_self]) hq hpl fun v hv _=>hK v hv
theorem zpn {h:T Blk} {nx:Pa} {l:List Int} {g:Nat} {p q:Pa} {cap:List AV} {pr:Int->Bool} {K:Kw Prop} (hl:l.length<=1000000) (hcl:∀ x∈l,∀ K:Kw Prop,K (.bool (pr x)) h nx=.ok True->(CS Tryz.prog B).fn g q (I x::cap) h nx K=.ok True)
  (hK:K (.bool (l.any pr)) h nx=.ok True):(CS Tryz.prog B).fn 66 p [encI l,.fn g q cap] h nx K=.ok True:=by
 refine yQ (p:=.of 66) (K:=K) (zL zP yj 9 fun hf => ?_) fun _ _ _ _ q=>q;rw [F66.go];refine yQ (p:=.of 127) (K:=fun v1 h2 n3=>zf .geq .int v1 (I 0) fun v4=>K v4 h2 n3) (zL zP yj 10000000 fun hf => ?_) fun _ _ _ _ q=>q;rw [ug.go];simp (disch:=omega) only [jd,fH,fJ,dh,qg,jm,fO,vk,vw,zT,zR,zC,zD,y9,yH,yW,jA,yK,yL,yN,jH,y8,y7,y3,zE,yM,zY,zA,decide_true,decide_false,Zae,Zag,yV];refine ug.L1 (fun m z5 h' nx'=>∃ i:Nat,z5=I i/\l.length-i=m/\i<=l.length/\h'=h/\nx'=nx/\(l.take i).any pr=false) (m:=l.length) (by omega) ⟨0,rfl,rfl,by omega,rfl,rfl,by simp⟩ ?_;rintro m z2 z3 z5 z6 z7 _ _ R ⟨i,rfl,rfl,hi,rfl,rfl,htk⟩ hR;simp (disch:=omega) only [jd,fH,fJ,dh,qg,jm,fO,vk,vw,zT,zR,zC,zD,y9,yH,yW,jA,yK,yL,yN,jH,y8,y7,y3,zE,yM,zY,zA,decide_true,decide_false,Zae,Zag,yV];by_cases hlt:i<l.length
 ·simp only [show (i:Int)<(l.length:Int) by omega,decide_true,zC];have hx:l[i]? = some l[i]:=List.getElem?_eq_getElem hlt;rw [dw rfl hlt,ldL (sH hx),vH];refine hcl _ (Zao hlt) _ ?_;cases he:pr l[i] with
  | true =>
   simp only [zC,vw,show (0:Int)<=(i:Int) by omega,decide_true];rw [List.any_eq_true.2 ⟨_,Zao hlt,he⟩] at hK;exact hK
  | false =>
   simp only [zD];refine hR _ _ _ _ _ _ _ _ (by omega) ⟨i+1,rfl,rfl,by omega,rfl,rfl,?_⟩;rw [Zan,hx,List.any_append,htk];simp [he]
 ·simp only [show ¬ (i:Int)<(l.length:Int) by omega,decide_false,zD];rw [ug.k8];rw [Zal (by omega)] at htk;rw [htk] at hK;simp only [vw,show ¬ (0:Int) <= -1 by omega,decide_false];exact hK
theorem zel {a b:Int} {l:List Int} (hl:l.length<=1000000):Pure Tryz.prog B 70 [I a,I b,encI l] (· = I (if l.any (fun x=>decide (x<a)||decide (b<x)) then 3 else 0)):=by
 refine yF fun h nx K H0 hK=>zL zP yj 1000 fun hf => ?_;rw [F70.go];refine H0.box (l:=[I a]) rfl fun x1 h1 nx1 H1 => ?_;refine H1.box (l:=[I b]) rfl fun x2 h2 nx2 H2 => ?_;refine zpn (pr:=fun x=>decide (x<a)||decide (b<x)) hl (fun x _ K hK => ?_) ?_
 ·refine yQ (p:=.of 131) (K:=K) (zL zP yj 9 fun hf => ?_) fun _ _ _ _ q=>q;show zM tbl 9 _ (Pa.of 131) [I x,.ptr x1 0,.ptr x2 0] _ _ _=_;rw [eH.go,H2.load (k:=1) (i:=0) rfl rfl];by_cases c:x<a
  ·simp only [jm,c,decide_true,yW,zT];simpa [c] using hK
  ·simp only [jm,c,decide_false,yH];rw [H2.load (k:=0) (i:=0) rfl rfl];simp only [vk,zR];simpa [c] using hK
 ·refine uJ _ _ _ _ _ _ ?_;rintro _ rfl _;exact hK _ _ _ _ _ H2 (zH rfl) rfl
theorem zsk {cells:Int} {lines:List (List Int)} {i:Nat} {l:List Int} (hi:lines[i]? = some l) (hn:lines.length<=1000000) (hw:∀ q∈lines,q.length<=1000000):Pure Tryz.prog B 136 [.agg [I cells,ji lines],I i] (· = I (gO cells (lines.take i) l)):=by
 refine yF fun h nx K H0 hK=>zL zP yj 10000000 fun hf => ?_;have hlt:i<lines.length:=(List.getElem?_eq_some_iff.1 hi).1;have hlw:=hw l (Zaa hi);rw [jq.go];refine H0.box (l:=[I cells,ji lines]) rfl fun bx h1 nx1 H1 => ?_;rw [sFx,H1.load (k:=0) (i:=0+1) rfl rfl,dw rfl hlt,ldL (getT hi)];refine H1.alloc fun x h2 nx2 H2 => ?_;refine H2.store (k:=0) rfl (by decide) rfl fun h3 H3 => ?_;rw [H3.load (k:=0) (i:=0) rfl rfl];simp (disch:=omega) only [jd,fH,fJ,dh,qg,jm,fO,vk,vw,zT,zR,zC,zD,y9,yH,yW,jA,yK,yL,yN,jH,y8,y7,y3,zE,yM,zY,zA,decide_true,decide_false,Zae,Zag,yV];have ret:∀ (v:Int) h' nx' L,v=gO cells (lines.take i) l->Hp h h' nx' L->K (I v) h' nx'=.ok True:=fun v h' nx' L hv H'=>by rw [hv];exact hK _ _ _ _ _ H' (zH rfl) rfl
 by_cases h0:l.length=0
 ·simp only [show (l.length:Int)=0 by omega,decide_true,zC];have hl0:l=[]:=Zbe h0;exact ret 12 _ _ _ (by rw [gO,if_pos hl0]) H3
 simp only [show ¬ (l.length:Int)=0 by omega,decide_false,zD];have hl0:l≠[]:=fun q=>h0 (by rw [q];rfl);have hcell:jP cells none l≠0->jP cells none l=gO cells (lines.take i) l:=fun h=>by rw [gO,if_neg hl0,if_pos h]
 rw [H3.load (k:=0) (i:=0) rfl rfl];simp (disch:=omega) only [jd,fH,fJ,dh,qg,jm,fO,vk,vw,zT,zR,zC,zD,y9,yH,yW,jA,yK,yL,yN,jH,y8,y7,y3,zE,yM,zY,zA,decide_true,decide_false,Zae,Zag,yV];refine jq.L2 (fun m z11 h' nx'=>∃ k:Nat,z11=I k/\l.length-k=m/\k<=l.length/\Hp h h' nx' [.arr x [encI l],.arr bx [I cells,ji lines]]/\jP cells none l=jP cells (pv l k) (l.drop k)) (m:=l.length) (by omega) ⟨0,rfl,rfl,by omega,H3,rfl⟩ ?_;rintro m z3 z5 z6 z7 z11 z12 z13 h1 nx1 R ⟨k,rfl,rfl,hk,H1,hce⟩ hR;simp (disch:=omega) only [jd,fH,fJ,dh,qg,jm,fO,vk,vw,zT,zR,zC,zD,y9,yH,yW,jA,yK,yL,yN,jH,y8,y7,y3,zE,yM,zY,zA,decide_true,decide_false,Zae,Zag,yV];by_cases hkt:k<l.length
 case neg =>
  simp only [show ¬ (k:Int)<(l.length:Int) by omega,decide_false,zD];have hz:jP cells none l=0:=by rw [hce,Zbn (by omega)];rfl
  rw [jq.k9,sFx,H1.load (k:=1) (i:=0+1) rfl rfl,zsj (by omega) (by omega)];have ep:AV.lst 1 i ((lines.map encI).take i)=ji (lines.take i):=by
   rw [<- List.map_take];simp [ji,Zci (Nat.le_of_lt hlt)]
  rw [ep];refine zf0 H1 (k:=0) rfl (by rw [Zbb];omega) (fun q hq=>hw q (Zcf hq)) ?_;refine uJ _ _ _ _ _ _ ?_;rintro _ rfl _;refine ret _ _ _ _ ?_ H1;have e9:gO cells (lines.take i) l=if l∈lines.take i then 9 else 0:=by rw [gO,if_neg hl0,if_neg (by rw [hz];simp)]
  rw [e9];by_cases hin:l∈lines.take i <;> simp [hin]
 simp only [show (k:Int)<(l.length:Int) by omega,decide_true,zC];have hxk:l[k]? = some l[k]:=List.getElem?_eq_getElem hkt;have hdk:l.drop k=l[k]::l.drop (k+1):=Zap hkt;rw [dw rfl hkt,ldL (sH hxk)]
 have tail:∀ (b1 b2:Bool) (z:AV) (z':AV) (Z:AV->T Blk->Pa->Out Prop),b1=(decide (l[k]<0\/cells<=l[k]))->b2=(pv l k).any (fun q=>decide (l[k]<=q)) ->
   (∀ (e:Int) h' nx',e=(if l[k]<0\/cells<=l[k] then 10 else if (pv l k).any (fun q=>decide (l[k]<=q)) then 11 else 0)->Hp h h' nx' [.arr x [encI l],.arr bx [I cells,ji lines]]->Z (I e) h' nx'=.ok True) ->
   (CS Tryz.prog B).fn 44 (.of 44) [.bool b2,I 11] h1 nx1 (fun v22 h23 n24=>yE 1 2 [(I 0)] [(0,1,I (if b1 then 10 else 0)),(1,1,v22)] h23 n24 fun v25 h26 n27=>(CS Tryz.prog B).fn 42 (.of 42) [v25] h26 n27 Z)=.ok True:=by
  intro b1 b2 z z' Z e1 e2 hZ;refine uJ _ _ _ _ _ _ ?_;rintro _ rfl _;refine H1.zu (l:=[I (if b1 then 10 else 0),I (if b2 then 11 else 0)]) rfl fun id h4 nx4 H4 => ?_;refine gI (l:=[if b1 then 10 else 0,if b2 then 11 else 0]) H4 (k:=0) rfl (fun B=>wD (by simp)) (fun v hv=>by rw [hv];exact .int _ _) ?_;rintro _ rfl;refine hZ _ _ _ ?_ H4.drop;subst e1 e2;by_cases c1:l[k]<0\/cells<=l[k]
  ·simp [c1,yX]
  ·cases c2:(pv l k).any (fun q=>decide (l[k]<=q)) <;> simp [c1,yX]
 have fin:∀ (e:Int) h' nx',e=(if l[k]<0\/cells<=l[k] then 10 else if (pv l k).any (fun q=>decide (l[k]<=q)) then 11 else 0)->Hp h h' nx' [.arr x [encI l],.arr bx [I cells,ji lines]] ->
   (zf .neq .int (I e) (I 0) fun v31=>zQ v31 (K (I e) h' nx') (R (jq.fr (.agg [I cells,ji lines]) (I i) (.ptr bx 0) z3 (.ptr x 0) (I k) (I l[k]) (I e) (.bool false) (encI l) (I l.length) (I ((k:Int)+1)) (.bool true) v31) h' nx'))=.ok True:=by
  intro e h' nx' he H';have hstep:jP cells none l=if e≠0 then e else jP cells (some l[k]) (l.drop (k+1)):=by
   rw [hce,hdk,jP,he];by_cases c1:l[k]<0\/cells<=l[k]
   ·simp [c1]
   ·cases c2:(pv l k).any (fun q=>decide (l[k]<=q)) <;> simp [c1]
  simp (disch:=omega) only [jd,fH,fJ,dh,qg,jm,fO,vk,vw,zT,zR,zC,zD,y9,yH,yW,jA,yK,yL,yN,jH,y8,y7,y3,zE,yM,zY,zA,decide_true,decide_false,Zae,Zag,yV];by_cases c:e=0
  ·simp only [c,decide_true,Zae,zD];refine hR _ _ _ _ _ _ _ _ _ _ (by omega) ⟨k+1,rfl,rfl,by omega,H',?_⟩;rw [hstep,if_neg (by simp [c]),zki hkt]
  ·simp only [c,decide_false,Zag,zC];rw [if_pos c] at hstep;exact ret _ _ _ _ (by rw [<- hcell (by rw [hstep];exact c),hstep]) H'
 have mid:∀ b1:Bool,b1=decide (l[k]<0\/cells<=l[k]) ->
   (CS Tryz.prog B).fn 44 (.of 44) [.bool b1,I 10] h1 nx1 (fun v10 h11 n12 =>
    sG (.bool (decide (0<(k:Int)))) true (fun k=>zB (.ptr x 0) h11 k) fun v14=>sG (.bool (decide (0<(k:Int)))) true (fun q=>q (I (k:Int))) fun v15=>sG (.bool (decide (0<(k:Int)))) true (fun k=>zf .sub .int v15 (I 1) k) fun v16=>sG (.bool (decide (0<(k:Int)))) true (fun k=>zO 1 v14 v16 k) fun v17=>sG (.bool (decide (0<(k:Int)))) true (fun k=>zB v17 h11 k) fun v18 =>
    sG (.bool (decide (0<(k:Int)))) true (fun q=>q (I l[k])) fun v19=>sG (.bool (decide (0<(k:Int)))) true (fun k=>zf .geq .int v18 v19 k) fun v20=>jN (.bool (decide (0<(k:Int)))) v20 (.bool false) fun v21 =>
    (CS Tryz.prog B).fn 44 (.of 44) [v21,I 11] h11 n12 fun v22 h23 n24=>yE 1 2 [(I 0)] [(0,1,v10),(1,1,v22)] h23 n24 fun v25 h26 n27=>(CS Tryz.prog B).fn 42 (.of 42) [v25] h26 n27 fun v28 h29 n30 =>
    zf .neq .int v28 (I 0) fun v31=>zQ v31 (K v28 h29 n30) (R (jq.fr (.agg [I cells,ji lines]) (I i) (.ptr bx 0) z3 (.ptr x 0) (I k) (I l[k]) v28 (.bool false) (encI l) (I l.length) (I ((k:Int)+1)) (.bool true) v31) h29 n30))=.ok True:=by
  intro b1 e1;refine uJ _ _ _ _ _ _ ?_;rintro _ rfl _;by_cases ck:0<k
  ·obtain ⟨k,rfl⟩:∃ j,k=j+1:=⟨k-1,by omega⟩;have hk1:k<l.length:=by omega
   have hxk1:l[k]? = some l[k]:=List.getElem?_eq_getElem hk1;simp only [show (0:Int)<((k+1:Nat):Int) by omega,decide_true,y9,zT];rw [H1.load (k:=0) (i:=0) rfl rfl,fH (by omega),dw (i:=k) (by omega) hk1,ldL (sH hxk1)];simp only [vw];exact tail _ _ .undef .undef _ e1 (by rw [zki hk1];rfl) fin
  ·obtain rfl:k=0:=by omega
   simp only [show ¬ (0:Int)<((0:Nat):Int) by omega,decide_false,jA,zR];exact tail _ _ .undef .undef _ e1 rfl fin
 by_cases c:l[k]<0
 ·simp only [jm,c,decide_true,yW,zT];exact mid true (by simp [c])
 ·simp only [jm,c,decide_false,yH,sFx];rw [H1.load (k:=1) (i:=0) rfl rfl];simp only [vw,zR];exact mid _ (by simp [c])
theorem zzb {cells:Int} {lines:List (List Int)} (hw:∀ q∈lines,q.length<=1000000):Pure Tryz.prog B 73 [.agg [I cells,ji lines]] (· = I (jX cells lines)):=by
 refine yF fun h nx K H0 hK=>zL zP yj 10000000 fun hf => ?_;rw [F73.go];refine H0.box (l:=[I cells,ji lines]) rfl fun bx h1 nx1 H1 => ?_;rw [sFx,H1.load (k:=0) (i:=0) rfl rfl,sFx,H1.load (k:=0) (i:=0+1) rfl rfl];simp only [zE,vk];refine H1.zu (l:=[I cells]) rfl fun id h2 nx2 H2 => ?_;simp only [zA,zE];rw [H2.load (k:=1) (i:=0+1) rfl rfl];simp only [zA,sFx];refine m7 (args':=[I 1,I 256,encI [cells]]) (.cons (.int _ _) (.cons (.int _ _) (.cons (yu.frz (H2.own (.arr id [I cells]) (by simp)) (T.fB _ id) (Zah _) rfl (fun v hv=>by simp at hv;subst hv;rfl)) .nil))) rfl (fun B=>zel (l:=[cells]) (by simp)) (fun v hv=>by rw [hv];exact .int _ _) ?_;rintro _ rfl _;rw [H2.load (k:=1) (i:=0+1) rfl rfl];simp only [zA,zE];refine uJ _ _ _ _ _ _ ?_;rintro _ rfl _;refine H2.zu (l:=[I (if [cells].any (fun x=>decide (x<1)||decide (256<x)) then 3 else 0),I (if decide (128<(lines.length:Int)) then 5 else 0)]) rfl fun id3 h3 nx3 H3 => ?_;refine gI (l:=[if [cells].any (fun x=>decide (x<1)||decide (256<x)) then 3 else 0,if decide (128<(lines.length:Int)) then 5 else 0]) H3 (k:=0) rfl (fun B=>wD (by simp)) (fun v hv=>by rw [hv];exact .int _ _) ?_;rintro _ rfl;have ret:∀ (v:Int) h' nx' L,v=jX cells lines->Hp h h' nx' L->K (I v) h' nx'=.ok True:=fun v h' nx' L hv H'=>by rw [hv];exact hK _ _ _ _ _ H' (zH rfl) rfl
 have ef:yX [if [cells].any (fun x=>decide (x<1)||decide (256<x)) then 3 else 0,if decide (128<(lines.length:Int)) then 5 else 0]=if cells<1\/256<cells then 3 else if 128<lines.length then 5 else 0:=by
  by_cases c:cells<1\/256<cells
  ·simp [yX,c]
  ·by_cases c2:128<lines.length
   ·have:(128:Int)<(lines.length:Int):=by omega
    simp [yX,c,c2,this]
   ·have:¬ (128:Int)<(lines.length:Int):=by omega
    simp [yX,c,c2,this]
 rw [ef];simp only [qg];by_cases hc:cells<1\/256<cells
 ·simp only [hc,if_true];simp only [show ¬ (3:Int)=0 by omega,decide_false,Zag,zC];exact ret 3 _ _ _ (by rw [jX,if_pos hc]) H3
 simp only [hc,if_false];by_cases hm:128<lines.length
 ·simp only [hm,if_true];simp only [show ¬ (5:Int)=0 by omega,decide_false,Zag,zC];exact ret 5 _ _ _ (by rw [jX,if_neg hc,if_pos hm]) H3
 simp only [hm,if_false,decide_true,Zae,zD];rw [H3.load (k:=2) (i:=0+1) rfl rfl];simp only [zE];have hs:jX cells lines=uX cells [] lines:=by rw [jX,if_neg hc,if_neg hm]
 refine F73.L2 (fun m z8 h' nx'=>∃ i:Nat,z8=I i/\lines.length-i=m/\i<=lines.length/\Hp h h' nx' [.arr bx [I cells,ji lines]]/\jX cells lines=uX cells (lines.take i) (lines.drop i)) (m:=lines.length) (by omega) ⟨0,rfl,rfl,by omega,H3.drop.drop,by simpa using hs⟩ ?_;rintro m z2 z4 z5 z8 z9 z10 h4 nx4 R ⟨i,rfl,rfl,hi,H4,he⟩ hR;simp (disch:=omega) only [jd,fH,fJ,dh,qg,jm,fO,vk,vw,zT,zR,zC,zD,y9,yH,yW,jA,yK,yL,yN,jH,y8,y7,y3,zE,yM,zY,zA,decide_true,decide_false,Zae,Zag,yV];by_cases hlt:i<lines.length
 case neg =>
  simp only [show ¬ (i:Int)<(lines.length:Int) by omega,decide_false,zD];rw [F73.k9];exact ret 0 _ _ _ (by rw [he,Zbn (by omega)];rfl) H4
 simp only [show (i:Int)<(lines.length:Int) by omega,decide_true,zC];obtain ⟨l,hx⟩:∃ l,lines[i]? = some l:=⟨_,List.getElem?_eq_getElem hlt⟩;have hd:lines.drop i=l::lines.drop (i+1):=by
  rw [Zap hlt];rw [List.getElem?_eq_getElem hlt] at hx;rw [Option.some.inj hx]
 have htake:lines.take (i+1)=lines.take i++[l]:=by rw [Zan,hx];rfl
 rw [H4.zi (k:=0) (n:=2) rfl rfl];refine zsk hx (by omega) hw _ _ _ _ ?_;rintro _ rfl _;simp only [qg];by_cases c:gO cells (lines.take i) l=0
 ·simp only [c,decide_true,Zae,zD];refine hR _ _ _ _ _ _ _ _ _ (by omega) ⟨i+1,rfl,rfl,by omega,H4,?_⟩;rw [he,hd,uX,if_neg (by rw [c];simp),htake]
 ·simp only [c,decide_false,Zag,zC];exact ret _ _ _ _ (by rw [he,hd,uX,if_pos c]) H4
end Go.Ev
namespace Go.Ev
def rP (cells:Nat) (l:List Int):Prop:=l≠[]/\l.Pairwise (· < ·)/\∀ c∈l,0<=c/\c<(cells:Int)
end Go.Ev
namespace Go.Ev
open Go Go.Proofs
variable {B:Nat}
theorem zkj (b:Bool) (e:Int):Pure Tryz.prog B 105 [.bool b,I e] (· = I (if b then e else 0)):=by
 intro p h nx K hK;refine zL zP yj 9 fun hf => ?_;rw [tY.go];cases b <;> simp (disch:=omega) only [jd,fH,fJ,dh,qg,jm,fO,vk,vw,zT,zR,zC,zD,y9,yH,yW,jA,yK,yL,yN,jH,y8,y7,y3,zE,yM,zY,zA,decide_true,decide_false,Zae,Zag,yV] <;> exact hK _ rfl hf
theorem zkk {l:List Int} (hl:l.length<=1000000):Pure Tryz.prog B 104 [encI l] (· = I (yX l)):=by
 intro p h nx K hK;refine zL zP yj 10000000 fun hf => ?_;rw [uh.go];simp (disch:=omega) only [jd,fH,fJ,dh,qg,jm,fO,vk,vw,zT,zR,zC,zD,y9,yH,yW,jA,yK,yL,yN,jH,y8,y7,y3,zE,yM,zY,zA,decide_true,decide_false,Zae,Zag,yV];refine uh.L1 (fun m z5 h' nx'=>∃ i:Nat,z5=I i/\l.length-i=m/\i<=l.length/\h'=h/\nx'=nx/\∀ e∈l.take i,e=0) (m:=l.length) (by omega) ⟨0,rfl,rfl,by omega,rfl,rfl,by simp⟩ ?_;rintro m z1 z2 z5 z6 z7 _ _ R ⟨i,rfl,rfl,hi,rfl,rfl,htk⟩ hR;simp (disch:=omega) only [jd,fH,fJ,dh,qg,jm,fO,vk,vw,zT,zR,zC,zD,y9,yH,yW,jA,yK,yL,yN,jH,y8,y7,y3,zE,yM,zY,zA,decide_true,decide_false,Zae,Zag,yV];by_cases hlt:i<l.length
 ·simp only [show (i:Int)<(l.length:Int) by omega,decide_true,zC];have hx:l[i]? = some l[i]:=List.getElem?_eq_getElem hlt;rw [dw rfl hlt,ldL (sH hx)];simp (disch:=omega) only [jd,fH,fJ,dh,qg,jm,fO,vk,vw,zT,zR,zC,zD,y9,yH,yW,jA,yK,yL,yN,jH,y8,y7,y3,zE,yM,zY,zA,decide_true,decide_false,Zae,Zag,yV];have hd:l.drop i=l[i]::l.drop (i+1):=Zap hlt;by_cases h0:l[i]=0
  ·simp only [h0,decide_true,Zae,zD];refine hR _ _ _ _ _ _ _ _ (by omega) ⟨i+1,rfl,rfl,by omega,rfl,rfl,fun e he => ?_⟩;rw [Zan,hx] at he;rcases List.mem_append.1 he with q | q
   ·exact htk e q
   ·simp at q;rw [q];exact h0
  ·simp only [h0,decide_false,Zag,zC];refine hK _ ?_ hf;rw [uF l i htk,hd,yX,if_pos h0]
 ·simp only [show ¬ (i:Int)<(l.length:Int) by omega,decide_false,zD];rw [uh.k8];refine hK _ ?_ hf;rw [uF l i htk,Zbn (by omega)];rfl
theorem cells_ok {cells:Int}:∀ {l:List Int} {p:Option Int},jP cells p l=0->(∀ c∈l,0<=c/\c<cells)/\l.Pairwise (· < ·)/\∀ q,p=some q->∀ c∈l,q<c
 | [],_,_=>⟨by simp,.nil,by simp⟩
 | c::l,p,h=>by
  rw [jP] at h;by_cases c1:c<0\/cells<=c
  ·rw [if_pos c1] at h;cases h
  rw [if_neg c1] at h;cases c2:p.any (fun q=>decide (c<=q)) with
  | true=>rw [c2,if_pos rfl] at h;cases h
  | false =>
   rw [c2,if_neg (by simp)] at h;obtain ⟨h1,h2,h3⟩:=cells_ok h;have h4:=h3 c rfl;refine ⟨fun x hx => ?_,List.pairwise_cons.2 ⟨h4,h2⟩,fun q hq x hx => ?_⟩
   ·rcases List.mem_cons.1 hx with rfl | hx
    ·omega
    ·exact h1 x hx
   ·subst hq;simp at c2;rcases List.mem_cons.1 hx with rfl | hx
    ·exact c2
    ·have:=h4 x hx;omega
theorem zf1 {cells:Int}:∀ {ls prev:List (List Int)},uX cells prev ls=0->∀ l∈ls,l≠[]/\jP cells none l=0
 | [],_,_,l,h=>by simp at h
 | a::ls,prev,h,l,hl=>by
  rw [uX] at h;by_cases c:gO cells prev a≠0
  ·rw [if_pos c] at h;exact absurd h c
  rw [if_neg c] at h;rcases List.mem_cons.1 hl with rfl | hl
  ·have c:gO cells prev l=0:=by simpa using c
   rw [gO] at c;by_cases c0:l=[]
   ·rw [if_pos c0] at c;cases c
   rw [if_neg c0] at c;refine ⟨c0,?_⟩;by_cases c1:jP cells none l≠0
   ·rw [if_pos c1] at c;exact c
   ·simpa using c1
  ·exact zf1 h l hl
theorem zpo {cells:Int} {lines:List (List Int)} (h:jX cells lines=0):∃ n:Nat,cells=n/\1<=n/\n<=256/\lines.length<=128/\∀ l∈lines,rP n l:=by
 rw [jX] at h;by_cases c1:cells<1\/256<cells
 ·rw [if_pos c1] at h;cases h
 rw [if_neg c1] at h;by_cases c2:128<lines.length
 ·rw [if_pos c2] at h;cases h
 rw [if_neg c2] at h;refine ⟨cells.toNat,by omega,by omega,by omega,by omega,fun l hl => ?_⟩;obtain ⟨h1,h2⟩:=zf1 h l hl;obtain ⟨h3,h4,_⟩:=cells_ok h2;exact ⟨h1,h4,fun c hc=>by have:=h3 c hc;omega⟩
theorem zwb (op:KW3->OP) (h:T Blk) (nx:Pa) (k:KW3):sGW (.bool true) true op h nx k=op k:=nr rfl
theorem zwc (op:KW3->OP) (h:T Blk) (nx:Pa) (k:KW3):sGW (.bool false) true op h nx k=k .undef h nx:=nr rfl
end Go.Ev
namespace Go.Ev
abbrev srt (l:List Int):List Int:=l.mergeSort fun x y=>decide (x<=y)
theorem xM {l l':List Int} (hp:l'.Perm l) (hs:l'.Pairwise (· <= ·)):l'=srt l:=by
 refine (hp.trans (List.mergeSort_perm l _).symm).eq_of_pairwise (le:=(· <= ·)) ?_ hs ?_
 ·intro a b _ _ h1 h2;omega
 ·have:=List.pairwise_mergeSort (le:=fun x y:Int=>decide (x<=y)) (by intro a b c;simp;omega) (by intro a b;simp;omega) l;exact this.imp (by intro a b h;simpa using h)
theorem qT (l:List Int):(srt l).Perm l:=List.mergeSort_perm l _
structure Ins (l out:List Int) (i k:Nat):Prop where
 perm:out.Perm l
 ex:∃ (A:List Int) (x:Int) (B R:List Int),out=A++x::(B++R)/\A.length=k/\A.length+B.length=i/\(A++B).Pairwise (· <= ·)/\∀ b∈B,x<b
theorem Ins.start {l out:List Int} {i:Nat} (hp:out.Perm l) (hi:i<out.length) (hs:(out.take i).Pairwise (· <= ·)):Ins l out i i :=
 ⟨hp,out.take i,out[i],[],out.drop (i+1),by simp,by simp;omega,by simp;omega,by simpa using hs,by simp⟩
theorem Ins.swap {l out:List Int} {i k:Nat} (H:Ins l out i (k+1)) {a x:Int} (ha:out[k]? = some a) (hx:out[k+1]? = some x) (hlt:x<a):Ins l ((out.set (k+1) a).set k x) i k:=by
 obtain ⟨hp,A,x',B,R,rfl,hA,hi,hs,hb⟩:=H;obtain ⟨A,a',rfl⟩:∃ A' a',A=A'++[a']:=⟨A.dropLast,A.getLast (by intro q;rw [q] at hA;simp at hA),(List.dropLast_concat_getLast _).symm⟩;have hA':A.length=k:=by simpa using hA
 have e1:a'=a:=by
  rw [Zcm,List.getElem?_append_right (by omega),hA',Nat.sub_self] at ha;simpa using ha
 have e2:x'=x:=by
  rw [List.getElem?_append_right (by simp;omega)] at hx;simp [hA'] at hx;exact hx
 subst e1 e2;have e3:((A++[a']++x'::(B++R)).set (k+1) a').set k x'=A++x'::((a'::B)++R):=by
  have h1:(A++[a']++x'::(B++R)).set (k+1) a'=A++a'::a'::(B++R):=by
   rw [Zcm,Zcr _ _ (by omega),hA',show k+1-k=1 by omega];rfl
  rw [h1,Zcr _ _ (by omega),hA',Nat.sub_self];rfl
 rw [e3];refine ⟨List.Perm.trans ?_ hp,A,x',a'::B,R,rfl,hA',by simp at hi ⊢;omega,by simpa [Zcm] using hs,?_⟩
 ·rw [Zcm];refine List.Perm.append_left A ?_;exact List.Perm.swap _ _ _
 ·intro b hb';rcases List.mem_cons.1 hb' with rfl | q
  ·exact hlt
  ·exact hb b q
theorem Ins.done {l out:List Int} {i k:Nat} (H:Ins l out i k) (h:k=0\/∃ j a x,k=j+1/\out[j]? = some a/\out[k]? = some x/\¬ x<a):out.Perm l/\(out.take (i+1)).Pairwise (· <= ·):=by
 obtain ⟨hp,A,x,B,R,rfl,hA,hi,hs,hb⟩:=H;refine ⟨hp,?_⟩;have e:(A++x::(B++R)).take (i+1)=A++x::B:=by
  rw [show A++x::(B++R)=(A++x::B)++R by simp];exact List.take_left' (by simp;omega)
 rw [e];have hs':=List.pairwise_append.1 hs;refine List.pairwise_append.2 ⟨hs'.1,List.pairwise_cons.2 ⟨fun b hb'=>by have:=hb b hb';omega,hs'.2.1⟩,?_⟩;have key:∀ a∈A,a<=x:=by
  rcases h with rfl | ⟨j,a0,x0,rfl,h1,h2,h3⟩
  ·obtain rfl:A=[]:=Zbe hA;simp
  ·obtain ⟨A,a',rfl⟩:∃ A' a',A=A'++[a']:=⟨A.dropLast,A.getLast (by intro q;rw [q] at hA;simp at hA),(List.dropLast_concat_getLast _).symm⟩;have hA':A.length=j:=by simpa using hA
   have e1:a'=a0:=by
    rw [Zcm,List.getElem?_append_right (by omega),hA',Nat.sub_self] at h1;simpa using h1
   have e2:x=x0:=by
    rw [List.getElem?_append_right (by simp;omega)] at h2;simp [hA'] at h2;exact h2
   subst e1 e2;intro a ha;rcases List.mem_append.1 ha with q | q
   ·have:=(List.pairwise_append.1 hs'.1).2.2 a q a' (by simp);omega
   ·simp at q;omega
 intro a ha b hb';rcases List.mem_cons.1 hb' with rfl | q
 ·exact key a ha
 ·exact hs'.2.2 a ha b q
def incr (d:List Int) (c:Int):List Int:=d.set c.toNat (d.getD c.toNat 0+1)
def ng (cells:Nat) (lines:List (List Int)):List Int:=lines.foldl (fun d l=>l.foldl incr d) (List.replicate cells 0)
@[simp] theorem cL (d:List Int) (c:Int):(incr d c).length=d.length:=by simp [incr]
theorem uC (l:List Int):∀ d:List Int,(l.foldl incr d).length=d.length:=by
 induction l with
 | nil=>intro d;rfl
 | cons c l ih=>intro d;rw [Zbp,ih];simp
theorem bS (ls:List (List Int)):∀ d:List Int,(ls.foldl (fun d l=>l.foldl incr d) d).length=d.length:=by
 induction ls with
 | nil=>intro d;rfl
 | cons l ls ih=>intro d;rw [Zbp,ih,uC]
theorem j9 (cells:Nat) (lines:List (List Int)):(ng cells lines).length=cells:=by rw [ng,bS];simp
def Bd (d:List Int) (M:Nat):Prop:=∀ v∈d,0<=v/\v<=(M:Int)
theorem Bd.incr {d:List Int} {M:Nat} (h:Bd d M) {c:Int} (hc:c.toNat<d.length):Bd (incr d c) (M+1):=by
 intro v hv;rcases List.mem_or_eq_of_mem_set hv with q | rfl
 ·have:=h v q;omega
 ·rw [Zab,List.getElem?_eq_getElem hc];have:=h _ (Zao hc);simp only [Option.getD_some];omega
theorem Bd.mono {d:List Int} {M N:Nat} (h:Bd d M) (hm:M<=N):Bd d N:=fun v hv=>by have:=h v hv;omega
theorem Bd.line {W:Nat}:∀ {l d:List Int} {M:Nat},Bd d M->(∀ c∈l,c.toNat<d.length)->l.length<=W->Bd (l.foldl Ev.incr d) (M+W)
 | [],d,M,h,_,_=>h.mono (by omega)
 | c::l,d,M,h,hc,hl=>by
  rw [Zbp];simp only [Zav] at hl;have:=Bd.line (W:=W-1) (l:=l) (h.incr (hc c (by simp))) (fun x hx=>by simpa using hc x (by simp [hx])) (by omega);exact this.mono (by omega)
theorem cW {cells W:Nat} {lines:List (List Int)} (hl:∀ l∈lines,l.length<=W/\∀ c∈l,c.toNat<cells):Bd (ng cells lines) (lines.length*W):=by
 have key:∀ (ls:List (List Int)) (d:List Int) (M:Nat),(∀ l∈ls,l.length<=W/\∀ c∈l,c.toNat<d.length)->Bd d M->Bd (ls.foldl (fun d l=>l.foldl Ev.incr d) d) (M+ls.length*W):=by
  intro ls
  induction ls with
  | nil=>intro d M _ h;simpa using h
  | cons l ls ih =>
   intro d M hls h;rw [Zbp];obtain ⟨h1,h2⟩:=hls l (by simp);have:=ih (l.foldl Ev.incr d) (M+W) (fun x hx=>by rw [uC];exact hls x (by simp [hx])) (h.line h2 h1);refine this.mono ?_;simp only [Zav,Zbg];omega
 have:=key lines (List.replicate cells 0) 0 (by simpa using hl) (by intro v hv;simp at hv;omega);rw [ng];rw [Zaz] at this;exact this
def aK (f:Nat->Int) (d:List Int):Nat->Int
 | 0=>0
 | i+1=>aK f d i+d.getD i 0*f i
theorem xL {f:Nat->Int} {d:List Int} {M F n:Nat} (hd:Bd d M) (hf:∀ j,j<n->0<=f j/\f j<=F):∀ i,i<=n->0<=aK f d i/\aK f d i<=i*(M*F:Nat)
 | 0,_=>by simp [aK]
 | i+1,hi=>by
  obtain ⟨h1,h2⟩:=xL hd hf i (by omega);have h3:0<=d.getD i 0/\d.getD i 0<=(M:Int):=by
   rw [Zab];cases e:d[i]? with
   | none=>simp
   | some v=>exact hd v (Zaa e)
  obtain ⟨h4,h5⟩:=hf i (by omega);have h6:0<=d.getD i 0*f i:=Int.mul_nonneg h3.1 h4;have h7:d.getD i 0*f i<=(M:Int)*(F:Int):=Int.mul_le_mul h3.2 h5 h4 (by omega);rw [aK];have h8:((i+1:Nat):Int)*((M*F:Nat):Int)=(i:Int)*((M*F:Nat):Int)+(M:Int)*(F:Int):=by
   rw [Int.natCast_add,Int.add_mul,Int.natCast_mul M F];simp
  rw [h8];omega
theorem zc3 {f:Nat->Int} {d:List Int} {M F n:Nat} (hd:Bd d M) (hf:∀ j,j<n->0<=f j/\f j<=F) {i:Nat} (hi:i<n):0<=d.getD i 0*f i/\d.getD i 0*f i<=(M*F:Nat):=by
 have h3:0<=d.getD i 0/\d.getD i 0<=(M:Int):=by
  rw [Zab];cases e:d[i]? with
  | none=>simp
  | some v=>exact hd v (Zaa e)
 obtain ⟨h4,h5⟩:=hf i hi;refine ⟨Int.mul_nonneg h3.1 h4,?_⟩;rw [Int.natCast_mul];exact Int.mul_le_mul h3.2 h5 h4 (by omega)
theorem Bd.srt {d:List Int} {M:Nat} (h:Bd d M):Bd (Ev.srt d) M:=fun v hv=>h v ((qT d).mem_iff.1 hv)
@[simp] theorem qU (d:List Int):(Ev.srt d).length=d.length:=(qT d).length_eq
end Go.Ev
namespace Go.Ev
open Go Go.Proofs
variable {B:Nat}
theorem zzc {cells:Nat} {lines:List (List Int)} (hcl:cells<=256) (hn:lines.length<=128) (hl:∀ l∈lines,l.length<=1000/\∀ c∈l,0<=c/\c<(cells:Int)):Pure Tryz.prog B 262 [.agg [I cells,ji lines]] (· = encI (ng cells lines)):=by
 refine yF fun h nx K H0 hK=>zL zP yj 10000000 fun hf => ?_;rw [yw.go];refine H0.box (l:=[I cells,ji lines]) rfl fun bx h1 nx1 H1 => ?_;rw [sFx,H1.load (k:=0) (i:=0) rfl rfl];refine H1.mk1 cells rfl rfl (by omega) (by decide) fun o h2 nx2 H2 => ?_;rw [sFx,H2.load (k:=1) (i:=0+1) rfl rfl];simp only [zE];have hz:List.replicate cells (I 0)=(List.replicate cells (0:Int)).map I:=by simp
 rw [hz] at H2;have hbd:∀ i,i<=lines.length->Bd (ng cells (lines.take i)) (i*1000):=fun i hi=>by
  have:=cW (cells:=cells) (W:=1000) (lines:=lines.take i) fun l hm=>by
   obtain ⟨q1,q2⟩:=hl l (Zcf hm);exact ⟨q1,fun c hc=>by have:=q2 c hc;omega⟩
  rw [Zbb,Zci hi] at this;exact this
 refine yw.L1 (fun m z8 h' nx'=>∃ i:Nat,z8=I i/\lines.length-i=m/\i<=lines.length/\Hp h h' nx' [.arr o ((ng cells (lines.take i)).map I),.arr bx [I cells,ji lines]]) (m:=lines.length) (by omega) ⟨0,rfl,rfl,by omega,H2⟩ ?_;rintro m z4 z5 z8 z9 z10 z11 z12 z13 h3 nx3 R ⟨i,rfl,rfl,hi,H3⟩ hR;simp (disch:=omega) only [jd,fH,fJ,dh,qg,jm,fO,vk,vw,zT,zR,zC,zD,y9,yH,yW,jA,yK,yL,yN,jH,y8,y7,y3,zE,yM,zY,zA,decide_true,decide_false,Zae,Zag,yV];by_cases hlt:i<lines.length
 case neg =>
  simp only [show ¬ (i:Int)<(lines.length:Int) by omega,decide_false,zD];rw [yw.k15];rw [Zal (by omega)] at H3;refine hK _ _ _ _ _ H3 (H3.ay (k:=0) rfl (Zah _) (by simp [j9]) (fun v hv=>by obtain ⟨x,_,rfl⟩:=List.mem_map.1 hv;rfl)) ?_;show _=AV.lst 1 _ _;rw [j9]
 simp only [show (i:Int)<(lines.length:Int) by omega,decide_true,zC];obtain ⟨l,hx⟩:∃ l,lines[i]? = some l:=⟨_,List.getElem?_eq_getElem hlt⟩;obtain ⟨hlw,hlc⟩:=hl l (Zaa hx);have htake:lines.take (i+1)=lines.take i++[l]:=by rw [Zan,hx];rfl
 have hds:ng cells (lines.take (i+1))=l.foldl incr (ng cells (lines.take i)):=by rw [ng,htake,List.foldl_append];rfl
 rw [dw rfl hlt,ldL (getT hx)];simp (disch:=omega) only [jd,fH,fJ,dh,qg,jm,fO,vk,vw,zT,zR,zC,zD,y9,yH,yW,jA,yK,yL,yN,jH,y8,y7,y3,zE,yM,zY,zA,decide_true,decide_false,Zae,Zag,yV];refine yw.L7 (fun m z12 h' nx'=>∃ k:Nat,z12=I k/\l.length-k=m/\k<=l.length/\Hp h h' nx' [.arr o (((l.take k).foldl incr (ng cells (lines.take i))).map I),.arr bx [I cells,ji lines]]) (m:=l.length) (by omega) ⟨0,rfl,rfl,by omega,H3⟩ ?_;rintro m y5 y12 y13 h4 nx4 R2 ⟨k,rfl,rfl,hk,H4⟩ hR2;simp (disch:=omega) only [jd,fH,fJ,dh,qg,jm,fO,vk,vw,zT,zR,zC,zD,y9,yH,yW,jA,yK,yL,yN,jH,y8,y7,y3,zE,yM,zY,zA,decide_true,decide_false,Zae,Zag,yV];by_cases hkt:k<l.length
 case neg =>
  simp only [show ¬ (k:Int)<(l.length:Int) by omega,decide_false,zD];rw [yw.k14]
  try rw [jd (by omega)]
  rw [Zal (l:=l) (by omega),<- hds] at H4;exact hR _ _ _ _ _ _ _ _ _ _ _ (by omega) ⟨i+1,rfl,rfl,by omega,H4⟩
 simp only [show (k:Int)<(l.length:Int) by omega,decide_true,zC];have hxk:l[k]? = some l[k]:=List.getElem?_eq_getElem hkt;obtain ⟨c0,c1⟩:=hlc _ (Zao hkt);have hlen:((l.take k).foldl incr (ng cells (lines.take i))).length=cells:=by rw [uC,j9]
 have hbk:Bd ((l.take k).foldl incr (ng cells (lines.take i))) (i*1000+1000):=(hbd i hi).line (fun c hc=>by rw [j9];have:=hlc c (Zcf hc);omega) (by rw [Zbb];omega);have hfd:(l.take (k+1)).foldl incr (ng cells (lines.take i))=incr ((l.take k).foldl incr (ng cells (lines.take i))) l[k]:=by
  rw [Zan,hxk,List.foldl_append];rfl
 generalize hd:(l.take k).foldl incr (ng cells (lines.take i))=d at *
 have hv:(d.map I)[(l[k]).toNat]? = some (I (d.getD (l[k]).toNat 0)):=by
  rw [List.getElem?_map,Zab,List.getElem?_eq_getElem (by omega)];rfl
 have hvb:0<=d.getD (l[k]).toNat 0/\d.getD (l[k]).toNat 0<=((i*1000+1000:Nat):Int):=by
  rw [Zab,List.getElem?_eq_getElem (by omega)];exact hbk _ (Zao _)
 rw [dw rfl hkt,ldL (sH hxk),sIx (i:=(l[k]).toNat) (by omega) (by omega),H4.load (k:=0) rfl hv,jd (by omega),sIx (i:=(l[k]).toNat) (by omega) (by omega)];refine H4.store (k:=0) rfl (by simp;omega) rfl fun h5 H5 => ?_;refine hR2 _ _ _ _ _ _ (by omega) ⟨k+1,rfl,rfl,by omega,H5.cast ?_⟩;rw [hfd,incr,List.map_set];rfl
end Go.Ev
namespace Go.Ev
def j7:List Int->List Int->Bool
 | _,[]=>false
 | [],_::_=>true
 | a::xs,b::ys=>if a=b then j7 xs ys else decide (a<b)
theorem zbw:∀ (i:Nat) (a b:List Int),a.take i=b.take i->i<=a.length->i<=b.length->j7 a b=j7 (a.drop i) (b.drop i)
 | 0,a,b,_,_,_=>rfl
 | i+1,a::xs,b::ys,h,h1,h2=>by
  simp only [List.take_succ_cons,List.cons.injEq] at h;rw [j7,if_pos h.1,Zcu,Zcu];exact zbw i xs ys h.2 (by simpa using h1) (by simpa using h2)
 | i+1,[],_,_,h1,_=>by simp at h1
 | i+1,_::_,[],_,_,h2=>by simp at h2
def cmpL (a b:List Int):Int:=if j7 a b then -1 else if a=b then 0 else 1
def Nrm (f:List Int):Prop:=f.Nodup/\∀ x∈f,1<=x/\x<=(f.length:Int)
theorem vF:∀ (l r:List Int),l.Nodup->(∀ x∈l,x∈r)->∃ s,r.Perm (l++s)
 | [],r,_,_=>⟨r,.refl _⟩
 | a::l,r,hn,hs=>by
  obtain ⟨h1,h2⟩:=List.nodup_cons.1 hn;have ha:=hs a (by simp);obtain ⟨s,hp⟩:=vF l (r.erase a) h2 fun x hx=>(List.mem_erase_of_ne (by rintro rfl;exact h1 hx)).2 (hs x (by simp [hx]));exact ⟨s,(List.perm_cons_erase ha).trans (.cons a hp)⟩
abbrev upTo (n:Nat):List Int:=(List.range n).map fun (i:Nat)=>(i:Int)+1
theorem zf2 (n:Nat):(upTo n).Pairwise (· <= ·):=by
 rw [Zbj];exact List.pairwise_lt_range.imp (by intro a b h;omega)
theorem zbx (n:Nat):(upTo n).Nodup:=by
 rw [List.Nodup,Zbj];exact List.pairwise_lt_range.imp (by intro a b h;omega)
theorem zem (f:List Int):srt f=upTo f.length↔Nrm f:=by
 constructor
 ·intro h;have hp:(upTo f.length).Perm f:=h ▸ qT f;refine ⟨hp.nodup_iff.1 (zbx _),fun x hx => ?_⟩;have:=hp.mem_iff.2 hx;obtain ⟨i,hi,rfl⟩:=List.mem_map.1 this;have:=List.mem_range.1 hi;omega
 ·rintro ⟨h1,h2⟩;obtain ⟨s,hs⟩:=vF f (upTo f.length) h1 fun x hx=>by
   obtain ⟨q1,q2⟩:=h2 x hx;exact List.mem_map.2 ⟨(x-1).toNat,List.mem_range.2 (by omega),by omega⟩
  have hl:=hs.length_eq;obtain rfl:s=[]:=Zbe (by rw [Zas,Zaq,List.length_range] at hl;omega);rw [List.append_nil] at hs;exact (xM hs (zf2 _)).symm
def Rv (l cur:List Int) (i:Nat):Prop:=cur.length=l.length/\∀ t,t<l.length->cur[t]? = if t<i\/l.length<=t+i then l[l.length-1-t]? else l[t]?
theorem Rv.start (l:List Int):Rv l l 0:=⟨rfl,fun t ht=>by rw [if_neg (by omega)]⟩
theorem Rv.done {l cur:List Int} {i:Nat} (h:Rv l cur i) (hi:l.length<=2*i+1):cur=l.reverse:=by
 refine Zba fun t => ?_;by_cases ht:t<l.length
 ·rw [h.2 t ht,List.getElem?_reverse ht];by_cases c:t<i\/l.length<=t+i
  ·rw [if_pos c]
  ·rw [if_neg c,show l.length-1-t=t by omega]
 ·rw [List.getElem?_eq_none (by rw [h.1];omega),List.getElem?_eq_none (by simp;omega)]
theorem Rv.step {l cur:List Int} {i j:Nat} {a b:Int} (h:Rv l cur i) (hij:i<j) (hs:i+j+1=l.length) (ha:cur[i]? = some a) (hb:cur[j]? = some b):Rv l ((cur.set i b).set j a) (i+1):=by
 obtain ⟨hl,hg⟩:=h;refine ⟨by simp [hl],fun t ht => ?_⟩;have e1:=hg i (by omega);have e2:=hg j (by omega);rw [if_neg (by omega),ha] at e1;rw [if_neg (by omega),hb] at e2;rw [List.getElem?_set,List.getElem?_set,List.length_set];by_cases c1:j=t
 ·subst c1;rw [if_pos rfl,if_pos (by omega),if_pos (by omega),show l.length-1-j=i by omega];exact e1
 ·rw [if_neg c1];by_cases c2:i=t
  ·subst c2;rw [if_pos rfl,if_pos (by omega),if_pos (by omega),show l.length-1-i=j by omega];exact e2
  ·rw [if_neg c2,hg t ht];by_cases c3:t<i\/l.length<=t+i
   ·rw [if_pos c3,if_pos (by omega)]
   ·rw [if_neg c3,if_neg (by omega)]
end Go.Ev
namespace Go.Ev
open Go Go.Proofs
variable {B:Nat}
theorem mJ (x:Int):Pure Tryz.prog B 261 [I x] (· = .bool false):=by
 intro p h nx K hK;refine zL zP yj 9 fun hf => ?_;rw [eY.go];simp only [qg,decide_true,Zae];exact hK _ rfl hf
theorem zwd (x y:Int):Pure Tryz.prog B 217 [I x,I y] (· = I (if x<y then -1 else if x=y then 0 else 1)):=by
 intro p h nx K hK;refine zL zP yj 9 fun hf => ?_;rw [rE.go];refine mJ x _ _ _ _ ?_;rintro _ rfl _;refine mJ y _ _ _ _ ?_;rintro _ rfl _;simp only [zD,jm];by_cases c1:x<y
 ·simp only [c1,decide_true,zC];exact hK _ (by rw [if_pos c1]) hf
 ·simp only [c1,decide_false,zD,vk];by_cases c2:y<x
  ·simp only [c2,decide_true,zC];exact hK _ (by rw [if_neg c1,if_neg (by omega)]) hf
  ·simp only [c2,decide_false,zD];exact hK _ (by rw [if_neg c1,if_pos (by omega)]) hf
theorem zl6 {a b:List Int} (ha:a.length<=1000000) (hb:b.length<=1000000):Pure Tryz.prog B 161 [encI a,encI b] (· = I (cmpL a b)):=by
 intro p h nx K hK;refine zL zP yj 10000000 fun hf => ?_;rw [jo.go];simp (disch:=omega) only [jd,fH,fJ,dh,qg,jm,fO,vk,vw,zT,zR,zC,zD,y9,yH,yW,jA,yK,yL,yN,jH,y8,y7,y3,zE,yM,zY,zA,decide_true,decide_false,Zae,Zag,yV];refine jo.L1 (fun m z9 h' nx'=>∃ i:Nat,z9=I i/\a.length-i=m/\i<=a.length/\i<=b.length/\h'=h/\nx'=nx/\a.take i=b.take i) (m:=a.length) (by omega) ⟨0,rfl,rfl,by omega,by omega,rfl,rfl,rfl⟩ ?_;rintro m z2 z3 z4 z5 z6 z9 z10 z11 z12 _ _ R ⟨i,rfl,rfl,hi,hib,rfl,rfl,htk⟩ hR;have hsk:=zbw i a b htk hi hib;simp (disch:=omega) only [jd,fH,fJ,dh,qg,jm,fO,vk,vw,zT,zR,zC,zD,y9,yH,yW,jA,yK,yL,yN,jH,y8,y7,y3,zE,yM,zY,zA,decide_true,decide_false,Zae,Zag,yV];by_cases hlt:i<a.length
 ·simp only [show (i:Int)<(a.length:Int) by omega,decide_true,zC];have hx:a[i]? = some a[i]:=List.getElem?_eq_getElem hlt;have hda:a.drop i=a[i]::a.drop (i+1):=Zap hlt;rw [dw rfl hlt,ldL (sH hx)];by_cases hb2:b.length<=i
  ·simp only [zE,vw,show (b.length:Int)<=(i:Int) by omega,decide_true,zC];refine hK _ ?_ hf;rw [hda,Zbn hb2,j7] at hsk;rw [cmpL,hsk,if_neg (by simp),if_neg (by rintro rfl;omega)]
  ·simp only [zE,vw,show ¬ (b.length:Int)<=(i:Int) by omega,decide_false,zD];have hxb:b[i]? = some b[i]:=List.getElem?_eq_getElem (by omega);have hdb:b.drop i=b[i]::b.drop (i+1):=Zap (by omega);rw [dw rfl (by omega),ldL (sH hxb)];refine zwd _ _ _ _ _ _ ?_;rintro _ rfl _;rw [hda,hdb,j7] at hsk;simp only [qg];by_cases c1:a[i]=b[i]
   ·have e0:(if a[i]<b[i] then (-1:Int) else if a[i]=b[i] then 0 else 1)=0:=by rw [if_neg (by omega),if_pos c1]
    rw [e0];simp only [decide_true,Zae,zD]
    try rw [jd (by omega)]
    refine hR _ _ _ _ _ _ _ _ _ _ _ _ (by omega) ⟨i+1,rfl,rfl,by omega,by omega,rfl,rfl,?_⟩;rw [Zan,Zan,htk,hx,hxb,c1]
   ·have e1:¬ (if a[i]<b[i] then (-1:Int) else if a[i]=b[i] then 0 else 1)=0:=by
     by_cases c:a[i]<b[i]
     ·rw [if_pos c];omega
     ·rw [if_neg c,if_neg c1];omega
    simp only [e1,decide_false,Zag,zC];refine hK _ ?_ hf;rw [if_neg c1] at hsk;rw [cmpL,hsk];by_cases c:a[i]<b[i]
    ·simp [c]
    ·rw [if_neg c,if_neg c1,if_neg (by simp [c]),if_neg (by rintro rfl;exact c1 rfl)]
 ·simp only [show ¬ (i:Int)<(a.length:Int) by omega,decide_false,zD];rw [jo.k9];simp (disch:=omega) only [jd,fH,fJ,dh,qg,jm,fO,vk,vw,zT,zR,zC,zD,y9,yH,yW,jA,yK,yL,yN,jH,y8,y7,y3,zE,yM,zY,zA,decide_true,decide_false,Zae,Zag,yV];rw [Zbn (show a.length<=i by omega)] at hsk;by_cases c:a.length<b.length
  ·simp only [show (a.length:Int)<(b.length:Int) by omega,decide_true,zC];refine hK _ ?_ hf;have hd:b.drop i=b[i]::b.drop (i+1):=Zap (by omega);rw [hd,j7] at hsk;rw [cmpL,hsk,if_pos rfl]
  ·simp only [show ¬ (a.length:Int)<(b.length:Int) by omega,decide_false,zD];refine hK _ ?_ hf;rw [Zbn (show b.length<=i by omega),j7] at hsk;have:a=b:=by
    rw [Zal (by omega),Zal (by omega)] at htk;exact htk
   rw [cmpL,hsk,if_neg (by simp),if_pos this]
theorem zc4 {h:T Blk} (a:AV) (l:List AV) (K:AV->OP):zB (.fp (a::l)) h K=K a:=nr rfl
theorem zc5 {P:Program} {id:Pa} {args:List AV} {h:T Blk} {nx:Pa} {K:Kw Prop}:vB (CS P B) (.yld id) args h nx K=(CS P B).yld id args h nx K:=nr rfl
theorem zsl {h:T Blk} {nx:Pa} {p id:Pa} {l:List Int} {K:Kw Prop} (J:Nat->T Blk->Pa->Prop) (hl:l.length<=1000000) (hJ:J 0 h nx)
  (step:∀ (i:Nat) (x:Int) (h:T Blk) (nx:Pa) (K:Kw Prop),l[i]? = some x->J i h nx->Fr h nx->(∀ h' nx',J (i+1) h' nx'->K (.bool true) h' nx'=.ok True)->(CS Tryz.prog B).yld id [I x] h nx K=.ok True)
  (fr:∀ i h nx,J i h nx->Fr h nx) (hK:∀ h' nx',J l.length h' nx'->K (.tup []) h' nx'=.ok True):(CS Tryz.prog B).fn 169 p [.yld id,.fp [encI l]] h nx K=.ok True:=by
 refine yQ (p:=.of 169) (K:=K) (zL zP yj 10000000 fun hf => ?_) fun _ _ _ _ q=>q;rw [wu.go,zc4];simp only [zE];refine wu.L1 (fun m z5 h' nx'=>∃ i:Nat,z5=I i/\l.length-i=m/\i<=l.length/\J i h' nx') (m:=l.length) (by omega) ⟨0,rfl,rfl,by omega,hJ⟩ ?_;rintro m z2 z5 z6 z7 h1 nx1 R ⟨i,rfl,rfl,hi,hJ1⟩ hR;simp (disch:=omega) only [jd,fH,fJ,dh,qg,jm,fO,vk,vw,zT,zR,zC,zD,y9,yH,yW,jA,yK,yL,yN,jH,y8,y7,y3,zE,yM,zY,zA,decide_true,decide_false,Zae,Zag,yV];by_cases hlt:i<l.length
 ·simp only [show (i:Int)<(l.length:Int) by omega,decide_true,zC];have hx:l[i]? = some l[i]:=List.getElem?_eq_getElem hlt;rw [dw rfl hlt,ldL (sH hx),zc5];refine step i _ _ _ _ hx hJ1 (fr _ _ _ hJ1) fun h2 nx2 hJ2 => ?_;simp only [yK,Zae,zD]
  try rw [jd (by omega)]
  exact hR _ _ _ _ _ _ _ (by omega) ⟨i+1,rfl,rfl,by omega,hJ2⟩
 ·simp only [show ¬ (i:Int)<(l.length:Int) by omega,decide_false,zD];obtain rfl:i=l.length:=by omega
  exact hK _ _ hJ1
theorem Hp.tN {h0 h:T Blk} {nx:Pa} {L:List Ob} (H:Hp h0 h nx L) (e:Nat):Hp h0 h nx (.gro none e 0 []::L) :=
  ⟨H.keep,fun x hx=>by rcases List.mem_cons.1 hx with rfl | q;· exact ⟨rfl,rfl⟩
                       · exact H.own x q,fun n hn=>H.off n (by simpa [Ob.names] using hn),by have:=H.nd;simpa [Ob.names] using this,H.fr⟩
theorem xR {h0 h:T Blk} {nx:Pa} {L:List Ob} {id:Pa} {b:Blk} {k:Nat} (H:Hp h0 h nx L) (hk:L[k]? = some (.raw id b)):T.get .no id h=b:=(H.own _ (Zaa hk)).1
theorem Hp.zby {h0 h:T Blk} {nx:Pa} {L:List Ob} {id:Pa} {b b':Blk} {k:Nat} (H:Hp h0 h nx L) (hk:L[k]? = some (.raw id b)) (hb:b'≠.no):Hp h0 (T.set .no b' id h) nx (L.set k (.raw id b')) :=
 H.upd hk (by simp [Ob.names]) rfl ⟨T.get_set_same _ _ _ _,hb⟩
theorem zl7 {h0 h:T Blk} {nx:Pa} {L:List Ob} {p q:Pa} {l:List Int} {K:Kw Prop} (hl:l.length<=100000) (H:Hp h0 h nx L)
  (hK:∀ o h' nx',Hp h0 h' nx' (.gro o 1 l.length (l.map I)::L)->K (qp o 1 l.length) h' nx'=.ok True):(CS Tryz.prog B).fn 221 p [.zh,.fn 169 q [.fp [encI l]]] h nx K=.ok True:=by
 refine yQ (p:=.of 221) (K:=K) (zL zP yj 10000000 fun hf => ?_) fun _ _ _ _ q=>q;rw [qj.go];refine H.box (l:=[.zh]) rfl fun bx h1 nx1 H1 => ?_;refine H1.rf (g:=169) (p:=q) (cap:=[.fp [encI l]]) rfl fun id h2 nx2 H2 => ?_;refine zsl (fun i h' nx'=>∃ o,Hp h0 h' nx' (.raw id (.loop .ready .none (qj.fr .zh (.fn 169 q [.fp [encI l]]) (.ptr bx 0) .zh .undef (.fn 169 q [.fp [encI l]]) .undef) [.of 6] qj.b3 qj.b4)::.arr bx [qp o 1 i]::.gro o 1 i ((l.take i).map I)::L)) (by omega) ⟨none,?_⟩ ?_ (fun _ _ _ ⟨_,q⟩=>q.fr) ?_
 ·have:=H2.tN 1;exact this.perm ((List.Perm.swap _ _ _).trans (.cons _ (.swap _ _ _)))
 ·rintro i x h3 nx3 K3 hx ⟨o,H3⟩ _ hnext;have hi:i<l.length:=(List.getElem?_eq_some_iff.1 hx).1;refine vY (fns:=tbl) yj 100 fun hf => ?_;rw [qj.y4 (xR H3 (k:=0) rfl) rfl];have H4:=H3.zby (k:=0) rfl (b':=.loop .busy .none (qj.fr .zh (.fn 169 q [.fp [encI l]]) (.ptr bx 0) .zh .undef (.fn 169 q [.fp [encI l]]) .undef) [.of 6] qj.b3 qj.b4) (by intro e;cases e);rw [H4.load (k:=1) (i:=0) rfl rfl];refine H4.zu (l:=[I x]) rfl fun e5 h5 nx5 H5 => ?_;refine H5.oN (k:=3) (o:=o) (c:=1) (new:=[I x]) rfl (yu.rd (l:=[I x]) (n:=1) (H5.own _ (Zai ..)) rfl) rfl rfl (by decide) (by decide) (by omega) fun o' h6 nx6 ho H6 => ?_;refine H6.store (k:=2) rfl (by simp) (gN _ _ _) fun h7 H7 => ?_;refine H7.rend (k:=1) rfl fun h8 H8 => ?_;refine hnext _ _ ⟨o',(H8.drop).cast ?_⟩;have e1:(l.take (i+1)).map I=(l.take i).map I++[I x]:=by rw [Zan,hx];simp
  rw [e1];rfl
 ·rintro h3 nx3 ⟨o,H3⟩;rw [List.take_length] at H3;refine H3.rU fun h4 H4 => ?_;rw [vI,qj.k6,H4.load (k:=0) (i:=0) rfl rfl];exact hK _ _ _ H4.drop
theorem m9 {l:List Int}:Pure Tryz.prog B 102 [encI l] (· = .fn 169 (.of 169) [.fp [encI l]]):=by
 refine yF fun h nx K H0 hK=>zL zP yj 10000000 fun hf => ?_;rw [eP.go];refine H0.box (l:=[encI l]) rfl fun bx h1 nx1 H1 => ?_;obtain ⟨op,t,g1,g2⟩:yu h1 bx [encI l]:=H1.own _ (Zai ..);refine hK _ _ _ _ (.fn 169 (.of 169) [.fp [encI l]]) H1 (.fn _ _ _ _ rfl fun i v v' h2 h3 => ?_) rfl
 match i with
 | 0 =>
  simp only [List.getElem?_cons_zero,Option.some.injEq] at h2 h3;subst h2 h3;refine .ptr _ _ op _ t _ (H1.off bx (by simp [Ob.names])) g1 (by simp) (by simp [jf]) fun i v hv => ?_
  match i with
  | 0 =>
   simp only [List.getElem?_cons_zero,Option.some.injEq] at hv;subst hv;have:=zV t 0 1 0 (by omega);have g2:zX t 0 1=[encI l]:=g2;rw [g2] at this;simp only [List.getElem?_cons_zero,Option.some.injEq] at this;rw [<- this];exact zH (u7 l)
  | i+1=>simp at hv
 | i+1=>simp at h2
def xK (l:List Int):Prop:=l.Nodup/\∀ x∈l,0<=x/\x<(l.length:Int)
def hadL (n:Nat) (l:List Int):List Bool:=l.foldl (fun s x=>s.set x.toNat true) (List.replicate n false)
theorem zf3:∀ (l:List Int) (s:List Bool) (k:Nat),(∀ x∈l,0<=x)->k<s.length->(l.foldl (fun s x=>s.set x.toNat true) s)[k]? = some (s.getD k false||decide ((k:Int)∈l))
 | [],s,k,_,h=>by
  rw [List.foldl_nil,List.getElem?_eq_getElem h,Zab,List.getElem?_eq_getElem h];simp
 | x::l,s,k,hl,h=>by
  rw [Zbp,zf3 l _ k (fun y hy=>hl y (Zam _ hy)) (by simpa using h)];have h0:=hl x (Zai ..)
  congr 1
  rw [Zab,Zab,List.getElem?_set];by_cases e:x.toNat=k
  ·have:(k:Int)=x:=by omega
   rw [if_pos e,if_pos (by omega)];simp [this]
  ·have:¬ (k:Int)=x:=by omega
   rw [if_neg e];simp [this]
theorem zf4 (n:Nat) (l:List Int):(hadL n l).length=n:=by
 have:∀ (l:List Int) (s:List Bool),(l.foldl (fun s x=>s.set x.toNat true) s).length=s.length:=by
  intro l
  induction l with
  | nil=>intro s;rfl
  | cons x l ih=>intro s;rw [Zbp,ih];simp
 rw [hadL,this];simp
theorem zpp {n:Nat} {l:List Int} {k:Nat} (hl:∀ x∈l,0<=x) (hk:k<n):(hadL n l)[k]? = some (decide ((k:Int)∈l)):=by
 rw [hadL,zf3 l _ k hl (by simpa using hk)]
 congr 1
 rw [Zab,List.getElem?_replicate,if_pos hk];simp
theorem zl8 (n:Nat) (l:List Int) (x:Int):hadL n (l++[x])=(hadL n l).set x.toNat true:=by simp [hadL]
end Go.Ev
namespace Go.Ev
def zkl (y:List Nat) (i k:Nat):List Nat:=y.set i ((y.getD i 0+k)%256)
def addL (y:List Nat) (idx:List Nat) (k:Nat):List Nat:=idx.foldl (fun y i=>zkl y i k) y
@[simp] theorem zsm (y:List Nat) (i k:Nat):(zkl y i k).length=y.length:=by simp [zkl]
@[simp] theorem zuf (idx:List Nat) (k:Nat):∀ y:List Nat,(addL y idx k).length=y.length:=by
 induction idx with
 | nil=>intro y;rfl
 | cons i l ih=>intro y;show (addL (zkl y i k) l k).length=_;rw [ih];simp
def blk (x:List Nat) (idx:List Nat) (n:Nat):Nat->List (List Nat)
 | 0=>[]
 | j+1=>List.replicate n (addL x idx j)++blk x idx n j
theorem zl9 {n:Nat} {seen:List Nat} (nd:seen.Nodup) (h1:∀ i∈seen,i<n) (h2:∀ i,i<n->i∈seen):seen.Perm (List.range n):=by
 rw [List.perm_iff_count];intro a;rw [nd.count,List.nodup_range.count];by_cases e:a<n
 ·rw [if_pos (h2 a e),if_pos (by simpa using e)]
 ·rw [if_neg fun q=>e (h1 a q),if_neg (by simpa using e)]
def fill (most:Nat):Nat->List (List Nat)
 | 0=>[[]]
 | n+1=>(fill most n).flatMap fun x=>(List.range (most+1)).map fun k=>x++[k]
def gC (fr:Nat) (f:List Nat) (c:Int):Nat:=if (fr:Int)<=c then f.getD (c-fr).toNat 0 else 0
def con (fr:Nat) (f:List Nat) (l:List Int):Nat:=(l.map (gC fr f)).sum
end Go.Ev
namespace Go.Ev
open Go Go.Proofs
variable {B:Nat}
theorem cU {N:Pa->Prop} {O:AV->Prop} {hh:T Blk} {l:List AV} (h:∀ v∈l,fK v=true):Frz True N O hh (.agg l) (.agg l) :=
 .agg _ _ rfl (List.all_eq_true.2 fun v hv=>fK.jf (h v hv)) fun i v v' h1 h2=>by rw [h1] at h2;cases h2;exact zH (h v (Zaa h1))
theorem zf5 {cells:Int} {lines:List (List Int)}:∀ v∈[I cells,ji lines],fK v=true:=fun v hv=>by
 simp only [Zad,Zcb,or_false] at hv;rcases hv with rfl | rfl
 ·rfl
 ·exact zcq lines
abbrev Sym:=List Int×Bool
abbrev encS (g:Sym):AV:=.agg [encI g.1,.bool g.2]
def jC (G:List Sym):List AV:=G.flatMap fun g=>[encI g.1,.bool g.2]
abbrev rH (G:List Sym):AV:=.lst 2 G.length (jC G)
theorem pQ:∀ (q:List Sym) (i:Nat),(jC q).drop (i*2)=jC (q.drop i)
 | q,0=>by simp
 | [],i+1=>by simp [jC]
 | p::q,i+1=>by
  rw [Zcu,<- pQ q i,show (i+1)*2=i*2+1+1 by omega]
  rfl
theorem xS {q:List Sym} {i:Nat} (h:i<q.length):(jC q).drop (i*2)=encI q[i].1::.bool q[i].2::(jC q).drop ((i+1)*2):=by
 rw [pQ,pQ,Zap h];rfl
instance (l:List Int):Decidable (xK l):=by unfold xK;infer_instance
def qF (l:List Int):Int:=if 256<l.length then 5 else if xK l then 0 else 14
def qQ (g:List Int) (n:Int):Int:=if n<0\/256<n then 3 else if (g.length:Int)≠n then 2 else if xK g then 0 else 14
def vX (p q:List Int):List Int:=q.map fun c=>p.getD c.toNat 0
def jK (a b:Sym):Sym:=(vX a.1 b.1,a.2 != b.2)
theorem zi0 {p q:List Int} {i:Nat} {x:Int} (h:q[i]? = some x):vX p (q.take (i+1))=vX p (q.take i)++[p.getD x.toNat 0]:=by
 rw [vX,Zan,h,Zbq];rfl
theorem zpq {a b:Bool} {K:AV->OP}:zf .neq .bool (.bool a) (.bool b) K=K (.bool (a != b)):=by cases a <;> cases b <;> exact nr rfl
def befS (a b:Sym):Bool:=if a.1=b.1 then !a.2&&b.2 else j7 a.1 b.1
def uK (n:Int):List Sym->Int
 | []=>0
 | g::G=>if qQ g.1 n≠0 then qQ g.1 n else uK n G
def aN:List Sym->Bool
 | []=>true
 | [_]=>true
 | a::b::G=>befS a b&&aN (b::G)
def clG (G:List Sym):Bool:=G.all fun a=>G.all fun b=>decide (jK a b∈G)
def uZ (G:List Sym) (n:Int):Int:=if n<0\/256<n then 3 else if G.length=0 then 12 else if 1536<G.length then 5 else if uK n G≠0 then uK n G else if aN G=false then 11 else if clG G=false then 28 else 0
theorem zen {n:Int} {G:List Sym} {i:Nat} (h:i<G.length):uK n (G.drop i)=if qQ G[i].1 n≠0 then qQ G[i].1 n else uK n (G.drop (i+1)):=by
 rw [Zap h];rfl
theorem zbz {n:Int}:∀ {G:List Sym},uK n G=0->∀ g∈G,qQ g.1 n=0
 | [],_,g,h=>by simp at h
 | a::G,h,g,hg=>by
  rw [uK] at h;by_cases c:qQ a.1 n=0
  ·rw [if_neg (by simp [c])] at h;rcases List.mem_cons.1 hg with rfl | q
   ·exact c
   ·exact zbz h g q
  ·rw [if_pos c] at h;exact absurd h c
theorem zma {g:List Int} {n:Int} (h:qQ g n=0):(0<=n/\n<=256)/\(g.length:Int)=n/\xK g:=by
 rw [qQ] at h;by_cases c1:n<0\/256<n
 ·rw [if_pos c1] at h;cases h
 rw [if_neg c1] at h;by_cases c2:(g.length:Int)=n
 ·rw [if_neg (by simp [c2])] at h;by_cases c3:xK g
  ·exact ⟨by omega,c2,c3⟩
  ·rw [if_neg c3] at h;cases h
 ·rw [if_pos c2] at h;cases h
theorem zmb {G:List Sym} {i:Nat} (h:i+1<G.length):aN (G.drop i)=(befS G[i] G[i+1]&&aN (G.drop (i+1))):=by
 rw [Zap (show i<G.length by omega),Zap h,aN]
theorem zpr {G:List Sym} {i:Nat} (h:G.length<=i+1):aN (G.drop i)=true:=by
 have:(G.drop i).length<=1:=by rw [Zcg];omega
 cases hd:G.drop i with
 | nil=>rfl
 | cons a l =>
  rw [hd] at this;cases l with
  | nil=>rfl
  | cons b l=>simp at this
end Go.Ev
namespace Go.Proofs
open Go.Shelf Go.Lib
def wo:List Int->List Int->Int
 | [],[]=>0
 | [],_::_ => -1
 | _::_,[]=>1
 | x::xs,y::ys=>if x<y then -1 else if y<x then 1 else wo xs ys
theorem mJ (x:Int) (w:World):Calls Tryz.prog 261 #[.int .i64 x] w fun e w'=>e=.returned (.bool false)/\w'=w:=by
 have t3:=Tryz.underlying3;have a3:=Tryz.isAgg3;have z3:=Tryz.sizeOf3;have v3:=Tryz.zeroValue3;have t4:=Tryz.underlying4;have a4:=Tryz.isAgg4;have z4:=Tryz.sizeOf4;have v4:=Tryz.zeroValue4
 go_enter Tryz.func261,Tryz.ntmps261
 go_wp2
 go_ret
 exact ⟨by simp,rfl⟩
set_option maxHeartbeats 2000000 in
set_option maxRecDepth 100000 in
theorem zi1 (x y:Int) (w:World):Calls Tryz.prog 217 #[.int .i64 x,.int .i64 y] w fun e w'=>e=.returned (.int .i64 (Lib.compareInt x y))/\w'=w:=by
 have t3:=Tryz.underlying3;have a3:=Tryz.isAgg3;have z3:=Tryz.sizeOf3;have v3:=Tryz.zeroValue3;have t4:=Tryz.underlying4;have a4:=Tryz.isAgg4;have z4:=Tryz.sizeOf4;have v4:=Tryz.zeroValue4
 go_enter Tryz.func217,Tryz.ntmps217
 go_wp2_with (go_at_call 261;refine (mJ _ _).mono ?_;rintro e w' ⟨rfl,hw⟩;rw [hw])
 all_goals (go_ret;refine ⟨?_,rfl⟩;unfold Lib.compareInt;(repeat' split) <;> first | rfl | (exfalso;omega))
end Go.Proofs
namespace Go.Proofs
open Go.Shelf Go.Lib Go.RowKit
theorem zmc {xs ys:List Int} {k:Nat} {x y:Int} (hx:k<xs.length) (hy:k<ys.length) (ex:xs[k]! = x) (ey:ys[k]! = y):wo (xs.drop k) (ys.drop k)=if x<y then -1 else if y<x then 1 else wo (xs.drop (k+1)) (ys.drop (k+1)):=by
 rw [List.drop_eq_getElem_cons hx,List.drop_eq_getElem_cons hy];rw [getElem!_pos xs k hx] at ex;rw [getElem!_pos ys k hy] at ey;rw [ex,ey,wo]
theorem zmd {xs ys:List Int} {k:Nat} (hx:xs.length<=k):wo (xs.drop k) (ys.drop k)=if ys.length<=k then 0 else -1:=by
 rw [List.drop_eq_nil_of_le hx];by_cases h:ys.length<=k
 ·rw [if_pos h,List.drop_eq_nil_of_le h,wo]
 ·rw [if_neg h,List.drop_eq_getElem_cons (by omega),wo]
theorem zme {xs ys:List Int} {k:Nat} (hx:k<xs.length) (hy:ys.length<=k):wo (xs.drop k) (ys.drop k)=1:=by
 rw [List.drop_eq_nil_of_le hy,List.drop_eq_getElem_cons hx,wo]
set_option maxHeartbeats 2000000 in
set_option maxRecDepth 100000 in
theorem zi2 (p1 p2:Option Addr) (n c m d:Nat) (xs ys:List Int) (w:World) (hn:n=xs.length) (hm:m=ys.length) (hbig:n<=1000000) (hbig2:m<=1000000)
  (hc1:n=0\/∃ b1 o1,p1=some ⟨b1,o1,none⟩/\∀ j,j<n->w.cell? ⟨b1,o1+j,none⟩=some (.int .i64 xs[j]!)) (hc2:m=0\/∃ b2 o2,p2=some ⟨b2,o2,none⟩/\∀ j,j<m->w.cell? ⟨b2,o2+j,none⟩=some (.int .i64 ys[j]!)) :
  Calls Tryz.prog 161 #[.slice p1 n c,.slice p2 m d] w fun e w'=>e=.returned (.int .i64 (wo xs ys))/\∃ q,w'=w.drewN q:=by
 have H1:Aside (n=0\/∃ b1 o1,p1=some ⟨b1,o1,none⟩/\∀ j,j<n->w.cell? ⟨b1,o1+j,none⟩=some (.int .i64 xs[j]!)):=hc1;have H2:Aside (m=0\/∃ b2 o2,p2=some ⟨b2,o2,none⟩/\∀ j,j<m->w.cell? ⟨b2,o2+j,none⟩=some (.int .i64 ys[j]!)):=hc2
 clear hc1 hc2
 have mixed:Tryz.prog.follows .mixedOrders=true:=by kernel_rfl
 have t0:=Tryz.underlying0;have a0:=Tryz.isAgg0;have z0:=Tryz.sizeOf0;have v0:=Tryz.zeroValue0;have t3:=Tryz.underlying3;have a3:=Tryz.isAgg3;have z3:=Tryz.sizeOf3;have v3:=Tryz.zeroValue3;have t4:=Tryz.underlying4;have a4:=Tryz.isAgg4;have z4:=Tryz.sizeOf4;have v4:=Tryz.zeroValue4;have t46:=Tryz.underlying38;have a46:=Tryz.isAgg38;have z46:=Tryz.sizeOf38;have v46:=Tryz.zeroValue38;have A0:Aside (n=xs.length/\m=ys.length):=⟨hn,hm⟩
 clear hn hm
 go_enter Tryz.func161,Tryz.ntmps161
 go_wp2
 go_loopg [11] n (fun g s11 wr=>∃ k q:Nat,k<=n/\k<=m/\n-k<=g/\s11=.int .i64 k/\wr=w.drewN q/\Aside (wo (xs.drop k) (ys.drop k)=wo xs ys))
 case atStart=>exact ⟨0,0,Nat.zero_le _,Nat.zero_le _,by omega,rfl,rfl,rfl⟩
 case round =>
  obtain ⟨k,q,hk,hkm,hg,rfl,rfl,A⟩:=hrel;by_cases hlt:k<n
  ·by_cases hlm:k<m
   ·obtain ⟨b1,o1,rfl,hc1⟩:=H1.out.resolve_left (by omega);obtain ⟨b2,o2,rfl,hc2⟩:=H2.out.resolve_left (by omega)
    clear H1 H2
    have g1:w.cell? ⟨b1,o1+k,none⟩=some (.int .i64 xs[k]!):=hc1 k hlt;have g2:w.cell? ⟨b2,o2+k,none⟩=some (.int .i64 ys[k]!):=hc2 k hlm
    clear hc1 hc2
    generalize hxk:xs[k]! = x at g1
    generalize hyk:ys[k]! = y at g2
    have B:Aside (xs[k]! = x/\ys[k]! = y):=⟨hxk,hyk⟩
    clear hxk hyk
    obtain ⟨r,C,hcon⟩:∃ r,Aside (r = -1/\x<y\/r=1/\y<x\/r=0/\x=y)/\∀ w,Calls Tryz.prog 217 #[.int .i64 x,.int .i64 y] w fun e w'=>e=.returned (.int .i64 r)/\w'=w :=
     ⟨Lib.compareInt x y,(show Aside _ from by
      unfold Aside Lib.compareInt;by_cases c1:x<y
      ·rw [if_pos c1];exact .inl ⟨rfl,c1⟩
      ·rw [if_neg c1];by_cases c2:y<x
       ·simp [c2]
       ·have:x=y:=by omega
        simp [this]),fun w=>zi1 x y w⟩
    have D:=zmc (A0.out.1 ▸ hlt) (A0.out.2 ▸ hlm) B.out.1 B.out.2;have D':Aside (wo (xs.drop k) (ys.drop k)=if x<y then -1 else if y<x then 1 else wo (xs.drop (k+1)) (ys.drop (k+1))):=D
    clear D
    by_cases hr:r=0
    ·subst hr
     go_wp2_with (go_at_call 217;refine (hcon _).mono ?_;rintro e w' ⟨rfl,hw⟩;rw [hw])
     go_roundg (n-(k+1))
     case measure=>omega
     case rel =>
      refine ⟨k+1,q,by omega,by omega,by omega,by go_num,rfl,(show Aside _ from ?_)⟩;rcases C.out with ⟨c,_⟩ | ⟨c,_⟩ | ⟨_,rfl⟩
      ·omega
      ·omega
      ·have:=D'.out;rw [if_neg (by omega),if_neg (by omega)] at this;exact this.symm.trans A.out
    ·go_wp2_with (go_at_call 217;refine (hcon _).mono ?_;rintro e w' ⟨rfl,hw⟩;rw [hw])
     go_ret
     refine ⟨?_,q,rfl⟩;rw [<- A.out,D'.out];rcases C.out with ⟨rfl,c⟩ | ⟨rfl,c⟩ | ⟨c,_⟩
     ·rw [if_pos c];rfl
     ·rw [if_neg (show ¬ x<y by omega),if_pos c];rfl
     ·exact absurd c hr
   ·have D:Aside (wo (xs.drop k) (ys.drop k)=1):=zme (A0.out.1 ▸ hlt) (by have:=A0.out.2;omega);obtain ⟨b1,o1,rfl,hc1⟩:=H1.out.resolve_left (by omega)
    clear H1 H2
    have g1:w.cell? ⟨b1,o1+k,none⟩=some (.int .i64 xs[k]!):=hc1 k hlt
    clear hc1
    generalize hxk:xs[k]! = x at g1
    have hmk:m<=k:=by omega
    go_wp2
    go_ret
    refine ⟨?_,q,rfl⟩;rw [<- A.out,D.out];rfl
  ·have hkn:k=n:=by omega
   have D:Aside (wo (xs.drop k) (ys.drop k)=if ys.length<=k then 0 else -1):=zmd (by have:=A0.out.1;omega)
   clear H1 H2
   by_cases hlm:k<m
   ·have D':Aside (wo (xs.drop k) (ys.drop k) = -1):=D.out.trans (if_neg (by have:=A0.out.2;omega))
    go_wp2
    go_ret
    refine ⟨?_,q,rfl⟩;rw [<- A.out,D'.out];rfl
   ·have D':Aside (wo (xs.drop k) (ys.drop k)=0):=D.out.trans (if_pos (by have:=A0.out.2;omega))
    go_wp2
    go_ret
    refine ⟨?_,q,rfl⟩;rw [<- A.out,D'.out];rfl
end Go.Proofs
namespace Go.Proofs
theorem wW (x:Int) (xs:List Int) (y:Int) (ys:List Int):wo (x::xs) (y::ys)=if x<y then -1 else if y<x then 1 else wo xs ys:=by rw [wo]
theorem vL:∀ a b:List Int,wo b a = - wo a b
 | [],[]=>by rw [wo];rfl
 | [],_::_=>by rw [wo,wo];rfl
 | _::_,[]=>by rw [wo,wo]
 | x::xs,y::ys=>by
  rw [wW,wW,vL xs ys];by_cases h:x<y
  ·simp only [if_pos h,if_neg (show ¬ y<x by omega)];rfl
  ·rw [if_neg h];by_cases g:y<x
   ·simp only [if_pos g,if_neg h]
   ·simp only [if_neg g,if_neg h]
theorem cT:∀ {a b:List Int},wo a b=0->a=b
 | [],[],_=>rfl
 | [],_::_,h=>by rw [wo] at h;omega
 | _::_,[],h=>by rw [wo] at h;omega
 | x::xs,y::ys,h=>by
  rw [wW] at h;by_cases c:x<y
  ·rw [if_pos c] at h;omega
  ·rw [if_neg c] at h;by_cases g:y<x
   ·rw [if_pos g] at h;omega
   ·rw [if_neg g] at h;rw [cT h,show x=y by omega]
theorem wV (a:List Int):wo a a=0:=by have:=vL a a;omega
theorem d7:∀ {a b c:List Int},wo a b<=0->wo b c<=0->wo a c<=0
 | [],_,[],_,_=>by rw [wo];omega
 | [],_,_::_,_,_=>by rw [wo];omega
 | _::_,[],_,h,_=>by rw [wo] at h;omega
 | x::xs,y::ys,[],_,h=>by rw [wo] at h;omega
 | x::xs,y::ys,z::zs,h,g=>by
  rw [wW] at h g ⊢;by_cases c1:x<y
  ·by_cases c2:y<z
   ·rw [if_pos (by omega)];omega
   ·rw [if_neg c2] at g;by_cases c3:z<y
    ·rw [if_pos c3] at g;omega
    ·rw [if_pos (by omega)];omega
  ·rw [if_neg c1] at h;by_cases c4:y<x
   ·rw [if_pos c4] at h;omega
   ·rw [if_neg c4] at h;by_cases c2:y<z
    ·rw [if_pos (by omega)];omega
    ·rw [if_neg c2] at g;by_cases c3:z<y
     ·rw [if_pos c3] at g;omega
     ·rw [if_neg c3] at g;rw [if_neg (by omega),if_neg (by omega)];exact d7 h g
theorem wN {a b c:List Int} (h:wo a b<0) (g:wo b c<0):wo a c<0:=by
 have:=d7 (Int.le_of_lt h) (Int.le_of_lt g);by_cases e:wo a c=0
 ·have:=cT e;subst this;have:=vL a b;omega
 ·omega
end Go.Proofs
namespace Go.Ev
open Go.Proofs
def aZ (A:List (List Int×Nat)) (l:List Int) (n:Nat):List (List Int×Nat):=match A with
 | []=>[(l,n)]
 |(a,c)::A=>if wo a l<0 then (a,c)::aZ A l n else if a=l then (a,c+n)::A else (l,n)::(a,c)::A
structure zf6 (A:List (List Int×Nat)) (M:List (List Int)):Prop where
 srt:A.Pairwise fun a b=>wo a.1 b.1<0
 cnt:∀ p∈A,p.2=M.count p.1/\0<p.2
 all:∀ y∈M,∃ p∈A,p.1=y
theorem zf6.mem {A:List (List Int×Nat)} {M:List (List Int)} (T:zf6 A M) (p:List Int×Nat):p∈A↔p.2=M.count p.1/\0<p.2:=by
 refine ⟨T.cnt p,fun ⟨h1,h2⟩ => ?_⟩;have hm:p.1∈M:=List.count_pos_iff.1 (by omega);obtain ⟨q,hq,e⟩:=T.all _ hm;have:=(T.cnt q hq).1;have:q=p:=by
  refine Prod.ext e ?_;rw [this,e,h1]
 exact this ▸ hq
theorem zf6.nil:zf6 [] []:=⟨.nil,by simp,by simp⟩
theorem zf7 {l:List Int} {n:Nat}:∀ {A:List (List Int×Nat)} {p:List Int×Nat},p∈aZ A l n->p.1=l\/p∈A
 | [],p,h=>by
  simp only [aZ,Zbs] at h;exact .inl (by rw [h])
 |(a,c)::A,p,h=>by
  rw [aZ] at h;split at h
  ·rcases List.mem_cons.1 h with e | e
   ·exact .inr (by simp [e])
   ·rcases zf7 e with q | q
    ·exact .inl q
    ·exact .inr (by simp [q])
  ·split at h
   ·rename_i e;rcases List.mem_cons.1 h with q | q
    ·exact .inl (by rw [q,<- e])
    ·exact .inr (by simp [q])
   ·rcases List.mem_cons.1 h with q | q
    ·exact .inl (by rw [q])
    ·exact .inr q
theorem zf8 {l:List Int} {n:Nat}:∀ {A:List (List Int×Nat)},A.Pairwise (fun a b=>wo a.1 b.1<0)->(aZ A l n).Pairwise fun a b=>wo a.1 b.1<0
 | [],_=>by simp [aZ]
 |(a,c)::A,h=>by
  rw [Zaw] at h;rw [aZ];split
  ·rename_i c1;refine List.pairwise_cons.2 ⟨fun p hp => ?_,zf8 h.2⟩;rcases zf7 hp with e | e
   ·rw [e];exact c1
   ·exact h.1 p e
  ·rename_i c1;split
   ·exact List.pairwise_cons.2 ⟨fun p hp=>h.1 p hp,h.2⟩
   ·rename_i c2;have hl:wo l a<0:=by
     have h1:=vL a l;by_cases e:wo a l=0
     ·exact absurd (cT e) c2
     ·omega
    refine List.pairwise_cons.2 ⟨fun p hp => ?_,List.pairwise_cons.2 h⟩;rcases List.mem_cons.1 hp with e | e
    ·rw [e];exact hl
    ·exact wN hl (h.1 p e)
def aT (A:List (List Int×Nat)) (y:List Int):Nat:=(A.map fun p=>if p.1=y then p.2 else 0).sum
theorem zf9 {l:List Int} {n:Nat} (y:List Int):∀ (A:List (List Int×Nat)),aT (aZ A l n) y=(if l=y then n else 0)+aT A y
 | []=>by simp [aZ,aT]
 |(a,c)::A=>by
  rw [aZ];split
  ·have:=zf9 (l:=l) (n:=n) y A;simp only [aT,Zay,Zbi] at this ⊢;omega
  ·split
   ·rename_i e;subst e;simp only [aT,Zay,Zbi];split <;> omega
   ·simp only [aT,Zay,Zbi]
theorem bY {y:List Int}:∀ {A:List (List Int×Nat)},(∀ q∈A,q.1≠y)->aT A y=0
 | [],_=>rfl
 | a::A,h=>by
  have:=bY (y:=y) (A:=A) fun q hq=>h q (by simp [hq]);simp only [aT,Zay,Zbi] at this ⊢;rw [if_neg (h a (by simp)),this]
theorem zga:∀ {A:List (List Int×Nat)},A.Pairwise (fun a b=>wo a.1 b.1<0)->∀ p∈A,aT A p.1=p.2
 | [],_,p,h=>by cases h
 | a::A,hA,p,h=>by
  rw [Zaw] at hA;simp only [aT,Zay,Zbi];rcases List.mem_cons.1 h with e | e
  ·subst e;rw [if_pos rfl];have:aT A p.1=0:=bY fun q hq e=>by
    have:=hA.1 q hq;rw [e,wV] at this;omega
   rw [aT] at this;omega
  ·have h1:=hA.1 p e;rw [if_neg (fun e=>by rw [e,wV] at h1;omega)];have:=zga hA.2 p e;rw [aT] at this;omega
theorem zps {A:List (List Int×Nat)} {y:List Int} (h:0<aT A y):∃ p∈A,p.1=y:=by
 by_cases c:∃ p∈A,p.1=y
 ·exact c
 ·have:=bY (A:=A) (y:=y) fun q hq e=>c ⟨q,hq,e⟩;omega
structure Tab (A:List (List Int×Nat)) (M:List (List Int)):Prop where
 srt:A.Pairwise fun a b=>wo a.1 b.1<0
 cnt:∀ y,aT A y=M.count y
 pos:∀ p∈A,0<p.2
theorem Tab.is {A:List (List Int×Nat)} {M:List (List Int)} (T:Tab A M):zf6 A M:={
 srt:=T.srt
 cnt p hp:=⟨by rw [<- T.cnt,zga T.srt p hp],T.pos p hp⟩
 all y hy:=zps (by rw [T.cnt];exact List.count_pos_iff.2 hy) }
theorem Tab.nil:Tab [] []:=⟨.nil,fun _=>rfl,by simp⟩
theorem zgb {l:List Int} {n:Nat} (hn:0<n):∀ {A:List (List Int×Nat)},(∀ p∈A,0<p.2)->∀ p∈aZ A l n,0<p.2
 | [],_,p,h=>by
  simp only [aZ,Zbs] at h;rw [h];exact hn
 |(a,c)::A,hA,p,h=>by
  rw [aZ] at h;split at h
  ·rcases List.mem_cons.1 h with e | e
   ·rw [e];exact hA _ (by simp)
   ·exact zgb hn (fun q hq=>hA q (by simp [hq])) p e
  ·split at h
   ·rcases List.mem_cons.1 h with e | e
    ·rw [e];have:=hA (a,c) (by simp);simp only at this ⊢;omega
    ·exact hA p (by simp [e])
   ·rcases List.mem_cons.1 h with e | e
    ·rw [e];exact hn
    ·exact hA p e
theorem Tab.ins {A:List (List Int×Nat)} {M:List (List Int)} {l:List Int} {n:Nat} (T:Tab A M) (hn:0<n):Tab (aZ A l n) (List.replicate n l++M):={
 srt:=zf8 T.srt
 cnt y:=by rw [zf9,T.cnt,List.count_append,List.count_replicate];simp only [beq_iff_eq]
 pos:=zgb hn T.pos }
theorem Tab.perm {A:List (List Int×Nat)} {M M':List (List Int)} (T:Tab A M) (h:M.Perm M'):Tab A M':=⟨T.srt,fun y=>(T.cnt y).trans (h.count_eq y),T.pos⟩
theorem Tab.fold {C:List (List Int×Nat)} {N:List (List Int)}:∀ {A:List (List Int×Nat)} {M:List (List Int)},Tab A M->Tab C N->Tab (C.foldl (fun A p=>aZ A p.1 p.2) A) (N++M):=by
 intro A M TA TC;have key:∀ (C:List (List Int×Nat)) (A:List (List Int×Nat)) (M:List (List Int)),Tab A M->(∀ p∈C,0<p.2)->Tab (C.foldl (fun A p=>aZ A p.1 p.2) A) ((C.flatMap fun p=>List.replicate p.2 p.1)++M):=by
  intro C
  induction C with
  | nil=>intro A M T _;exact T
  | cons c C ih =>
   intro A M T h;rw [Zbp];refine (ih _ _ (T.ins (h c (by simp))) fun p hp=>h p (by simp [hp])).perm ?_;rw [Zbc,<- Zcm];exact List.perm_append_comm.append_right M
 refine (key C A M TA TC.pos).perm (List.Perm.append_right M ?_);rw [List.perm_iff_count];intro y;rw [<- TC.cnt];have:∀ C:List (List Int×Nat),(C.flatMap fun p=>List.replicate p.2 p.1).count y=aT C y:=by
  intro C
  induction C with
  | nil=>rfl
  | cons c C ih =>
   rw [Zbc,List.count_append,ih,List.count_replicate];simp only [aT,Zay,Zbi,beq_iff_eq]
 exact this C
theorem bK:∀ a b:List Int,j7 a b=decide (wo a b<0)
 | [],[]=>by rw [j7,wo];rfl
 | [],_::_=>by rw [j7,wo];rfl
 | _::_,[]=>by rw [j7,wo];rfl
 | x::xs,y::ys=>by
  rw [j7,wW,bK xs ys];by_cases e:x=y
  ·subst e;rw [if_pos rfl,if_neg (show ¬ x<x by omega),if_neg (show ¬ x<x by omega)]
  ·rw [if_neg e];by_cases g:x<y
   ·simp only [if_pos g,g,decide_true];rfl
   ·rw [if_neg g,if_pos (show y<x by omega)];simp only [g,decide_false];rfl
end Go.Ev
namespace Go.Ev
open Go Go.Proofs
variable {B:Nat}
theorem lex_irrefl (a:List Int):j7 a a=false:=by rw [bK,wV];rfl
theorem cmp_neg (a b:List Int):cmpL a b<0↔j7 a b=true:=by
 unfold cmpL;cases h:j7 a b with
 | true=>simp
 | false =>
  rw [if_neg (by simp)];split <;> simp
theorem zgc (a b:List Int):cmpL a b=0↔a=b:=by
 unfold cmpL;cases h:j7 a b with
 | true =>
  simp;rintro rfl;rw [lex_irrefl] at h;cases h
 | false =>
  rw [if_neg (by simp)];split
  ·simp [*]
  ·simp [*]
end Go.Ev
namespace Go.Ev
open Go Go.Proofs Go.RowKit
def dV:List AV->Option (List (List UInt8))
 | []=>some []
 | .str s::l=>match dV l with
  | some xs=>some (s::xs)
  | none=>none
 | _=>none
def zgd (l:List AV) (sep:List UInt8):Option AV:=match dV l with
 | some xs=>bif Nat.ble (Lib.join xs sep).length 100000 then some (.str (Lib.join xs sep)) else none
 | none=>none
def zpt (cap:Option Nat) (ln:Nat):Bool:=match cap with
 | some k=>Nat.ble ln k
 | none=>true
def zge (v:AV) (sep:List UInt8) (h:T Blk):Option AV:=match v with
 | .sl id off ln cap esz=>match T.get .no id h with
  | .cells _ m t=>bif Nat.beq esz 1&&Nat.ble (off+ln) m&&Nat.ble ln 100000&&zpt cap ln then zgd (zX t off ln) sep else none
  | _=>none
 | .zh=>some (.str [])
 | _=>none
def zpu (f:Nat) (args:List AV) (h:T Blk):Option (AV×T Blk):=bif Nat.beq f 171 then (match args with
 | [v,.str sep]=>match zge v sep h with
  | some v=>some (v,h)
  | none=>none
 | _=>none) else none
theorem zgf:∀ {l:List AV} {xs:List (List UInt8)},dV l=some xs->l=xs.map .str
 | [],xs,h=>by simp [dV] at h;subst h;rfl
 | x::l,xs,h=>by
  cases x <;> first | (simp [dV] at h;done) | skip
  simp only [dV] at h;cases hl:dV l with
  | none=>simp [hl] at h
  | some ys=>simp [hl] at h;subst h;simp [zgf hl]
theorem HR.below {P:Program} {B:Nat} {E:Env} {h:T Blk} {nx:Pa} {w w':World} (H:HR P B E h nx w) (hb:Below w.heap.size w w'):HR P B E h nx w'/\Ex E E w w':=by
 refine ⟨{
  blk:=fun id hid=>by
   obtain ⟨b,n,o,q1,q2,q3⟩:=H.blk id hid;exact ⟨b,n,o,q1,by rw [hb.block b (H.lt _ _ _ q1).2];exact q2,q3⟩
  inj:=H.inj
  fresh:=H.fresh
  lt:=fun id b n hid=>⟨(H.lt id b n hid).1,Nat.lt_of_lt_of_le (H.lt id b n hid).2 hb.size⟩
  base:=Zbf H.base hb.size
  frz:=fun b i v hf=>by
   obtain ⟨⟨c,ty,fr,q1,q2⟩,q3⟩:=H.frz b i v hf;exact ⟨⟨c,ty,fr,by rw [hb.block b (Array.getElem?_eq_some_iff.1 q1).1];exact q1,q2⟩,q3⟩ },?_⟩
 exact ⟨.refl _,hb.os,hb.tape,hb.output,hb.size,fun b hlt _=>hb.block b hlt,fun id b n hid=>.inr ⟨id,n,hid⟩,fun _ _ v h=>.inr (.inl ⟨v,h⟩),fun b L hL=>⟨L,by rw [hb.block b (Array.getElem?_eq_some_iff.1 hL).1];exact hL,.refl _⟩⟩
theorem zpv {B:Nat}:JOk Tryz.prog B zpu:=by
 intro E h nx w f args vs v h2 H hv hj;unfold zpu at hj;cases hf:Nat.beq f 171 with
 | false=>simp [hf] at hj
 | true =>
  obtain rfl:=yA hf;rw [hf,cond_true] at hj;split at hj
  case h_2=>cases hj
  rename_i _ x sep;cases hjj:zge x sep h with
  | none=>simp [hjj] at hj
  | some v0 =>
  simp only [hjj,Option.some.injEq,Prod.mk.injEq] at hj;obtain ⟨rfl,rfl⟩:=hj;have hj:=hjj
  clear hjj
  refine ⟨_,Tryz.func171,by kernel_rfl,by kernel_rfl,fun n=>callsIn_wide.2 ?_⟩;obtain ⟨l⟩:=vs;simp only [VRL] at hv;obtain ⟨u,_,rfl,hu,s,_,rfl,hs,rfl⟩:=hv;simp only [VR] at hs;subst hs
  have fin:∀ (xs:List (List UInt8)) (w':World) (e:Ending),v0=.str (Lib.join xs sep)->e=.returned (.string ⟨(Lib.join ((xs.map fun s=>(⟨s.toArray⟩:ByteArray)).map (·.data.toList)) (⟨sep.toArray⟩:ByteArray).data.toList).toArray⟩)->Below w.heap.size w w' ->
    ∃ u E',e=.returned u/\VR E' v0 u/\HR Tryz.prog B E' h nx w'/\Ex E E' w w':=by
   intro xs w' e hve he hb;obtain ⟨h1,h2⟩:=H.below hb;refine ⟨_,E,he,?_,h1,h2⟩;rw [hve];simp only [VR,Zcl]
   congr 2
   have:(xs.map ((fun x=>x.data.toList) ∘ fun s=>(⟨s.toArray⟩:ByteArray)))=xs:=by
    conv=>rhs;rw [<- List.map_id xs]
    exact Zcn fun _ _=>rfl
   rw [this]
  unfold zge at hj;split at hj
  ·rename_i id off ln cap esz;split at hj
   ·rename_i op m t hb;cases hq:(Nat.beq esz 1&&Nat.ble (off+ln) m&&Nat.ble ln 100000&&zpt cap ln) with
    | false=>simp [hq] at hj
    | true =>
     rw [hq,cond_true] at hj;simp only [Zaf] at hq;obtain ⟨⟨⟨q1,q2⟩,q3⟩,q4⟩:=hq;obtain rfl:=yA q1;have q2:=zW q2;have q3:=zW q3;unfold zgd at hj;cases hx:dV (zX t off ln) with
     | none=>simp [hx] at hj
     | some xs =>
      simp only [hx] at hj;cases hl:Nat.ble (Lib.join xs sep).length 100000 with
      | false=>simp [hl] at hj
      | true =>
       rw [hl,cond_true] at hj;have hl:=zW hl;obtain rfl:=(Option.some.inj hj).symm;have hxs:=zgf hx;have hln:xs.length=ln:=by
        have:=congrArg List.length hxs;simpa using this.symm
       obtain ⟨b,n,c,hE,rfl,hcap⟩:=hu.rX;obtain ⟨b',n',o,h1,h2,h3⟩:=H.blk id (by rw [hb];intro e;cases e);rw [hE] at h1;cases h1;rw [hb] at h3;obtain ⟨cs,ty,fr,rfl,_,_,_,_,hc⟩:=h3
       have hjn:=Tryz.strings_Join b off c (xs.map fun s=>(⟨s.toArray⟩:ByteArray)) ⟨sep.toArray⟩ w (by
        intro j x hx2;rw [List.getElem?_map] at hx2;cases hxj:xs[j]? with
        | none=>simp [hxj] at hx2
        | some s =>
         simp [hxj] at hx2;subst hx2;have hjl:j<ln:=by rw [<- hln];exact (List.getElem?_eq_some_iff.1 hxj).1
         obtain ⟨_,v',g1,g2⟩:=hc (off+j) (by omega);have he:T.get .undef (.of (off+j)) t=.str s:=by
          have e1:=zV t off ln j hjl;rw [hxs] at e1;simp [hxj] at e1;exact e1.symm
         rw [he] at g2;simp only [VR] at g2;subst g2
         simp [World.cell?,h2,g1]) (H.lt _ _ _ hE).2 (by simp;omega) (by
          simp only [Zaq,hln];cases cap with
          | none=>exact hcap.1
          | some k =>
           have h4:ln<=k:=zW q4;have h5:c=k:=hcap;omega) (by
          have:((xs.map fun s=>(⟨s.toArray⟩:ByteArray)).map (·.data.toList))=xs:=by
           rw [Zcl]
           conv=>rhs;rw [<- List.map_id xs]
           exact Zcn fun _ _=>rfl
          rw [this];show (Lib.join xs sep).length<=_;omega)
       rw [Zaq,hln] at hjn;exact hjn.mono fun e w' ⟨he,hb⟩=>fin xs w' e rfl he hb
   ·cases hj
  ·obtain rfl:=(Option.some.inj hj).symm;simp only [VR] at hu;subst hu;exact (Tryz.strings_Join_none none 0 _ w).mono fun e w' ⟨he,hb⟩=>fin [] w' e rfl he (hb ▸ Below.refl _ _)
  ·cases hj
end Go.Ev
namespace Go.Ev
open Go Go.Proofs
variable {B:Nat}
def dig (n:Nat):List UInt8:=if n<10 then [UInt8.ofNat (48+n)] else [UInt8.ofNat (48+n / 10),UInt8.ofNat (48+n%10)]
def und (l:List UInt8):Nat:=match l with
 | [a]=>a.toNat-48
 | [a,b]=>10*(a.toNat-48)+(b.toNat-48)
 | _=>0
theorem zkm:∀ n<100,und (dig n)=n:=by decide +kernel
theorem zpw:∀ n<100,(32:UInt8)∉dig n:=by decide +kernel
theorem zsn (n:Nat):1<=(dig n).length/\(dig n).length<=2:=by unfold dig;split <;> simp
def zzd:List UInt8:=[48,49,50,51,52,53,54,55,56,57,97,98,99,100,101,102,103,104,105,106,107,108,109,110,111,112,113,114,115,116,117,118,119,120,121,122]
theorem zpx:∀ n<10,(zzd.drop n).take 1=dig n:=by decide +kernel
theorem sSs {s:List UInt8} {a b:Nat} {K:AV->OP} (hab:a<=b) (hb:b<=s.length):cS (.str s) (some (I (a:Int))) (some (I (b:Int))) K=K (.str ((s.drop a).take (b-a))):=by
 show (match bnd (some (I (b:Int))) s.length s.length with
   | none=>Out.no 18
   | some h=>match bnd (some (I (a:Int))) h 0 with
    | none=>.no 18
    | some l=>K (.str ((s.drop l).take (h-l))))=_
 rw [zbm hb]
 dsimp only
 rw [zbm hab]
def zug (s:List UInt8):Bool:=Nat.beq s.length 200&&(List.range 100).all fun n=>decide (n<10)||((s.drop (n*2)).take 2==dig n)
theorem sSs2 {s:List UInt8} (hs:zug s=true) {n:Nat} (h:n<100) (c:¬ n<10) {K:AV->OP}:cS (.str s) (some (I ((n*2:Nat):Int))) (some (I ((n*2+2:Nat):Int))) K=K (.str (dig n)):=by
 simp only [zug,Zaf,Zak,Zbd,Zby,decide_eq_true_eq,beq_iff_eq] at hs;obtain ⟨h1,h2⟩:=hs;have h1:=yA h1;rw [sSs (by omega) (by omega),show n*2+2-n*2=2 by omega,(h2 n h).resolve_left c]
theorem zpy {n:Nat} (h:n<100):Pure Tryz.prog B 282 [I (n:Int)] (· = .str (dig n)):=by
 intro p h' nx K hK;refine zL zP yj 10 fun hf => ?_;rw [tZ.go];simp only [jm];by_cases c:n<10
 ·simp only [show (n:Int)<10 by omega,decide_true,zC];rw [jd (by omega),show (n:Int)+1=((n+1:Nat):Int) by omega,sSs (by omega) (by simp only [Zav,Zcs];omega)];refine hK _ ?_ hf;rw [show n+1-n=1 by omega];exact congrArg AV.str (zpx n c)
 ·simp only [show ¬ (n:Int)<10 by omega,decide_false,zD];rw [fJ (by omega),show (n:Int)*2=((n*2:Nat):Int) by omega,fJ (by omega),show (n:Int)*2=((n*2:Nat):Int) by omega,jd (by omega),show ((n*2:Nat):Int)+2=((n*2+2:Nat):Int) by omega];refine Eq.trans (sSs2 ?_ h c) ?_
  ·decide +kernel
  ·exact hK _ rfl hf
theorem zso {n:Nat} (h:n<100):Pure Tryz.prog B 170 [I (n:Int)] (· = .str (dig n)):=by
 intro p h' nx K hK;refine zL zP yj 10 fun hf => ?_;rw [og.go];refine yQ (p:=.of 222) (K:=fun v1 h2 n3=>K v1 h2 n3) (zL zP yj 10 fun hf => ?_) fun _ _ _ _ q=>q;rw [oh.go];refine yQ (p:=.of 263) (K:=fun v1 h2 n3=>K v1 h2 n3) (zL zP yj 10 fun hf => ?_) fun _ _ _ _ q=>q;rw [fF.go];simp only [dh,decide_true,zC,fO,jm,show (0:Int)<=(n:Int) by omega,y9,show (n:Int)<100 by omega,zT];refine zpy h _ _ _ _ ?_;rintro _ rfl _;exact hK _ rfl hf
def txt (l:List Int):List UInt8:=Lib.join (l.map fun x=>dig x.toNat) [32]
theorem zsp (l:List Int):(txt l).length<=3*l.length:=by
 cases l with
 | nil=>simp [txt,Lib.join_nil]
 | cons x l =>
  rw [txt,Zay,Lib.join_length,<- Zay (f:=fun x:Int=>dig x.toNat)];have:∀ l:List Int,Lib.lens (l.map fun x=>dig x.toNat)<=2*l.length:=by
   intro l
   induction l with
   | nil=>simp [Lib.lens]
   | cons y l ih =>
    have:=(zsn y.toNat).2;simp only [Lib.lens,Zay,Zbi,Zav] at ih ⊢;omega
  have:=this (x::l);simp only [Zaq,Zav,Zcs] at this ⊢;omega
theorem pG {t t':List UInt8} (ht:t=[]\/∃ u,t=32::u) (ht':t'=[]\/∃ u,t'=32::u):∀ {x x':List UInt8},32∉x->32∉x'->x++t=x'++t'->x=x'/\t=t'
 | [],[],_,_,h=>⟨rfl,h⟩
 | [],b::x',_,h2,h=>by
  rcases ht with rfl | ⟨u,rfl⟩
  ·simp at h
  ·simp only [Zbu,Zbr,List.cons.injEq] at h;exact absurd (List.mem_cons.2 (.inl h.1)) h2
 | a::x,[],h1,_,h=>by
  rcases ht' with rfl | ⟨u,rfl⟩
  ·simp at h
  ·simp only [Zbu,Zbr,List.cons.injEq] at h;exact absurd (List.mem_cons.2 (.inl h.1.symm)) h1
 | a::x,b::x',h1,h2,h=>by
  simp only [Zbr,List.cons.injEq] at h;obtain ⟨rfl,h⟩:=h;obtain ⟨e1,e2⟩:=pG ht ht' (fun q=>h1 (Zam _ q)) (fun q=>h2 (Zam _ q)) h;exact ⟨by rw [e1],e2⟩
theorem dE (r:List (List UInt8)):Lib.joinTail [32] r=[]\/∃ u,Lib.joinTail [32] r=32::u:=by
 cases r with
 | nil=>exact .inl rfl
 | cons y r=>exact .inr ⟨_,rfl⟩
theorem zgg:∀ {r r':List (List UInt8)},(∀ x∈r,32∉x)->(∀ x∈r',32∉x)->Lib.joinTail [32] r=Lib.joinTail [32] r'->r=r'
 | [],[],_,_,_=>rfl
 | [],y::r',_,_,h=>by cases h
 | y::r,[],_,_,h=>by cases h
 | y::r,z::r',h1,h2,h=>by
  have e:∀ (y:List UInt8) r,Lib.joinTail [32] (y::r)=32::(y++Lib.joinTail [32] r):=fun y r=>rfl;rw [e,e,List.cons.injEq] at h;obtain ⟨e1,e2⟩:=pG (dE r) (dE r') (h1 y (by simp)) (h2 z (by simp)) h.2;rw [e1,zgg (fun x hx=>h1 x (by simp [hx])) (fun x hx=>h2 x (by simp [hx])) e2]
def Sml (l:List Int):Prop:=∀ x∈l,0<=x/\x<100
theorem zsq {l l':List Int} (h:Sml l) (h':Sml l') (hn:l≠[]) (hn':l'≠[]) (e:txt l=txt l'):l=l':=by
 have key:∀ {l l':List Int},Sml l->Sml l'->l.map (fun x=>dig x.toNat)=l'.map (fun x=>dig x.toNat)->l=l':=by
  intro l
  induction l with
  | nil=>intro l' _ _ e;cases l' with
   | nil=>rfl
   | cons _ _=>cases e
  | cons a l ih =>
   intro l' h h' e;cases l' with
   | nil=>cases e
   | cons b l' =>
    simp only [Zay,List.cons.injEq] at e;have ha:=h a (by simp);have hb:=h' b (by simp);have:=zkm a.toNat (by omega);rw [e.1,zkm b.toNat (by omega)] at this;obtain rfl:a=b:=by omega
    rw [ih (fun x hx=>h x (by simp [hx])) (fun x hx=>h' x (by simp [hx])) e.2]
 have fr:∀ {l:List Int},Sml l->∀ w∈l.map (fun x=>dig x.toNat),(32:UInt8)∉w:=fun h w hw=>by
  obtain ⟨x,hx,rfl⟩:=List.mem_map.1 hw;have:=h x hx;exact zpw _ (by omega)
 refine key h h' ?_;cases l with
 | nil=>exact absurd rfl hn
 | cons a l =>
  cases l' with
  | nil=>exact absurd rfl hn'
  | cons b l' =>
   have f1:=fr h;have f2:=fr h';simp only [txt,Zay,Lib.join_cons] at e;rw [Zay] at f1 f2 ⊢;rw [Zay];obtain ⟨e1,e2⟩:=pG (dE _) (dE _) (f1 _ (by simp)) (f2 _ (by simp)) e;rw [e1,zgg (fun x hx=>f1 x (by simp [hx])) (fun x hx=>f2 x (by simp [hx])) e2]
theorem zmf (xs:List (List UInt8)):dV (xs.map .str)=some xs:=by
 induction xs with
 | nil=>rfl
 | cons x xs ih=>simp only [Zay,dV,ih]
theorem zsr {l:List Int} (hl:l.length<=1000) (hs:Sml l):Pure Tryz.prog B 103 [encI l] (· = .str (txt l)):=by
 refine yF fun h nx K H0 hK=>zL zP yj 10000 fun hf => ?_;rw [uo.go];simp only [zE];refine uo.L1 (fun m x2 x6 h' nx'=>∃ (i:Nat) (o:Option Pa),x6=I i/\x2=qp o 1 i/\l.length-i=m/\i<=l.length/\Hp h h' nx' [.gro o 1 i ((l.take i).map fun x=>AV.str (dig x.toNat))]) (m:=l.length) (by omega) ⟨0,none,rfl,rfl,rfl,by omega,H0.tN 1⟩ ?_;rintro m z2 z3 z6 z7 h1 nx1 R ⟨i,o,rfl,rfl,rfl,hi,H1⟩ hR;simp only [jm];by_cases hlt:i<l.length
 ·simp only [show (i:Int)<(l.length:Int) by omega,decide_true,zC];have hx:l[i]? = some l[i]:=List.getElem?_eq_getElem hlt;have hb:=hs _ (Zao hlt);rw [dw rfl hlt,ldL (sH hx),show l[i]=((l[i].toNat:Nat):Int) by omega];refine zso (by omega) _ _ _ _ ?_;rintro _ rfl _;refine H1.zu (l:=[.str (dig l[i].toNat)]) rfl fun tb h2 nx2 H2 => ?_;refine H2.oN (k:=1) (o:=o) (c:=1) (new:=[.str (dig l[i].toNat)]) rfl (yu.rd (l:=[.str (dig l[i].toNat)]) (n:=1) (H2.own _ (Zai ..)) rfl) rfl rfl (by decide) (by decide) (by omega) fun o' h3 nx3 _ H3 => ?_;rw [jd (by omega)];refine hR _ _ _ _ _ _ _ (by omega) ⟨i+1,o',rfl,rfl,rfl,by omega,?_⟩;rw [Zan,hx,Zbq];exact H3.drop
 ·simp only [show ¬ (i:Int)<(l.length:Int) by omega,decide_false,zD];obtain rfl:i=l.length:=by omega
  rw [Zal (by omega)] at H1;rw [uo.k8];have own:=H1.own _ (Zai ..);have hj:zpu 171 [qp o 1 l.length,.str [32]] h1=some (.str (txt l),h1):=by
   have key:zge (qp o 1 l.length) [32] h1=some (.str (txt l)):=by
    cases o with
    | none =>
     obtain ⟨_,q⟩:=own;obtain rfl:l=[]:=Zbe q
     rfl
    | some id =>
     obtain ⟨t,g1,g2,g3⟩:=own;rw [Zbw] at g1 g3
     show (match T.get .no id h1 with
      | .cells _ m t=>bif Nat.beq 1 1&&Nat.ble (0+l.length) m&&Nat.ble l.length 100000&&zpt none l.length then zgd (zX t 0 l.length) [32] else none
      | _=>none)=_
     rw [g1]
     dsimp only
     rw [Zac (by omega),Zac (by omega),g3];show zgd _ _=_;have e:(l.map fun x=>AV.str (dig x.toNat))=(l.map fun x=>dig x.toNat).map .str:=by rw [Zcl];rfl
     unfold zgd;rw [e,zmf];show (bif Nat.ble (txt l).length 100000 then some (AV.str (txt l)) else none)=_;rw [Zac (by have:=zsp l;omega)];rfl
   show (match zge (qp o 1 l.length) [32] h1 with
    | some v=>some (v,h1)
    | none=>none)=_
   rw [key]
  exact c7 zpv hj (hK _ _ _ _ _ H1 (zH rfl) rfl)
end Go.Ev
namespace Go.Ev
open Go Go.Proofs Go.RowKit Go.Sort
def xA:List AV->Option (List Int)
 | []=>some []
 | .int k n::l=>match k with
  | .i64=>match xA l with
   | some xs=>some (n::xs)
   | none=>none
  | _=>none
 | _=>none
theorem zgh:∀ {l:List AV} {xs:List Int},xA l=some xs->l=xs.map I
 | [],xs,h=>by simp [xA] at h;subst h;rfl
 | x::l,xs,h=>by
  cases x <;> first | (simp [xA] at h;done) | skip
  rename_i k n;cases k <;> first | (simp [xA] at h;done) | skip
  simp only [xA] at h;cases hl:xA l with
  | none=>simp [hl] at h
  | some ys=>simp [hl] at h;subst h;simp [zgh hl]
theorem zmg (l:List Int):xA (l.map I)=some l:=by
 induction l with
 | nil=>rfl
 | cons a l ih=>show (match xA (l.map I) with | some xs=>some (a::xs) | none=>none)=_;rw [ih]
def zgi (v:AV) (h:T Blk):Option (T Blk):=match v with
 | .sl id off ln _ esz=>match T.get .no id h with
  | .cells op m t=>bif Nat.beq esz 1&&Nat.ble (off+ln) m&&Nat.ble ln 1000000 then (match xA (zX t off ln) with
   | some l=>some (T.set .no (.cells op m (yU ((srt l).map I) t off)) id h)
   | none=>none) else none
  | _=>none
 | .zh=>some h
 | _=>none
def kD (f:Nat) (args:List AV) (h:T Blk):Option (AV×T Blk):=bif Nat.beq f 138 then (match args with
 | [v]=>match zgi v h with
  | some h=>some (.tup [],h)
  | none=>none
 | _=>none) else none
theorem HR.sorted {P:Program} {B:Nat} {E:Env} {h:T Blk} {nx:Pa} {w:World} (H:HR P B E h nx w) {id:Pa} {op:Bool} {m off b n k:Nat} {t:T AV} {l l':List Int} {os:Array Obj} (hb:T.get .no id h=.cells op m t) (hE:E id=some (b,n))
  (hl':l'.length=l.length) (hm:off+l.length<=m) :
  HR P B E (T.set .no (.cells op m (yU (l'.map I) t off)) id h) nx (grow (putRow (Value.int .i64) (Sort.ahead w k) b off l'.toArray) os)/\Ex E E w (grow (putRow (Value.int .i64) (Sort.ahead w k) b off l'.toArray) os):=by
 have hid:T.get .no id h≠.no:=by rw [hb];intro e;cases e
 obtain ⟨b',n',o,h1,h2,h3⟩:=H.blk id hid;rw [hE] at h1;cases h1;rw [hb] at h3;obtain ⟨c,ty,fr,rfl,q1,q2,q3,q4,q5⟩:=h3;have hcs:(putCells (Value.int .i64) off l'.toArray c).size=c.size:=by simp [putCells]
 have hbr:BR P E n (.cells op m (yU (l'.map I) t off)) (.cells (putCells (Value.int .i64) off l'.toArray c) ty fr):=by
  refine ⟨_,ty,fr,rfl,by rw [hcs];exact q1,by rw [hcs];exact q2,q3,q4,fun i hi => ?_⟩;rw [uD];have hic:i<c.size:=by omega
  have hce:(putCells (Value.int .i64) off l'.toArray c)[i]? = some (if off<=i/\i<off+l'.length then Value.int .i64 (l'.toArray[i-off]!) else c[i]):=by
   simp [putCells,Array.getElem?_eq_getElem hic]
  rw [Zaq];by_cases hr:off<=i/\i<off+l'.length
  ·rw [if_pos hr];rw [if_pos hr] at hce;have hj:i-off<l'.length:=by omega
   have e1:(l'.map I).getD (i-off) .undef=I l'[i-off]:=by
    rw [Zab,List.getElem?_map,List.getElem?_eq_getElem hj];rfl
   have e2:l'.toArray[i-off]! = l'[i-off]:=by simp [getElem!_pos,hj]
   rw [e1];exact ⟨rfl,_,hce,by rw [e2];simp only [VR]⟩
  ·rw [if_neg hr];rw [if_neg hr] at hce;obtain ⟨r1,v,r2,r3⟩:=q5 i hi;rw [Array.getElem?_eq_getElem hic] at r2;exact ⟨r1,_,hce,by rw [Option.some.inj r2];exact r3⟩
 have H1:=H.put hid hE hbr;have X1:Ex E E w (w.putObj b (.cells (putCells (Value.int .i64) off l'.toArray c) ty fr)):=Ex.put hE h2 fun L hL=>by cases hL
 have hbl:b<w.heap.size:=(Array.getElem?_eq_some_iff.1 h2).1;have hBel:Below (w.putObj b (.cells (putCells (Value.int .i64) off l'.toArray c) ty fr)).heap.size (w.putObj b (.cells (putCells (Value.int .i64) off l'.toArray c) ty fr)) (grow (putRow (Value.int .i64) (Sort.ahead w k) b off l'.toArray) os):=by
  refine ⟨rfl,rfl,rfl,?_,fun j hj => ?_⟩
  ·rw [World.putObj_size];simp [grow,putRow,mapBlock,Sort.ahead]
  ·rw [World.putObj_size] at hj;have e1:(grow (putRow (Value.int .i64) (Sort.ahead w k) b off l'.toArray) os).heap[j]? = (w.heap.modify b (onCells (putCells (Value.int .i64) off l'.toArray)))[j]? := by
    show (w.heap.modify b (onCells (putCells (Value.int .i64) off l'.toArray))++os)[j]? = _;rw [Array.getElem?_append_left (by simpa using hj)]
   rw [e1,Array.getElem?_modify];by_cases e:b=j
   ·subst e;rw [if_pos rfl,h2,gY _ hbl];rfl
   ·rw [if_neg e,yI _ (fun q=>e q.symm)]
 obtain ⟨r1,r2⟩:=H1.below hBel;exact ⟨r1,X1.trans r2⟩
theorem zpb {B:Nat} (law:∀ (blk off cap:Nat) (zs:List Int) (w:World),Holds (Value.int .i64) w blk off zs.toArray->blk<w.heap.size->zs.length<4611686018427387904 ->
   Go.Calls Tryz.prog 138 #[.slice (some ⟨blk,off,none⟩) zs.length cap] w fun e w'=>e=.returned (.tuple #[])/\∃ n os,w'=grow (putRow (Value.int .i64) (Sort.ahead w n) blk off (zs.mergeSort fun x y=>decide (x<=y)).toArray) os)
  (law0:∀ (p:Option Addr) (cap:Nat) (w:World),Go.Calls Tryz.prog 138 #[.slice p 0 cap] w fun e w'=>e=.returned (.tuple #[])/\w'=w):JOk Tryz.prog B kD:=by
 intro E h nx w f args vs v h2 H hv hj;unfold kD at hj;cases hf:Nat.beq f 138 with
 | false=>simp [hf] at hj
 | true =>
  obtain rfl:=yA hf;rw [hf,cond_true] at hj;split at hj
  case h_2=>cases hj
  rename_i _ x;cases hjj:zgi x h with
  | none=>simp [hjj] at hj
  | some hs =>
  simp only [hjj,Option.some.injEq,Prod.mk.injEq] at hj;obtain ⟨rfl,rfl⟩:=hj;refine ⟨_,Tryz.func138,by kernel_rfl,by kernel_rfl,fun n=>callsIn_wide.2 ?_⟩;obtain ⟨l⟩:=vs;simp only [VRL] at hv;obtain ⟨u,_,rfl,hu,rfl⟩:=hv;unfold zgi at hjj;split at hjj
  ·rename_i id off ln cap esz;split at hjj
   ·rename_i op m t hb;cases hq:(Nat.beq esz 1&&Nat.ble (off+ln) m&&Nat.ble ln 1000000) with
    | false=>simp [hq] at hjj
    | true =>
     rw [hq,cond_true] at hjj;simp only [Zaf] at hq;obtain ⟨⟨q1,q2⟩,q3⟩:=hq;obtain rfl:=yA q1;have q2:=zW q2;have q3:=zW q3;cases hx:xA (zX t off ln) with
     | none=>simp [hx] at hjj
     | some xs =>
      simp only [hx,Option.some.injEq] at hjj;subst hjj;have hxs:=zgh hx;have hln:xs.length=ln:=by
       have:=congrArg List.length hxs;simpa using this.symm
      obtain ⟨b,n,c,hE,rfl,hcap⟩:=hu.rX;obtain ⟨b',n',o,h1,h2,h3⟩:=H.blk id (by rw [hb];intro e;cases e);rw [hE] at h1;cases h1;rw [hb] at h3;obtain ⟨cs,ty,fr,rfl,g1,g2,g3,g4,hc⟩:=h3;have hH:Holds (Value.int .i64) w b off xs.toArray:=by
       intro j hj;have hj:j<xs.length:=by simpa using hj
       obtain ⟨_,v',k1,k2⟩:=hc (off+j) (by omega);have he:T.get .undef (.of (off+j)) t=I xs[j]:=by
        have e1:=zV t off ln j (by omega);rw [hxs,List.getElem?_map,List.getElem?_eq_getElem hj] at e1;exact (Option.some.inj e1).symm
       rw [he] at k2;simp only [VR] at k2;subst k2;have e2:xs.toArray[j]! = xs[j]:=by simp [getElem!_pos,hj]
       rw [e2];refine ⟨by simp [World.cell?,h2,k1],?_⟩;have:=g1 (off+j) (Array.getElem?_eq_some_iff.1 k1).1;simp only [World.frozen?,h2];obtain ⟨lo,hi⟩:=fr;simp only [Bool.and_eq_false_iff,decide_eq_false_iff_not];simp only at this;omega
      rw [<- hln];refine (law b off c xs w hH (H.lt _ _ _ hE).2 (by omega)).mono ?_;rintro e w' ⟨rfl,k,os,rfl⟩;have hp:(srt xs).length=xs.length:=(qT xs).length_eq;obtain ⟨r1,r2⟩:=H.sorted (off:=off) (l:=xs) (l':=srt xs) (k:=k) (os:=os) hb hE hp (by omega);exact ⟨_,E,rfl,by simp only [VR,VRL];exact ⟨_,rfl,rfl⟩,r1,r2⟩
   ·cases hjj
  ·obtain rfl:=(Option.some.inj hjj).symm;simp only [VR] at hu;subst hu;refine (law0 none 0 w).mono ?_;rintro e w' ⟨rfl,rfl⟩;exact ⟨_,E,rfl,by simp only [VR,VRL];exact ⟨_,rfl,rfl⟩,H,.refl _ _⟩
  ·cases hjj
end Go.Ev
namespace Go.Ev
open Go Go.Proofs
variable {B:Nat}
theorem zss {h0 h:T Blk} {nx p:Pa} {L:List Ob} {k n:Nat} {o:Option Pa} {l:List Int} {K:Kw Prop} (hj:∀ B,JOk Tryz.prog B kD) (H:Hp h0 h nx L) (hk:L[k]? = some (.gro o 1 n (l.map I))) (hn:n<=1000000)
  (hK:∀ h',Hp h0 h' nx (L.set k (.gro o 1 n ((srt l).map I)))->K (.tup []) h' nx=.ok True):(CS Tryz.prog B).fn 138 p [qp o 1 n] h nx K=.ok True:=by
 have own:=H.own _ (Zaa hk);cases o with
 | none =>
  obtain ⟨q1,rfl⟩:=own;obtain rfl:l=[]:=by simpa using q1
  refine c7 (hj B) (v:=.tup []) (h2:=h) rfl (hK h (H.cast ?_));have e:(srt ([]:List Int)).map I=[]:=by simp [srt]
  rw [e,(xB hk).2];exact (xB hk).1
 | some id =>
  obtain ⟨t,h1,h2,h3⟩:=own;rw [Zbw] at h1 h2 h3;have e1:zgi (.sl id 0 n none 1) h=some (T.set Blk.no (Blk.cells true n (yU ((srt l).map I) t 0)) id h):=by
   show (match T.get Blk.no id h with
    | .cells op m t=>bif Nat.beq 1 1&&Nat.ble (0+n) m&&Nat.ble n 1000000 then (match xA (zX t 0 n) with
     | some l=>some (T.set Blk.no (Blk.cells op m (yU ((srt l).map I) t 0)) id h)
     | none=>none) else none
    | _=>none)=_
   rw [h1]
   show (bif Nat.beq 1 1&&Nat.ble (0+n) n&&Nat.ble n 1000000 then (match xA (zX t 0 n) with
     | some l=>some (T.set Blk.no (Blk.cells true n (yU ((srt l).map I) t 0)) id h)
     | none=>none) else none)=_
   rw [Zac (by omega),Zac hn,h3,zmg];rfl
  have e2:kD 138 [qp (some id) 1 n] h=some (.tup [],T.set Blk.no (Blk.cells true n (yU ((srt l).map I) t 0)) id h):=by
   show (match zgi (.sl id 0 n none 1) h with
    | some h=>some ((.tup []:AV),h)
    | none=>none)=_
   rw [e1]
  refine c7 (hj B) e2 (hK _ (H.upd hk (by simp [Ob.names]) rfl ⟨_,by rw [T.get_set_same,Zbw],by simpa using h2,?_⟩));have:=kL t [] ((srt l).map I) 0 rfl;rw [Zaz,Zbu] at this;have hl:((srt l).map I).length=n:=by simpa using h2
  rw [hl] at this;rw [Zbw];exact this
theorem bB {l:List Int} (hj:∀ B,JOk Tryz.prog B kD) (hl:l.length<=100000):Pure Tryz.prog B 101 [.fn 169 (.of 169) [.fp [encI l]]] (· = encI (srt l)):=by
 refine yF fun h nx K H0 hK=>zL zP yj 100 fun hf => ?_;rw [eU.go];refine yQ (p:=.of 168) (K:=fun v1 h2 n3=>(CS Tryz.prog B).fn 138 (.of 138) [v1] h2 n3 fun v4 h5 n6=>K v1 h5 n6) (zL zP yj 100 fun hf => ?_) fun _ _ _ _ q=>q;rw [eX.go];refine zl7 hl H0 fun o h1 nx1 H1 => ?_;refine zss hj H1 (k:=0) rfl (by omega) fun h2 H2 => ?_;refine hK _ _ _ _ _ H2 (H2.oO (k:=0) rfl (by intro v hv;obtain ⟨t,_,rfl⟩:=List.mem_map.1 hv;rfl)) ?_;show _=AV.lst 1 _ _;rw [qU]
def loS (d:List Int):Int:=aK (fun i=>(d.length:Int)-i) d d.length
def hiS (d:List Int):Int:=aK (fun i=>(i:Int)+1) d d.length
def bndV (cells:Nat) (lines:List (List Int)):AV:=.tup [I ((loS (srt (ng cells lines))+lines.length-1).tdiv lines.length),I ((hiS (srt (ng cells lines))).tdiv lines.length)]
theorem zi3 {a:Int} {n:Nat} (h:0<=a) (hn:0<n):0<=a.tdiv n/\a.tdiv n<=a:=by
 rw [Int.tdiv_eq_ediv_of_nonneg h];exact ⟨Int.ediv_nonneg h (by omega),Int.ediv_le_self _ h⟩
theorem zuh {a:Int} {n:Nat} {K:AV->OP} (h:0<=a) (h2:a<=9223372036854775807) (hn:0<n):zf .quo .int (I a) (I (n:Int)) K=K (I (a.tdiv n)):=by
 obtain ⟨q1,q2⟩:=zi3 h hn;have e:zf .quo .int (I a) (I (n:Int)) K=(bif ieq (n:Int) 0 then Out.no 5 else xq (IntKind.wrap .i64 (a.tdiv n)) fun z=>K (.int .i64 z)):=rfl;rw [e,q9];have hb:((n:Int)==0)=false:=by simp;omega
 rw [hb,cond_false,uN,kJ (by omega)]
theorem zpz {cells:Nat} {lines:List (List Int)} (hj:∀ B,JOk Tryz.prog B kD) (h0:0<lines.length) (hcl:cells<=256) (hn:lines.length<=128) (hl:∀ l∈lines,l.length<=1000/\∀ c∈l,0<=c/\c<(cells:Int)):Pure Tryz.prog B 220 [.agg [I cells,ji lines]] (· = bndV cells lines):=by
 refine yF fun h nx K H0 hK=>zL zP yj 10000000 fun hf => ?_;rw [uj.go];refine H0.box (l:=[I cells,ji lines]) rfl fun bx h1 nx1 H1 => ?_;rw [H1.zi (k:=0) (n:=2) rfl rfl];refine zzc hcl hn hl _ _ _ _ ?_;rintro _ rfl _;refine m9 _ _ _ _ ?_;rintro _ rfl _;refine bB hj (by rw [j9];omega) _ _ _ _ ?_;rintro _ rfl _;simp only [zE];have hM:Bd (srt (ng cells lines)) 128000:=(cW (W:=1000) fun l hm=>⟨(hl l hm).1,fun c hc=>by have:=(hl l hm).2 c hc;omega⟩).srt.mono (by omega);have hlen:(srt (ng cells lines)).length=cells:=by rw [qU,j9]
 unfold bndV at hK
 generalize srt (ng cells lines)=d at *
 have hf1:∀ j,j<d.length->0<=(j:Int)+1/\(j:Int)+1<=((256:Nat):Int):=fun j hj=>by omega
 have hf2:∀ j,j<d.length->0<=(d.length:Int)-j/\(d.length:Int)-j<=((256:Nat):Int):=fun j hj=>by omega
 refine uj.L1 (fun m z5 z6 z12 h' nx'=>∃ i:Nat,z12=I i/\z5=I (aK (fun i=>(d.length:Int)-i) d i)/\z6=I (aK (fun i=>(i:Int)+1) d i)/\d.length-i=m/\i<=d.length/\h'=h1/\nx'=nx1) (m:=d.length) (by omega) ⟨0,rfl,rfl,rfl,by omega,by omega,rfl,rfl⟩ ?_;rintro m z5 z6 z7 z8 z12 z13 h1 nx1 R ⟨i,rfl,rfl,rfl,rfl,hi,rfl,rfl⟩ hR;obtain ⟨w1,w2⟩:=xL hM hf1 i hi;obtain ⟨w3,w4⟩:=xL hM hf2 i hi;simp (disch:=omega) only [jd,fH,fJ,dh,qg,jm,fO,vk,vw,zT,zR,zC,zD,y9,yH,yW,jA,yK,yL,yN,jH,y8,y7,y3,zE,yM,zY,zA,decide_true,decide_false,Zae,Zag,yV];by_cases hlt:i<d.length
 ·simp only [show (i:Int)<(d.length:Int) by omega,decide_true,zC];have hx:d[i]? = some (d.getD i 0):=by rw [Zab,List.getElem?_eq_getElem hlt];rfl
  obtain ⟨a1,a2⟩:=zc3 hM hf1 hlt;obtain ⟨a3,a4⟩:=zc3 hM hf2 hlt;rw [dw rfl hlt,ldL (sH hx)];rw [fJ (by omega),jd (by omega),fJ (by omega),jd (by omega)]
  try rw [jd (by omega)]
  exact hR _ _ _ _ _ _ _ _ _ (by omega) ⟨i+1,rfl,rfl,rfl,rfl,by omega,rfl,rfl⟩
 ·simp only [show ¬ (i:Int)<(d.length:Int) by omega,decide_false,zD];obtain rfl:i=d.length:=by omega
  rw [uj.k8,sFx,H1.load (k:=0) (i:=0+1) rfl rfl];simp only [zE];rw [jd (by omega),fH (by omega),zuh (by omega) (by omega) h0,zuh (by omega) (by omega) h0];exact hK _ _ _ _ _ H1 (jE (zH rfl) (zH rfl)) rfl
end Go.Ev
namespace Go.Ev
open Go.Proofs
def shr (lines:List (List Int)) (f:List Nat):List Int:=lines.map fun l=>((con 0 f l:Nat):Int)
end Go.Ev
namespace Go.Ev
open Go Go.Proofs
variable {B:Nat}
theorem zp0 {k:IntKind} {x:Nat} {K:AV->OP}:cH .u8 (.int k (x:Int)) K=K (u8 (x%256)):=by
 show xq (qB .u8 (x:Int)) (fun z=>K (.int .u8 z))=_;rw [uN,p5,IntKind.wrap_u8];have:u8 (x%256)=.int .u8 ((x:Int)%256):=by unfold u8;congr 1
 rw [this]
theorem Hp.zp1 {h0 h:T Blk} {nx:Pa}:∀ {A L:List Ob},Hp h0 h nx (A++L)->Hp h0 h nx L
 | [],_,H=>H
 | _::_,_,H=>Hp.zp1 H.drop
theorem Hp.zst {h0 h:T Blk} {nx:Pa} {A L:List Ob} {x:Ob} (H:Hp h0 h nx (x::(A++L))):Hp h0 h nx (x::L) :=
 Hp.zp1 (H.perm List.perm_middle.symm)
theorem Hp.swap {h0 h:T Blk} {nx:Pa} {a b:Ob} {L:List Ob} (H:Hp h0 h nx (a::b::L)):Hp h0 h nx (b::a::L):=H.perm (.swap _ _ _)
theorem zsu {h0 h:T Blk} {nx:Pa} {L:List Ob} {o:Option Pa} {n k:Nat} {l l':List AV} (H:Hp h0 h nx L) (hk:L[k]? = some (.gro o 1 n l)) (hl:l'.length=l.length) (hs:l'.all jf=true) (hf:∀ (i:Nat) (v v':AV),l[i]? = some v->l'[i]? = some v'->ru h0 h v v'):ru h0 h (qp o 1 n) (.lst 1 n l'):=by
 have own:=H.own _ (Zaa hk);have hoff:=H.off;cases o with
 | none =>
  obtain ⟨rfl,rfl⟩:=own;obtain rfl:l'=[]:=by simpa using hl
  exact .zcp 1
 | some id =>
  obtain ⟨t,h1,h2,h3⟩:=own;refine .sl _ _ _ _ _ true _ t _ (hoff id (List.mem_flatMap.2 ⟨_,Zaa hk,by simp [Ob.names]⟩)) trivial h1 (by omega) (by rw [hl];exact h2) hs fun i v hi => ?_;have hil:i<l.length:=by rw [<- hl];exact (List.getElem?_eq_some_iff.1 hi).1
  have:=zV t 0 (n*1) i (by rw [<- h2];exact hil);rw [h3,List.getElem?_eq_getElem hil] at this;rw [<- Option.some.inj this];exact hf i _ _ (List.getElem?_eq_getElem hil) hi
end Go.Ev
namespace Go.Ev
structure zc6 (n:Nat) (to:List Int):Prop where
 len:to.length=n
 nd:to.Nodup
 rg:∀ x∈to,0<=x/\x<(n:Int)
theorem zc6.at {n:Nat} {to:List Int} (h:zc6 n to) {i:Nat} (hi:i<n):to[i]? = some (to.getD i 0):=by
 rw [Zab,List.getElem?_eq_getElem (by rw [h.len];exact hi)];rfl
theorem zc6.bd {n:Nat} {to:List Int} (h:zc6 n to) {i:Nat} (hi:i<n):0<=to.getD i 0/\to.getD i 0<(n:Int):=h.rg _ (Zaa (h.at hi))
theorem zc6.inj {n:Nat} {to:List Int} (h:zc6 n to) {i j:Nat} (hi:i<n) (hj:j<n) (e:to.getD i 0=to.getD j 0):i=j:=by
 obtain ⟨a1,a2⟩:=List.getElem?_eq_some_iff.1 (h.at hi);obtain ⟨b1,b2⟩:=List.getElem?_eq_some_iff.1 (h.at hj);have hp:=List.pairwise_iff_getElem.1 h.nd;rcases Nat.lt_trichotomy i j with c | c | c
 ·exact absurd (a2.trans (e.trans b2.symm)) (hp i j a1 b1 c)
 ·exact c
 ·exact absurd (b2.trans (e.symm.trans a2.symm)) (hp j i b1 a1 c)
end Go.Ev
namespace Go.Ev
open Go Go.Proofs
theorem zb0 {cells:Int}:∀ {l:List Int} {p:Option Int},(∀ c∈l,0<=c/\c<cells)->l.Pairwise (· < ·)->(∀ q,p=some q->∀ c∈l,q<c)->jP cells p l=0
 | [],_,_,_,_=>rfl
 | c::l,p,h1,h2,h3=>by
  have h0:=h1 c (by simp);obtain ⟨h4,h5⟩:=List.pairwise_cons.1 h2;rw [jP,if_neg (by omega)];have:(p.any fun q=>decide (c<=q))=false:=by
   cases p with
   | none=>rfl
   | some q =>
    have:=h3 q rfl c (by simp);simp;omega
  rw [this,if_neg (by simp)];exact zb0 (fun x hx=>h1 x (by simp [hx])) h5 fun q hq x hx=>by
   have:=Option.some.inj hq;have:=h4 x hx;omega
end Go.Ev
namespace Go.Ev
open Go Go.Proofs
variable {B:Nat}
def mkL (n:Nat) (to line:List Int) (k:Nat):List Bool:=(List.range n).map fun c:Nat=>(line.take k).any fun x=>decide (to.getD x.toNat 0=(c:Int))
@[simp] theorem zwe (n:Nat) (to line:List Int) (k:Nat):(mkL n to line k).length=n:=by simp [mkL]
theorem zmh (o:Option Pa) (e n:Nat):jf (qp o e n)=true:=by cases o <;> rfl
theorem zsv {n:Int} {K:AV->OP}:kK [(I 0),.zh] [(0,1,I n)] K=K (.agg [I n,.zh]):=nr rfl
def mI (ns:List Pa) (h:T Blk):T Blk:=ns.foldl (fun h n=>T.set .no .no n h) h
theorem wZ:∀ (ns:List Pa) (h:T Blk) (j:Pa),(j∈ns\/T.get .no j h=.no)->T.get .no j (mI ns h)=.no
  | [],h,j,q=>by rcases q with q | q;· simp at q
                 · exact q
  | n::ns,h,j,q=>by
    show T.get .no j (mI ns (T.set .no .no n h))=_;refine wZ ns _ j ?_;by_cases e:j=n
    · subst e;exact .inr (T.get_set_same _ _ _ _)
    · rcases q with q | q
      · rcases List.mem_cons.1 q with q | q
        · exact absurd q e
        · exact .inl q
      · exact .inr (by rw [T.zy _ _ _ _ _ e];exact q)
theorem wY:∀ (ns:List Pa) (h:T Blk) (j:Pa),j∉ns->T.get .no j (mI ns h)=T.get .no j h
 | [],_,_,_=>rfl
 | n::ns,h,j,q=>by
  show T.get .no j (mI ns (T.set .no .no n h))=_;rw [wY ns _ j fun r=>q (Zam _ r),T.zy _ _ _ _ _ fun e=>q (by rw [e];exact Zai ..)]
theorem Hp.zwf {h0 h:T Blk} {nx:Pa} {A L:List Ob} (H:Hp h0 h nx (A++L)):∃ h',uU h' h/\Hp h0 h' nx L/\Hp h' h nx A:=by
 have hnd:=H.nd;rw [Zch] at hnd;obtain ⟨n1,n2,n3⟩:=List.nodup_append.1 hnd;have hoff:∀ j,T.get .no j h0≠.no->j∉A.flatMap Ob.names:=fun j hj q=>hj (H.off j (by rw [Zch];exact Zbv _ q));have hkp:uU (mI (A.flatMap Ob.names) h) h:=fun j hj=>by
  by_cases q:j∈A.flatMap Ob.names
  ·exact absurd (wZ _ h j (.inl q)) hj
  ·exact (wY _ h j q).symm
 refine ⟨mI (A.flatMap Ob.names) h,hkp,⟨fun j hj => ?_,fun y hy => ?_,fun n hn => ?_,n2,fun j hj => ?_⟩,⟨hkp,fun y hy=>H.own y (Zbv _ hy),fun n hn=>wZ _ h n (.inl hn),n1,H.fr⟩⟩
 ·rw [wY _ h j (hoff j hj)];exact H.keep j hj
 ·refine (H.own y (Zck _ hy)).congr fun m hm=>wY _ h m fun q => ?_;exact n3 m q m (List.mem_flatMap.2 ⟨y,hy,hm⟩) rfl
 ·exact H.off n (by rw [Zch];exact Zck _ hn)
 ·exact wZ _ h j (.inr (H.fr j hj))
theorem Hp.base {h0 h:T Blk} {nx:Pa} {L:List Ob} (H:Hp h0 h nx L):Hp .e h nx L :=
 ⟨fun j hj=>absurd (T.fB _ j) hj,H.own,fun n _=>T.fB _ n,H.nd,H.fr⟩
abbrev TRow:=AV×Ob×List Int
def sZ (t:TRow):Prop:=(∃ p cap,mU t.2.2.length cap/\t.2.1=.arr p (t.2.2.map I)/\t.1=.sl p 0 t.2.2.length cap 1)\/∃ o,t.2.1=.gro o 1 t.2.2.length (t.2.2.map I)/\t.1=qp o 1 t.2.2.length
theorem sZ.jf {t:TRow} (h:sZ t):jf t.1=true:=by
 rcases h with ⟨p,cap,_,_,e⟩ | ⟨o,_,e⟩
 ·rw [e];rfl
 ·rw [e];exact zmh _ _ _
theorem sZ.cells {t:TRow} (h:sZ t):t.1.cells=some [t.1]:=by
 rcases h with ⟨p,cap,_,_,e⟩ | ⟨o,_,e⟩
 ·rw [e];rfl
 ·rw [e];exact gN _ _ _
theorem zkn (l:List Int):∀ v∈l.map I,fK v=true:=fun v hv=>by obtain ⟨x,_,rfl⟩:=List.mem_map.1 hv;rfl
theorem sZ.frz {h0 h:T Blk} {nx:Pa} {L:List Ob} {t:TRow} (hr:sZ t) (H:Hp h0 h nx L) (hm:t.2.1∈L):ru h0 h t.1 (encI t.2.2):=by
 obtain ⟨k,hk⟩:=List.mem_iff_getElem?.1 hm;rcases hr with ⟨p,cap,hc,e1,e2⟩ | ⟨o,e1,e2⟩
 ·rw [e1] at hk;rw [e2];exact H.ay hk hc (by simp) (zkn _)
 ·rw [e1] at hk;rw [e2];exact H.oO hk (zkn _)
theorem sZ.len {h0 h:T Blk} {nx:Pa} {L:List Ob} {t:TRow} (hr:sZ t) (H:Hp h0 h nx L) (hm:t.2.1∈L) (op:AV->OP):sLen t.1 op=op (I t.2.2.length):=by
 obtain ⟨k,hk⟩:=List.mem_iff_getElem?.1 hm;rcases hr with ⟨p,cap,hc,e1,e2⟩ | ⟨o,e1,e2⟩
 ·rw [e2];rfl
 ·rw [e1] at hk;rw [e2];exact H.zef hk
theorem sZ.rd {h0 h:T Blk} {nx:Pa} {L:List Ob} {t:TRow} (hr:sZ t) (H:Hp h0 h nx L) (hm:t.2.1∈L) (no:OP) (K':List AV->Nat->OP):gZ t.1 h no K'=K' (t.2.2.map I) t.2.2.length:=by
 obtain ⟨k,hk⟩:=List.mem_iff_getElem?.1 hm;rcases hr with ⟨p,cap,hc,e1,e2⟩ | ⟨o,e1,e2⟩
 ·rw [e1] at hk hm;rw [e2];exact yu.rd (H.own _ hm) (by simp) no K'
 ·rw [e1] at hk;rw [e2];rw [H.zj7 hk (Zah _),Zal (by simp)]
theorem zwg {h0 h:T Blk} {nx:Pa} {L:List Ob} {k:Nat} {o:Option Pa} {T:List TRow} (H:Hp h0 h nx L) (hk:L[k]? = some (.gro o 1 T.length (T.map (·.1)))) (hT:∀ t∈T,sZ t/\t.2.1∈L):ru h0 h (qp o 1 T.length) (ji (T.map (·.2.2))):=by
 have e:ji (T.map (·.2.2))=.lst 1 T.length (T.map fun t=>encI t.2.2):=by simp [ji,Zcl,Function.comp_def]
 rw [e];refine zsu H hk (by simp) (List.all_eq_true.2 fun v hv => ?_) fun i v v' h1 h2 => ?_
 ·obtain ⟨t,_,rfl⟩:=List.mem_map.1 hv;rfl
 ·rw [List.getElem?_map] at h1 h2;cases ht:T[i]? with
  | none=>rw [ht] at h1;cases h1
  | some t =>
   rw [ht] at h1 h2;cases h1;cases h2
   obtain ⟨r1,r2⟩:=hT t (Zaa ht);exact r1.frz H r2
theorem Hp.zsw {K:AV->T Blk->Pa->OP} {h0 h:T Blk} {nx:Pa} {L:List Ob} {k n bytes:Nat} {id:Pa} {l new:List AV} {x:AV} (H:Hp h0 h nx L) (hk:L[k]? = some (.arr id l)) (hl:l.length=n) (hx:∀ (no:OP) (K':List AV->Nat->OP),gZ x h no K'=K' new 1) (hne:new.length=1) (hs:new.all Go.Ev.jf=true) (hb:bytes*1000000<=70368744177664) (hn:n+1<=1000000)
  (hK:∀ o' h' nx',Hp h0 h' nx' (.gro (some o') 1 (n+1) (l++new)::L)->K (qp (some o') 1 (n+1)) h' nx'=.ok True):ny 1 bytes (.sl id 0 n (some n) 1) x h nx K=.ok True:=by
 have hc:(Nat.ble (bytes*1000000) 70368744177664&&Nat.beq new.length (1*1)&&Nat.ble 1 1&&new.all Go.Ev.jf)=true:=by
  rw [hs,hne,Zac hb];rfl
 unfold ny aQ;rw [hx,hc,cond_true];obtain ⟨op,t,h1,h2⟩:=H.own _ (Zaa hk);show (bif Nat.beq 1 1&&Nat.ble (n+1) 1000000 then jk (T.get .no id h) _ (.no 35) else .no 36)=_;rw [h1,Zac hn];show (bif Nat.ble (0+n*1) l.length then (bif Nat.ble (n+1) n then (bif Nat.ble (0+(n+1)*1) l.length then kF id 0 n (some n) 1 op l.length t new 1 h nx K else .no 32) else gL 0 n 1 t new 1 h nx K) else .no 34)=_;rw [Zac (by omega),bleF (by omega),cond_true,cond_false];unfold gL;rw [yC,zZ];have er:zX t 0 (n*1)=l:=by rw [Zbw,<- hl];exact h2
 rw [er];exact hK _ _ _ (Hp.new (x:=.gro (some nx) 1 (n+1) (l++new)) H rfl fun h' q=>⟨yU (l++new) .e 0,by rw [q];simp [hne,hl],by simp [hne,hl],by have:=uE (l++new);rw [Zas,hne,hl] at this;rw [Zbw];exact this⟩)
theorem bT {y:List UInt8}:∀ (es:List (AV×AV)) (i:Nat),(∀ e∈es,∃ s,e.1=.str s/\s≠y)->kH .str (.str y) es i=some none
 | [],_,_=>rfl
 |(a,v)::es,i,h=>by
  obtain ⟨s,rfl,hs⟩:=h (a,v) (by simp);have hb:jT y s=false:=by
   cases q:jT y s with
   | false=>rfl
   | true=>exact absurd (cu.1 q).symm hs
  show (match some (jT y s) with
   | some true=>some (some (i,v))
   | some false=>kH .str (.str y) es (i+1)
   | none=>none)=_
  rw [hb];exact bT es (i+1) fun e he=>h e (by simp [he])
theorem Hp.zwh {h0 h:T Blk} {nx:Pa} {L:List Ob} {k:Nat} {id:Pa} {es:List (AV×AV)} {y:List UInt8} {z:AV} {op:AV->OP} (H:Hp h0 h nx L) (hk:L[k]? = some (.map id es)) (hn:∀ e∈es,∃ s,e.1=.str s/\s≠y):zex .str z false (.map id) (.str y) h op=op z:=by
 have own:T.get .no id h=.map _ _:=H.own _ (Zaa hk);show mg (T.get .no id h) _ _=_;rw [own];show (match gQ .str (.str y) es with | some (some (_,v))=>op v | some none=>op z | none=>.no 20)=_;rw [show gQ .str (.str y) es=kH .str (.str y) es 0 from rfl,bT es 0 hn]
theorem Hp.zwi {K:AV->T Blk->Pa->OP} {h0 h:T Blk} {nx:Pa} {L:List Ob} {k:Nat} {id:Pa} {es:List (AV×AV)} {y:List UInt8} {x:AV} (H:Hp h0 h nx L) (hk:L[k]? = some (.map id es)) (hn:∀ e∈es,∃ s,e.1=.str s/\s≠y)
  (hK:∀ h',Hp h0 h' nx (L.set k (.map id (es++[(.str y,x)])))->K .undef h' nx=.ok True):pJ .str (.map id) (.str y) x h nx K=.ok True:=by
 have own:T.get .no id h=.map _ _:=H.own _ (Zaa hk);show mg (T.get .no id h) _ _=_;rw [own]
 show (match gQ .str (.str y) es with
    | some (some (i,_))=>T.vg (β:=OP) Blk.no (Blk.map es.length (es.modify i fun e=>(e.1,x))) id h fun h'=>K .undef h' nx
    | some none=>qo (es.length+1) fun n=>T.vg (β:=OP) Blk.no (Blk.map n (es++[(AV.str y,x)])) id h fun h'=>K .undef h' nx
    | none=>Out.no 45)=_
 rw [show gQ .str (.str y) es=kH .str (.str y) es 0 from rfl,bT es 0 hn];simp only [zZ,T.yt];refine hK _ (H.upd hk (by simp [Ob.names]) rfl ?_);show T.get Blk.no id _=Blk.map _ _;rw [T.get_set_same,Zas];rfl
structure zak (lines:List (List Int)):Prop where
 asc:∀ l∈lines,l≠[]/\l.Pairwise (· < ·)/\Sml l/\l.length<=1000
 nd:lines.Nodup
 len:lines.length<=1000
theorem zsx {l:List Int} (h:l.Pairwise (· < ·)):srt l=l:=(xM (.refl l) (h.imp fun h=>by omega)).symm
theorem zi4 {cells:Int} {lines:List (List Int)} (hj:∀ B,JOk Tryz.prog B kD) (hl:zak lines):Pure Tryz.prog B 45 [I cells,ji lines] (· = .agg [I cells,ji lines]):=by
 refine yF fun h nx K H0 hK=>zL zP yj 10000 fun hf => ?_;have hlen:=hl.len;rw [F45.go];refine H0.alloc fun r h1 nx1 H1 => ?_;refine H1.sU fun mid h2 nx2 H2 => ?_;rw [zsv];refine H2.alloc fun ob h3 nx3 H3 => ?_;refine H3.qy (l2:=[I cells,.zh]) (k:=0) rfl rfl rfl fun h4 H4 => ?_;simp only [zE]
 refine F45.L1 (fun m x9 h' nx'=>∃ (i:Nat) (o:Option Pa),x9=I i/\lines.length-i=m/\i<=lines.length /\
  Hp h h' nx' [.gro o 1 i ((lines.take i).map encI),.arr ob [I cells,qp o 1 i],.map mid ((lines.take i).map fun l=>(AV.str (txt l),AV.bool true)),.arr r [I 0,.zh]]) (m:=lines.length) (by omega) ⟨0,none,rfl,rfl,by omega,H4.tN 1⟩ ?_
 rintro m z5 z6 z9 z10 z11 h5 nx5 R ⟨i,o,rfl,rfl,hi,H5⟩ hR;simp only [jm];by_cases hlt:i<lines.length
 case neg =>
  simp only [show ¬ (i:Int)<(lines.length:Int) by omega,decide_false,zD];obtain rfl:i=lines.length:=by omega
  rw [F45.k8,H5.zi (k:=1) (n:=2) rfl rfl];refine H5.qy (l2:=[I cells,qp o 1 lines.length]) (k:=3) rfl rfl rfl fun h6 H6 => ?_;rw [H6.zi (k:=3) (n:=2) rfl rfl];rw [Zal (by omega)] at H6;have hF:ru h h6 (qp o 1 lines.length) (ji lines):=H6.oO (k:=0) rfl fun v hv=>by
   obtain ⟨l,_,rfl⟩:=List.mem_map.1 hv;exact u7 l
  refine hK _ _ _ _ (AV.agg [I cells,ji lines]) H6 (Frz.agg _ _ rfl rfl fun j v v' h1 h2 => ?_) rfl
  match j,h1,h2 with
  | 0,h1,h2=>cases h1;cases h2;exact zH rfl
  | 1,h1,h2=>cases h1;cases h2;exact hF
  | j+2,h1,h2=>simp at h1
 simp only [show (i:Int)<(lines.length:Int) by omega,decide_true,zC];obtain ⟨l,zaa⟩:∃ l,lines[i]? = some l:=⟨_,List.getElem?_eq_getElem hlt⟩;have hm:=Zaa zaa;obtain ⟨a1,a2,a3,a4⟩:=hl.asc l hm;rw [dw rfl hlt,ldL (getT zaa)];refine m9 _ _ _ _ ?_;rintro _ rfl _;refine bB hj (by omega) _ _ _ _ ?_;rintro _ rfl _;rw [zsx a2];refine zsr a4 a3 _ _ _ _ ?_;rintro _ rfl _;have hnew:∀ e∈(lines.take i).map (fun l=>(AV.str (txt l),AV.bool true)),∃ s,e.1=.str s/\s≠txt l:=fun e he=>by
  obtain ⟨q,hq,rfl⟩:=List.mem_map.1 he;refine ⟨_,rfl,fun e => ?_⟩;obtain ⟨b1,b2,b3,b4⟩:=hl.asc q (Zcf hq);have:=zsq b3 a3 b1 a1 e;subst this;obtain ⟨j,hj⟩:=List.mem_iff_getElem?.1 hq;have hjl:=(List.getElem?_eq_some_iff.1 hj).1;rw [Zbb] at hjl;rw [List.getElem?_take_of_lt (by omega)] at hj;have hp:=List.pairwise_iff_getElem.1 hl.nd j i (by omega) hlt (by omega);obtain ⟨_,c1⟩:=List.getElem?_eq_some_iff.1 hj;obtain ⟨_,c2⟩:=List.getElem?_eq_some_iff.1 zaa;exact hp (c1.trans c2.symm)
 rw [H5.zwh (k:=2) rfl hnew];simp only [yK,Zag,zC];refine H5.zwi (k:=2) rfl hnew fun h6 H6 => ?_;rw [sFx,H6.load (k:=1) (i:=0+1) rfl rfl];refine H6.zu (l:=[encI l]) rfl fun tb h7 nx7 H7 => ?_;refine H7.oN (k:=1) (o:=o) (c:=1) (new:=[encI l]) rfl (yu.rd (l:=[encI l]) (n:=1) (H7.own _ (Zai ..)) rfl) rfl rfl (by decide) (by decide) (by omega) fun o' h8 nx8 _ H8 => ?_;rw [sFx];refine H8.store (k:=2) rfl (by simp) (gN _ _ _) fun h9 H9 => ?_;rw [jd (by omega)];refine hR _ _ _ _ _ _ _ _ (by omega) ⟨i+1,o',rfl,rfl,by omega,?_⟩;rw [Zan,zaa,Zbq,Zbq];exact H9.drop
def leastOf (p:List (List Int)) (j:Nat):Int:=p.foldl (fun m row=>min m (row.getD j 0)) (j:Int)
def szAt (p:List (List Int)) (n i:Nat):Nat:=((List.range n).filter fun j=>decide (leastOf p j=(i:Int))).length
def szL (p:List (List Int)) (w n:Nat):List Int:=(List.range w).map fun i=>((szAt p n i:Nat):Int)
@[simp] theorem zzm (p:List (List Int)) (w n:Nat):(szL p w n).length=w:=by simp [szL]
theorem dC (b:Bool) (e:Int):Pure Tryz.prog B 76 [.bool b,I e] (· = I (if b then e else 0)):=by
 intro p h nx K hK;refine zL zP yj 9 fun hf => ?_;rw [F76.go];cases b <;> simp (disch:=omega) only [jd,fH,fJ,dh,qg,jm,fO,vk,vw,zT,zR,zC,zD,y9,yH,yW,jA,yK,yL,yN,jH,y8,y7,y3,zE,yM,zY,zA,decide_true,decide_false,Zae,Zag,yV] <;> exact hK _ rfl hf
theorem zgj {l:List Int} (hl:l.length<=1000000):Pure Tryz.prog B 72 [encI l] (· = I (yX l)):=by
 intro p h nx K hK;refine zL zP yj 10000000 fun hf => ?_;rw [F72.go];simp (disch:=omega) only [jd,fH,fJ,dh,qg,jm,fO,vk,vw,zT,zR,zC,zD,y9,yH,yW,jA,yK,yL,yN,jH,y8,y7,y3,zE,yM,zY,zA,decide_true,decide_false,Zae,Zag,yV];refine F72.L1 (fun m z5 h' nx'=>∃ i:Nat,z5=I i/\l.length-i=m/\i<=l.length/\h'=h/\nx'=nx/\∀ e∈l.take i,e=0) (m:=l.length) (by omega) ⟨0,rfl,rfl,by omega,rfl,rfl,by simp⟩ ?_;rintro m z1 z2 z5 z6 z7 _ _ R ⟨i,rfl,rfl,hi,rfl,rfl,htk⟩ hR;simp (disch:=omega) only [jd,fH,fJ,dh,qg,jm,fO,vk,vw,zT,zR,zC,zD,y9,yH,yW,jA,yK,yL,yN,jH,y8,y7,y3,zE,yM,zY,zA,decide_true,decide_false,Zae,Zag,yV];by_cases hlt:i<l.length
 ·simp only [show (i:Int)<(l.length:Int) by omega,decide_true,zC];have hx:l[i]? = some l[i]:=List.getElem?_eq_getElem hlt;rw [dw rfl hlt,ldL (sH hx)];simp (disch:=omega) only [jd,fH,fJ,dh,qg,jm,fO,vk,vw,zT,zR,zC,zD,y9,yH,yW,jA,yK,yL,yN,jH,y8,y7,y3,zE,yM,zY,zA,decide_true,decide_false,Zae,Zag,yV];have hd:l.drop i=l[i]::l.drop (i+1):=Zap hlt;by_cases h0:l[i]=0
  ·simp only [h0,decide_true,Zae,zD];refine hR _ _ _ _ _ _ _ _ (by omega) ⟨i+1,rfl,rfl,by omega,rfl,rfl,fun e he => ?_⟩;rw [Zan,hx] at he;rcases List.mem_append.1 he with q | q
   ·exact htk e q
   ·simp at q;rw [q];exact h0
  ·simp only [h0,decide_false,Zag,zC];refine hK _ ?_ hf;rw [uF l i htk,hd,yX,if_pos h0]
 ·simp only [show ¬ (i:Int)<(l.length:Int) by omega,decide_false,zD];obtain rfl:i=l.length:=by omega
  rw [F72.k8];refine hK _ ?_ hf;have:=uF l l.length htk;rw [this,List.drop_length];rfl
theorem zgk (n:Int):Pure Tryz.prog B 125 [I n] (· = I (if n<0\/256<n then 3 else 0)):=by
 intro p h nx K hK;refine zL zP yj 9 fun hf => ?_;rw [oD.go];simp only [jm];by_cases c1:n<0
 ·simp only [c1,decide_true,yW,zT];refine dC _ _ _ _ _ _ ?_;rintro _ rfl hf2;exact hK _ (by rw [if_pos (.inl c1)];rfl) hf2
 ·simp only [c1,decide_false,yH,vk,zR];refine dC _ _ _ _ _ _ ?_;rintro _ rfl hf2;refine hK _ ?_ hf2;by_cases c2:256<n
  ·rw [if_pos (.inr c2),if_pos (decide_eq_true c2)]
  ·rw [if_neg (by omega),if_neg (by simpa using c2)]
theorem zsy {l:List Int} (hl:l.length<=100000):Pure Tryz.prog B 187 [encI l] (· = I (qF l)):=by
 refine yF fun h nx K H0 hK=>zL zP yj 1000000 fun hf => ?_;rw [jh.go];rw [zE];simp only [vk];by_cases c:(256:Int)<(l.length:Int)
 ·simp only [c,decide_true,zC];exact hK _ _ _ _ _ H0 (zH rfl) (by rw [qF,if_pos (by omega)])
 have hpe:qF l=if xK l then 0 else 14:=by rw [qF,if_neg (by omega)]
 simp only [c,decide_false,zD];rw [zE];refine H0.mk1 l.length rfl rfl (by omega) (by decide) fun tb h1 nx1 H1 => ?_;rw [zE];have e0:List.replicate l.length (AV.bool false)=(hadL l.length []).map AV.bool:=by simp [hadL]
 rw [e0] at H1
 refine jh.L2 (fun m x3 h' nx'=>∃ i:Nat,x3=I i/\m=l.length-i/\i<=l.length/\(l.take i).Nodup/\(∀ x∈l.take i,0<=x/\x<(l.length:Int))/\Hp h h' nx' [.arr tb ((hadL l.length (l.take i)).map AV.bool)]) (m:=l.length) (by omega)
  ⟨0,rfl,by omega,by omega,by simp,by simp,by simpa using H1⟩ ?_
 rintro m z1 z3 z7 z8 z9 h2 nx2 R ⟨i,rfl,rfl,hi,hnd,hrg,H2⟩ hR;simp only [jm];by_cases hlt:i<l.length
 case neg =>
  simp only [show ¬ (i:Int)<(l.length:Int) by omega,decide_false,zD];rw [jh.k10];rw [Zal (by omega)] at hnd hrg;exact hK _ _ _ _ _ H2 (zH rfl) (by rw [hpe,if_pos ⟨hnd,hrg⟩])
 simp only [show (i:Int)<(l.length:Int) by omega,decide_true,zC];have hx:l[i]? = some l[i]:=List.getElem?_eq_getElem hlt;have bad:¬ xK l->K (I 14) h2 nx2=.ok True:=fun q=>hK _ _ _ _ _ H2 (zH rfl) (by rw [hpe,if_neg q]);have hrange:xK l->0<=l[i]/\l[i]<(l.length:Int):=fun q=>q.2 _ (Zao hlt);rw [dw rfl hlt,ldL (sH hx)];by_cases c1:l[i]<0
 ·simp only [jm,c1,decide_true,yW,zT,zC];exact bad fun q=>by have:=hrange q;omega
 simp only [jm,c1,decide_false,yH];rw [zE];simp only [vw,zR];by_cases c2:(l.length:Int)<=l[i]
 ·simp only [c2,decide_true,yW,zT,zC];exact bad fun q=>by have:=hrange q;omega
 simp only [c2,decide_false,yH];have hk:(l[i]).toNat<l.length:=by omega
 have hg:((hadL l.length (l.take i)).map AV.bool)[(l[i]).toNat]? = some (.bool (decide (l[i]∈l.take i))):=by
  rw [List.getElem?_map,zpp (fun x hx=>(hrg x hx).1) hk,show (((l[i]).toNat:Nat):Int)=l[i] by omega];rfl
 rw [sIx (i:=(l[i]).toNat) (by omega) hk,H2.load (k:=0) rfl hg];simp only [zR];by_cases c3:l[i]∈l.take i
 ·simp only [c3,decide_true,zC];refine bad fun q => ?_;obtain ⟨j,hj⟩:=List.mem_iff_getElem?.1 c3;have hjl:=(List.getElem?_eq_some_iff.1 hj).1;rw [Zbb] at hjl;rw [List.getElem?_take_of_lt (by omega)] at hj;obtain ⟨a1,a2⟩:=List.getElem?_eq_some_iff.1 hj;exact List.pairwise_iff_getElem.1 q.1 j i a1 hlt (by omega) a2
 simp only [c3,decide_false,zD];rw [jh.k8,sIx (i:=(l[i]).toNat) (by omega) hk];refine H2.store (k:=0) rfl (by rw [Zaq,zf4];exact hk) rfl fun h3 H3 => ?_;rw [jh.k9,jd (by omega)];have htk:l.take (i+1)=l.take i++[l[i]]:=by rw [Zan,hx];rfl
 refine hR _ _ _ _ _ _ _ _ (by omega) ⟨i+1,rfl,rfl,by omega,?_,?_,H3.cast ?_⟩
 ·rw [htk];exact List.nodup_append.2 ⟨hnd,by simp,fun a ha b hb=>by simp at hb;subst hb;rintro rfl;exact c3 ha⟩
 ·intro x hm;rw [htk] at hm;rcases List.mem_append.1 hm with q | q
  ·exact hrg x q
  ·simp at q;subst q;omega
 ·rw [htk,zl8];simp [List.map_set]
theorem zmi {l:List Int} (hl:l.length<=100000):Pure Tryz.prog B 126 [encI l] (· = .bool (decide (qF l=0))):=by
 intro p h nx K hK;refine zL zP yj 100 fun hf => ?_;rw [oC.go];refine zsy hl _ _ _ _ ?_;rintro _ rfl hf2;simp only [dh];exact hK _ rfl hf2
theorem zwj {g:List Int} {c:Bool} {n:Int} (hl:g.length<=100000):Pure Tryz.prog B 64 [.agg [encI g,.bool c],I n] (· = I (qQ g n)):=by
 refine yF fun h nx K H0 hK=>zL zP yj 1000 fun hf => ?_;rw [F64.go];refine H0.box (l:=[encI g,.bool c]) rfl fun bx h1 nx1 H1 => ?_;rw [sFx,H1.load (k:=0) (i:=0+0) rfl rfl];simp only [zE,qg];rw [sFx,H1.load (k:=0) (i:=0+0) rfl rfl];refine zgk n _ _ _ _ ?_;rintro _ rfl _;rw [H1.load (k:=0) (i:=0+0) rfl rfl];simp only [zA,sFx,qg,zE];rw [H1.load (k:=0) (i:=0+0) rfl rfl];simp only [zA];refine dC _ _ _ _ _ _ ?_;rintro _ rfl _;rw [H1.load (k:=0) (i:=0+0) rfl rfl];simp only [zA];refine zmi hl _ _ _ _ ?_;rintro _ rfl _;simp only [yK];refine dC _ _ _ _ _ _ ?_;rintro _ rfl _;refine H1.zu (l:=[I (if n<0\/256<n then 3 else 0),I (if (!decide ((g.length:Int)=n))=true then 2 else 0),I (if (!decide (qF g=0))=true then 14 else 0)]) rfl fun id h4 nx4 H4 => ?_;refine gI (l:=[if n<0\/256<n then 3 else 0,if (!decide ((g.length:Int)=n))=true then 2 else 0,if (!decide (qF g=0))=true then 14 else 0]) H4 (k:=0) rfl (fun B=>zgj (by simp)) (fun v hv=>by rw [hv];exact .int _ _) ?_;rintro _ rfl;refine hK _ _ _ _ _ H4 (zH rfl) ?_
 congr 1
 rw [qQ];by_cases c1:n<0\/256<n
 ·rw [if_pos c1,if_pos c1];rfl
 rw [if_neg c1,if_neg c1];by_cases c2:(g.length:Int)=n
 case neg=>rw [if_pos (show (g.length:Int)≠n from c2),decide_eq_false c2];rfl
 rw [if_neg (show ¬ ((g.length:Int)≠n) from fun q=>q c2),decide_eq_true c2];have:qF g=if xK g then 0 else 14:=by rw [qF,if_neg (by omega)]
 rw [this];by_cases c3:xK g
 ·rw [if_pos c3];rfl
 ·rw [if_neg c3];rfl
theorem zgl {G:List Sym} {n:Int} (hG:G.length<=100000) (hw:∀ g∈G,g.1.length<=100000):Pure Tryz.prog B 199 [rH G,I n] (· = I (uK n G)):=by
 refine yF fun h nx K H0 hK=>zL zP yj 1000000 fun hf => ?_;rw [uq.go];simp only [zE];refine uq.L1 (fun m x7 h' nx'=>∃ (i:Nat) (L:List Ob),x7=I i/\G.length-i=m/\i<=G.length/\uK n G=uK n (G.drop i)/\Hp h h' nx' L) (m:=G.length) (by omega) ⟨0,_,rfl,rfl,by omega,rfl,H0⟩ ?_;rintro m z2 z3 z4 z7 z8 z9 h2 nx2 R ⟨i,L,rfl,rfl,hi,hs,H2⟩ hR;simp only [jm];by_cases hlt:i<G.length
 case neg =>
  simp only [show ¬ (i:Int)<(G.length:Int) by omega,decide_false,zD];obtain rfl:i=G.length:=by omega
  rw [uq.k8];exact hK _ _ _ _ _ H2 (zH rfl) (by rw [hs,List.drop_length];rfl)
 simp only [show (i:Int)<(G.length:Int) by omega,decide_true,zC];rw [dw rfl hlt,xS hlt,qD];refine H2.alloc fun ab h5 nx5 H5 => ?_;refine H5.qy (k:=0) (n:=2) rfl rfl rfl fun h6 H6 => ?_;rw [H6.zi (k:=0) (n:=2) rfl rfl];refine zwj (hw _ (Zao hlt)) _ _ _ _ ?_;rintro _ rfl _;have hs2:=zen hlt (n:=n);simp only [qg];by_cases c:qQ G[i].1 n=0
 ·simp only [c,decide_true,Zae,zD];rw [jd (by omega)];exact hR _ _ _ _ _ _ _ _ _ (by omega) ⟨i+1,_,rfl,rfl,by omega,by rw [hs,hs2,if_neg (by simp [c])],H6⟩
 ·simp only [c,decide_false,Zag,zC];exact hK _ _ _ _ _ H6 (zH rfl) (by rw [hs,hs2,if_pos c])
def cmpS (a b:Sym):Int:=if cmpL a.1 b.1≠0 then cmpL a.1 b.1 else if a.2=b.2 then 0 else if a.2 then 1 else -1
theorem zgm (a b:Sym):cmpS a b<0↔befS a b=true:=by
 rw [cmpS,befS];by_cases c:a.1=b.1
 ·have:=(zgc a.1 b.1).2 c;rw [if_neg (by simp [this]),if_pos c];cases a.2 <;> cases b.2 <;> decide
 ·have:¬ cmpL a.1 b.1=0:=fun q=>c ((zgc a.1 b.1).1 q);rw [if_pos this,if_neg c];exact cmp_neg a.1 b.1
theorem zwk {a b:Bool} {K:AV->OP}:zf .eql .bool (.bool a) (.bool b) K=K (.bool (decide (a=b))):=by cases a <;> cases b <;> exact nr rfl
theorem zi5 {a b:Sym} (ha:a.1.length<=1000000) (hb:b.1.length<=1000000):Pure Tryz.prog B 114 [encS a,encS b] (· = I (cmpS a b)):=by
 refine yF fun h nx K H0 hK=>zL zP yj 1000 fun hf => ?_;rw [rF.go];refine H0.box (l:=[encI a.1,.bool a.2]) rfl fun bx h1 nx1 H1 => ?_;refine H1.box (l:=[encI b.1,.bool b.2]) rfl fun by' h2 nx2 H2 => ?_
 rw [sFx,H2.load (k:=1) (i:=0+0) rfl rfl,sFx,H2.load (k:=0) (i:=0+0) rfl rfl];refine zl6 ha hb _ _ _ _ ?_;rintro _ rfl _;simp only [qg];by_cases c:cmpL a.1 b.1=0
 case neg =>
  simp only [c,decide_false,Zag,yW,zT,zC];exact hK _ _ _ _ _ H2 (zH rfl) (by rw [cmpS,if_pos c])
 simp only [c,decide_true,Zae,yH];rw [sFx,H2.load (k:=1) (i:=0+1) rfl rfl,sFx,H2.load (k:=0) (i:=0+1) rfl rfl,zwk];simp only [zR];by_cases c2:a.2=b.2
 ·simp only [c2,decide_true,zC];exact hK _ _ _ _ _ H2 (zH rfl) (by rw [cmpS,if_neg (by simp [c]),if_pos c2])
 simp only [c2,decide_false,zD];rw [rF.k1,sFx,H2.load (k:=1) (i:=0+1) rfl rfl];cases c3:a.2 with
 | true =>
  simp only [zC];exact hK _ _ _ _ _ H2 (zH rfl) (by rw [cmpS,if_neg (by simp [c]),if_neg c2,c3];rfl)
 | false =>
  simp only [zD];exact hK _ _ _ _ _ H2 (zH rfl) (by rw [cmpS,if_neg (by simp [c]),if_neg c2,c3];rfl)
theorem zgn {N:Pa->Prop} {O:AV->Prop} {hh:T Blk} {a b a' b':AV} (h1:Frz True N O hh a a') (h2:Frz True N O hh b b') (hs:([a',b']:List AV).all jf=true):Frz True N O hh (.agg [a,b]) (.agg [a',b']):=by
 refine .agg _ _ rfl hs fun i v v' hi hi' => ?_
 match i with
 | 0=>simp at hi hi';subst hi;subst hi';exact h1
 | 1=>simp at hi hi';subst hi;subst hi';exact h2
 | i+2=>simp at hi
def idP (n i:Nat):List Int:=(List.range n).map fun j:Nat=>if j<i then (j:Int) else 0
def idS (n:Nat):Sym:=((List.range n).map fun j:Nat=>(j:Int),false)
@[simp] theorem zzn (n i:Nat):(idP n i).length=n:=by simp [idP]
theorem zsz {n i:Nat}:(idP n i).set i (i:Int)=idP n (i+1):=by
 refine Zba fun j => ?_;rw [List.getElem?_set,idP,idP,Zaq,List.length_range,List.getElem?_map,List.getElem?_map];by_cases hj:j<n
 ·rw [List.getElem?_range hj];by_cases e:i=j
  ·subst e;simp [hj]
  ·rw [if_neg e];simp only [Zbx]
   congr 1
   by_cases c:j<i
   ·rw [if_pos c,if_pos (by omega)]
   ·rw [if_neg c,if_neg (by omega)]
 ·rw [List.getElem?_eq_none (l:=List.range n) (by simp;omega)];by_cases e:i=j
  ·rw [if_pos e,if_neg (by omega)];rfl
  ·rw [if_neg e];rfl
theorem zgo {a b:AV} (ha:a.cells=some [a]) (hb:b.cells=some [b]) {K:AV->OP}:kK [.zh,.bool false] [(0,1,a),(1,1,b)] K=K (.agg [a,b]):=by
 unfold kK;simp only [gJ,ha,hb]
 rfl
theorem zgp {n:Nat} (hn:n<=1000):Pure Tryz.prog B 248 [I n] (· = encS (idS n)):=by
 refine yF fun h nx K H0 hK=>zL zP yj 1000000 fun hf => ?_;rw [uw.go];refine H0.alloc fun r h1 nx1 H1 => ?_;refine H1.mk1 n rfl rfl (by omega) (by decide) fun tb h2 nx2 H2 => ?_;have e:∀ K:AV->OP,kK [.zh,(.bool false)] [(0,1,.sl tb 0 n (some n) 1)] K=K (.agg [.sl tb 0 n (some n) 1,.bool false]):=fun K=>nr rfl;rw [e];refine H2.alloc fun s h3 nx3 H3 => ?_;refine H3.qy (k:=0) (n:=2) rfl rfl rfl fun h4 H4 => ?_;rw [sFx,H4.load (k:=0) (i:=0+0) rfl rfl,yM];have e0:List.replicate n (I 0)=(idP n 0).map I:=by
  rw [idP,Zcl];rw [show ((I ∘ fun j:Nat=>if j<0 then (j:Int) else 0):Nat->AV)=fun _=>I 0 from funext fun j=>by simp,List.map_const',List.length_range]
 refine uw.L1 (fun m x5 h' nx'=>∃ i:Nat,x5=I i/\n-i=m/\i<=n/\Hp h h' nx' [.arr s [.sl tb 0 n (some n) 1,.bool false],.arr tb ((idP n i).map I),.arr r [.zh,.bool false]]) (m:=n) (by omega) ⟨0,rfl,rfl,by omega,H4.cast (by rw [e0];rfl)⟩ ?_;rintro m z3 z5 z6 h5 nx5 R ⟨i,rfl,rfl,hi,H5⟩ hR;simp only [jm];by_cases hlt:i<n
 ·simp only [show (i:Int)<(n:Int) by omega,decide_true,zC];rw [sFx,H5.load (k:=0) (i:=0+0) rfl rfl,sIx (i:=i) rfl hlt];refine H5.store (k:=1) rfl (by simpa using hlt) rfl fun h6 H6 => ?_;rw [jd (by omega)];refine hR _ _ _ _ _ _ (by omega) ⟨i+1,rfl,rfl,by omega,H6.cast ?_⟩;rw [<- zsz,List.map_set];rfl
 ·simp only [show ¬ (i:Int)<(n:Int) by omega,decide_false,zD];obtain rfl:i=n:=by omega
  rw [uw.k8,H5.zi (k:=0) (n:=2) rfl rfl];refine H5.qy (k:=2) (n:=2) rfl rfl rfl fun h6 H6 => ?_;rw [H6.zi (k:=2) (n:=2) rfl rfl];have e1:idP i i=(idS i).1:=Zcn fun j hj=>by rw [if_pos (List.mem_range.1 hj)]
  have e2:(idS i).1.length=i:=by simp [idS]
  refine hK _ _ _ _ (encS (idS i)) H6 ?_ rfl;refine zgn ?_ (zH rfl) rfl;have:=H6.ay (k:=1) (cap:=some i) (e:=1) (n:=i) rfl (Zah _) (by simp) (fun v hv=>by obtain ⟨x,_,rfl⟩:=List.mem_map.1 hv;rfl);rw [e1] at this;have e3:encI (idS i).1=.lst 1 i ((idS i).1.map I):=by rw [encI,e2]
  rw [e3];exact this
def vW (p q:List Int) (i:Nat):List Int:=vX p (q.take i)++List.replicate (q.length-i) 0
theorem u9 (p q:List Int):(vX p q).length=q.length:=by simp [vX]
theorem zc7 {p q:List Int} {i:Nat} (hi:i<=q.length):(vW p q i).length=q.length:=by simp [vW,u9];omega
theorem zmj {p q:List Int} {i:Nat} {x:Int} (h:q[i]? = some x):(vW p q i).set i (p.getD x.toNat 0)=vW p q (i+1):=by
 have hi:=(List.getElem?_eq_some_iff.1 h).1;have hl:(vX p (q.take i)).length=i:=by rw [u9,Zbb];omega
 rw [vW,vW,zi0 h,Zcr _ _ (by omega),hl];rw [show q.length-i=(q.length-(i+1))+1 by omega,List.replicate_succ,Nat.sub_self,Zcd];simp
theorem zp2 {a b:Sym} (hq:∀ x∈b.1,0<=x/\x<(a.1.length:Int)) (hl:b.1.length<=1000):Pure Tryz.prog B 250 [encS a,encS b] (· = encS (jK a b)):=by
 refine yF fun h nx K H0 hK=>zL zP yj 1000000 fun hf => ?_;rw [uy.go];refine H0.box (l:=[encI a.1,.bool a.2]) rfl fun ba h1 nx1 H1 => ?_;refine H1.box (l:=[encI b.1,.bool b.2]) rfl fun bb h2 nx2 H2 => ?_;refine H2.alloc fun r h3 nx3 H3 => ?_;have hch:(mkSl 8 (I (b.1.length:Int)) (I (b.1.length:Int))&&true)=true:=by
  have:mkSl 8 (I (b.1.length:Int)) (I (b.1.length:Int))=(Nat.ble b.1.length b.1.length&&Nat.ble b.1.length 1000000&&Nat.ble (8*b.1.length) 281474976710656):=rfl;rw [this,Zac (Zah _),Zac (by omega),Zac (by omega)];rfl
 rw [show (true&&true)=true from rfl,yV,sFx,H3.load (k:=1) (i:=0+0) rfl rfl,zE,hch,yV,sFx,H3.load (k:=2) (i:=0+1) rfl rfl,sFx,H3.load (k:=1) (i:=0+1) rfl rfl,zpq];refine H3.mk1 b.1.length rfl rfl (by omega) (by decide) fun tb h4 nx4 H4 => ?_;rw [zpq,zA,H4.load (k:=2) (i:=0+1) rfl rfl,zA,sFx,zA,H4.load (k:=3) (i:=0+1) rfl rfl,zA,sFx,zA,zE,zA,H4.load (k:=2) (i:=0+0) rfl rfl,zA,sFx,zA,zgo rfl rfl];refine H4.alloc fun s h5 nx5 H5 => ?_;rw [zgo rfl rfl,zA,zpq,zA,H5.load (k:=3) (i:=0+1) rfl rfl,zA,sFx,zA,H5.load (k:=4) (i:=0+1) rfl rfl,zA,sFx,zA,zE,zA,H5.load (k:=3) (i:=0+0) rfl rfl,zA,sFx,zA];refine H5.qy (k:=0) (n:=2) rfl rfl rfl fun h6 H6 => ?_;rw [sFx,H6.load (k:=3) (i:=0+0) rfl rfl,zE];have e0:List.replicate b.1.length (I 0)=(vW a.1 b.1 0).map I:=by simp [vW,vX]
 refine uy.L1 (fun m x10 h' nx'=>∃ i:Nat,x10=I i/\b.1.length-i=m/\i<=b.1.length/\Hp h h' nx' [.arr s [.sl tb 0 b.1.length (some b.1.length) 1,.bool (a.2 != b.2)],.arr tb ((vW a.1 b.1 i).map I),.arr r [.zh,.bool false],.arr bb [encI b.1,.bool b.2],.arr ba [encI a.1,.bool a.2]]) (m:=b.1.length) (by omega) ⟨0,rfl,rfl,by omega,H6.cast (by rw [e0];rfl)⟩ ?_;rintro m z6 z7 z10 z11 h7 nx7 R ⟨i,rfl,rfl,hi,H7⟩ hR;simp only [jm];by_cases hlt:i<b.1.length
 ·simp only [show (i:Int)<(b.1.length:Int) by omega,decide_true,zC];have hx:b.1[i]? = some b.1[i]:=List.getElem?_eq_getElem hlt;obtain ⟨q1,q2⟩:=hq _ (Zao hlt);have hy:a.1[b.1[i].toNat]? = some (a.1.getD b.1[i].toNat 0):=by rw [Zab,List.getElem?_eq_getElem (by omega)];rfl
  rw [dw rfl hlt,ldL (sH hx),sFx,H7.load (k:=0) (i:=0+0) rfl rfl,sFx,H7.load (k:=4) (i:=0+0) rfl rfl,dw (i:=b.1[i].toNat) (by omega) (by omega),ldL (sH hy),sIx (i:=i) rfl hlt];refine H7.store (k:=1) rfl (by rw [Zaq,zc7 hi];exact hlt) rfl fun h8 H8 => ?_;rw [jd (by omega)];refine hR _ _ _ _ _ _ _ (by omega) ⟨i+1,rfl,rfl,by omega,H8.cast ?_⟩;rw [<- zmj hx,List.map_set];rfl
 ·simp only [show ¬ (i:Int)<(b.1.length:Int) by omega,decide_false,zD];obtain rfl:i=b.1.length:=by omega
  rw [uy.k8,H7.zi (k:=0) (n:=2) rfl rfl];refine H7.qy (k:=2) (n:=2) rfl rfl rfl fun h8 H8 => ?_;rw [H8.zi (k:=2) (n:=2) rfl rfl];have e1:vW a.1 b.1 b.1.length=(jK a b).1:=by simp [vW,jK]
  have e2:(jK a b).1.length=b.1.length:=u9 _ _;refine hK _ _ _ _ (encS (jK a b)) H8 ?_ rfl;refine zgn ?_ (zH rfl) rfl;have:=H8.ay (k:=1) (cap:=some b.1.length) (e:=1) (n:=b.1.length) rfl (Zah _) (by rw [Zaq,zc7 (Zah _)];omega) (fun v hv=>by obtain ⟨x,_,rfl⟩:=List.mem_map.1 hv;rfl);rw [e1] at this;have e3:encI (jK a b).1=.lst 1 b.1.length ((jK a b).1.map I):=by rw [encI,e2]
  rw [e3];exact this
def keyN (a:Sym):List Nat:=a.1.map Int.toNat++(if a.2 then [1] else [])
def rV (a:Sym):List UInt8:=(keyN a).map UInt8.ofNat
def DS (n:Nat) (a:Sym):Prop:=a.1.length=n/\∀ x∈a.1,0<=x/\x<(n:Int)
theorem zp3 {n:Nat} (hn:n<=256) {a b:Sym} (ha:DS n a) (hb:DS n b) (h:rV a=rV b):a=b:=by
 have hlt:∀ {c:Sym},DS n c->∀ x∈keyN c,x<256:=fun {c} hc x hx=>by
  rcases List.mem_append.1 hx with q | q
  ·obtain ⟨y,hy,rfl⟩:=List.mem_map.1 q;have:=hc.2 y hy;omega
  ·by_cases c2:c.2=true
   ·rw [if_pos c2] at q;simp at q;omega
   ·rw [if_neg c2] at q;cases q
 have hid:∀ {c:Sym},DS n c->(rV c).map UInt8.toNat=keyN c:=fun {c} hc=>by
  rw [rV,Zcl]
  conv=>rhs;rw [<- List.map_id (keyN c)]
  exact Zcn fun x hx=>by
   show (UInt8.ofNat x).toNat=x;rw [UInt8.toNat_ofNat'];exact Nat.mod_eq_of_lt (hlt hc x hx)
 have e:keyN a=keyN b:=by rw [<- hid ha,<- hid hb,h]
 have hl:(a.1.map Int.toNat).length=(b.1.map Int.toNat).length:=by simp [ha.1,hb.1]
 obtain ⟨e1,e2⟩:=List.append_inj e hl;have back:∀ {c:Sym},DS n c->(c.1.map Int.toNat).map Int.ofNat=c.1:=fun {c} hc=>by
  rw [Zcl]
  conv=>rhs;rw [<- List.map_id c.1]
  exact Zcn fun x hx=>by
   have:=hc.2 x hx;show ((x.toNat:Nat):Int)=x;omega
 have e3:a.1=b.1:=by rw [<- back ha,<- back hb,e1]
 refine Prod.ext e3 ?_;cases h1:a.2 <;> cases h2:b.2 <;> rw [h1,h2] at e2 <;> first | rfl | simp at e2
theorem Hp.zko {K:AV->T Blk->Pa->OP} {h0 h:T Blk} {nx:Pa} {L:List Ob} {k n c bytes:Nat} {id:Pa} {l:List AV} {v x:AV} (H:Hp h0 h nx L) (hk:L[k]? = some (.arr id l)) (hl:l.length=c) (hn:n<c) (hx:∀ (no:OP) (K':List AV->Nat->OP),gZ x h no K'=K' [v] 1) (hs:Go.Ev.jf v=true) (hb:bytes*1000000<=70368744177664) (hc:c<=1000000)
  (hK:∀ h',Hp h0 h' nx (L.set k (.arr id (l.set n v)))->K (.sl id 0 (n+1) (some c) 1) h' nx=.ok True):ny 1 bytes (.sl id 0 n (some c) 1) x h nx K=.ok True:=by
 have hcc:(Nat.ble (bytes*1000000) 70368744177664&&Nat.beq [v].length (1*1)&&Nat.ble 1 1&&[v].all Go.Ev.jf)=true:=by
  rw [Zac hb];simp [hs]
 unfold ny aQ;rw [hx,hcc,cond_true];obtain ⟨op,t,h1,h2⟩:yu h id l:=H.own _ (Zaa hk);show (bif Nat.beq 1 1&&Nat.ble (n+1) 1000000 then jk (T.get .no id h) _ (.no 35) else .no 36)=_;rw [h1,Zac (by omega)];show (bif Nat.ble (0+n*1) l.length then (bif Nat.ble (n+1) c then (bif Nat.ble (0+(n+1)*1) l.length then kF id 0 n (some c) 1 op l.length t [v] 1 h nx K else .no 32) else gL 0 n 1 t [v] 1 h nx K) else .no 34)=_;rw [Zac (by omega),Zac (show n+1<=c by omega),Zac (by omega),cond_true,cond_true,cond_true];unfold kF;rw [yY,T.yt,zZ];refine hK _ (H.upd hk (by simp [Ob.names]) rfl ?_);have:=yu.set (v:=v) h1 h2 (show n<l.length by omega);rw [Zbw,Zaz];exact this
theorem zp4:∀ l:List Nat,b2sA (l.map u8)=some (l.map UInt8.ofNat)
 | []=>rfl
 | x::l=>by
  show (match b2sA (l.map u8) with
   | some s=>some (UInt8.ofNat ((x:Int)).toNat::s)
   | none=>none)=_
  rw [zp4 l];rfl
theorem Hp.b2s {h0 h:T Blk} {nx:Pa} {L:List Ob} {k n:Nat} {id:Pa} {cap:Option Nat} {l:List AV} {y:List Nat} {op:AV->OP} (H:Hp h0 h nx L) (hk:L[k]? = some (.arr id l)) (hn:n<=l.length) (hy:l.take n=y.map u8):sB2s (.sl id 0 n cap 1) h op=op (.str (y.map UInt8.ofNat)):=by
  obtain ⟨o,t,h1,h2⟩:yu h id l:=H.own _ (Zaa hk);show jk (T.get .no id h) _ _=_;rw [h1]
  show (bif Nat.ble (0+n) l.length then (match b2sA (zX t 0 n) with
          | some s=>op (.str s)
          | none=>.no 21) else .no 21)=_
  have e:zX t 0 n=l.take n:=by
    refine Zba fun i => ?_;by_cases hi:i<n
    · rw [zV _ _ _ _ hi,List.getElem?_take_of_lt hi]
      conv=>rhs;rw [<- h2]
      rw [zV _ _ _ _ (by omega)]
    · rw [List.getElem?_eq_none (by simp;omega),List.getElem?_eq_none (by simp;omega)]
  rw [Zac (by omega),cond_true,e,hy,zp4]
def padN (y:List Nat) (c:Nat):List AV:=y.map u8++List.replicate (c-y.length) (.int .u8 0)
theorem mB {y:List Nat} {c:Nat} (h:y.length<=c):(padN y c).length=c:=by simp [padN];omega
theorem zgq {y:List Nat} {c x:Nat} (h:y.length<c):(padN y c).set y.length (u8 x)=padN (y++[x]) c:=by
 rw [padN,padN,Zcr _ _ (by simp),Zaq,Nat.sub_self,show c-y.length=(c-(y++[x]).length)+1 by simp;omega,List.replicate_succ,Zcd];simp
theorem zeo {a:Sym} (ha:∀ x∈a.1,0<=x/\x<256) (hl:a.1.length<=1000):Pure Tryz.prog B 112 [encS a] (· = .str (rV a)):=by
 refine yF fun h nx K H0 hK=>zL zP yj 1000000 fun hf => ?_;rw [jy.go];refine H0.box (l:=[encI a.1,.bool a.2]) rfl fun ba h1 nx1 H1 => ?_;rw [sFx,H1.load (k:=0) (i:=0+0) rfl rfl,zE,jd (by omega)];refine H1.mkN (n:=0) (c:=a.1.length+1) rfl (by omega) (by omega) (by omega) (by omega) fun tb h2 nx2 H2 => ?_;rw [sFx,H2.load (k:=1) (i:=0+0) rfl rfl,zE];have e0:ni (a.1.length+1) [AV.int .u8 0]=padN [] (a.1.length+1):=by rw [zfn];rfl
 refine jy.L1 (fun m x3 x7 h' nx'=>∃ i:Nat,x7=I i/\x3=.sl tb 0 i (some (a.1.length+1)) 1/\a.1.length-i=m/\i<=a.1.length/\Hp h h' nx' [.arr tb (padN ((a.1.take i).map Int.toNat) (a.1.length+1)),.arr ba [encI a.1,.bool a.2]]) (m:=a.1.length) (by omega) ⟨0,rfl,rfl,rfl,by omega,H2.cast (by rw [e0];rfl)⟩ ?_;rintro m z3 z4 z7 z8 h3 nx3 R ⟨i,rfl,rfl,rfl,hi,H3⟩ hR;simp only [jm];have hlen:((a.1.take i).map Int.toNat).length=i:=by simp;omega
 by_cases hlt:i<a.1.length
 ·simp only [show (i:Int)<(a.1.length:Int) by omega,decide_true,zC];have hx:a.1[i]? = some a.1[i]:=List.getElem?_eq_getElem hlt;obtain ⟨q1,q2⟩:=ha _ (Zao hlt);obtain ⟨c,hc⟩:∃ c:Nat,a.1[i]=(c:Int):=⟨a.1[i].toNat,by omega⟩;rw [dw rfl hlt,ldL (sH hx),hc,zp0,Nat.mod_eq_of_lt (by omega)];refine H3.zu (l:=[u8 c]) rfl fun t1 h4 nx4 H4 => ?_;refine H4.zko (k:=1) (n:=i) (v:=u8 c) rfl (mB (by omega)) (by omega) (yu.rd (l:=[u8 c]) (n:=1) (H4.own _ (Zai ..)) rfl) rfl (by decide) (by omega) fun h5 H5 => ?_;rw [jd (by omega)];refine hR _ _ _ _ _ _ _ (by omega) ⟨i+1,rfl,rfl,rfl,by omega,H5.drop.cast ?_⟩;have e1:(a.1.take (i+1)).map Int.toNat=(a.1.take i).map Int.toNat++[c]:=by
   rw [Zan,hx,Zbq,hc];rfl
  have:=zgq (y:=(a.1.take i).map Int.toNat) (c:=a.1.length+1) (x:=c) (by omega);rw [hlen] at this;rw [e1,<- this];rfl
 ·simp only [show ¬ (i:Int)<(a.1.length:Int) by omega,decide_false,zD];obtain rfl:i=a.1.length:=by omega
  rw [List.take_length] at H3 hlen;rw [jy.k8,sFx,H3.load (k:=1) (i:=0+1) rfl rfl];cases h2:a.2 with
  | false =>
   simp only [zD];rw [H3.b2s (k:=0) (y:=a.1.map Int.toNat) rfl (by rw [mB (by omega)];omega) (by rw [padN,List.take_left' (by simp)])];exact hK _ _ _ _ _ H3 (zH rfl) (by rw [rV,keyN,h2];simp)
  | true =>
   simp only [zC];refine H3.zu (l:=[u8 1]) rfl fun t1 h4 nx4 H4 => ?_;refine H4.zko (k:=1) (n:=a.1.length) (v:=u8 1) rfl (mB (by omega)) (by omega) (yu.rd (l:=[u8 1]) (n:=1) (H4.own _ (Zai ..)) rfl) rfl (by decide) (by omega) fun h5 H5 => ?_;have:=zgq (y:=a.1.map Int.toNat) (c:=a.1.length+1) (x:=1) (by omega);rw [hlen] at this;have H6:=H5.drop;rw [this] at H6;rw [H6.b2s (k:=0) (y:=a.1.map Int.toNat++[1]) rfl (by rw [mB (by simp)];exact Zah _) (by rw [padN,List.take_left' (by simp)])];exact hK _ _ _ _ _ H6 (zH rfl) (by rw [rV,keyN,h2];simp)
def fG (ks:List Sym):List (AV×AV):=ks.map fun b=>(.str (rV b),encS b)
theorem zp5 {n:Nat} (hn:n<=256) {a:Sym} (ha:DS n a):∀ (ks:List Sym) (i:Nat),(∀ b∈ks,DS n b)->(a∈ks->∃ j,kH .str (.str (rV a)) (fG ks) i=some (some (j,encS a)))/\(a∉ks->kH .str (.str (rV a)) (fG ks) i=some none)
 | [],i,_=>⟨fun h=>absurd h (by simp),fun _=>rfl⟩
 | b::ks,i,h=>by
  obtain ⟨r1,r2⟩:=zp5 hn ha ks (i+1) fun c hc=>h c (by simp [hc])
  have e:kH .str (.str (rV a)) (fG (b::ks)) i=(match some (jT (rV a) (rV b)) with
   | some true=>some (some (i,encS b))
   | some false=>kH .str (.str (rV a)) (fG ks) (i+1)
   | none=>none):=rfl
  rw [e];by_cases c:a=b
  ·subst c;rw [cu.2 rfl];exact ⟨fun _=>⟨i,rfl⟩,fun q=>absurd (by simp) q⟩
  ·have hb:jT (rV a) (rV b)=false:=by
    cases q:jT (rV a) (rV b) with
    | false=>rfl
    | true=>exact absurd (zp3 hn ha (h b (by simp)) (cu.1 q)) c
   rw [hb]
   exact ⟨fun q=>r1 (by
    rcases List.mem_cons.1 q with q | q
    ·exact absurd q c
    ·exact q),fun q=>r2 fun q2=>q (by simp [q2])⟩
theorem zze {n:Nat} (hn:n<=256) {a:Sym} (ha:DS n a) {ks:List Sym} (hks:∀ b∈ks,DS n b) {h:T Blk} {id:Pa} {z:AV} {op:AV->OP} (own:T.get .no id h=.map (fG ks).length (fG ks)):zex .str z true (.map id) (.str (rV a)) h op=op (.tup [if a∈ks then encS a else z,.bool (decide (a∈ks))]):=by
 obtain ⟨r1,r2⟩:=zp5 hn ha ks 0 hks;show mg (T.get .no id h) _ _=_;rw [own]
 show (match gQ .str (.str (rV a)) (fG ks) with
    | some (some (_,v))=>op (bif true then .tup [v,.bool true] else v)
    | some none=>op (bif true then .tup [z,.bool false] else z)
    | none=>.no 20)=_
 rw [show gQ .str (.str (rV a)) (fG ks)=kH .str (.str (rV a)) (fG ks) 0 from rfl];by_cases c:a∈ks
 ·obtain ⟨j,hj⟩:=r1 c;rw [hj,if_pos c,decide_eq_true c];rfl
 ·rw [r2 c,if_neg c,decide_eq_false c];rfl
theorem zp6 {n:Nat} (hn:n<=256) {a:Sym} (ha:DS n a) {ks:List Sym} (hks:∀ b∈ks,DS n b) {h0 h:T Blk} {nx p id:Pa} {L:List Ob} {k:Nat} {K:Kw Prop} (H:Hp h0 h nx L) (hk:L[k]? = some (.map id (fG ks)))
  (hK:K (.bool (decide (a∈ks))) h nx=.ok True):(CS Tryz.prog B).fn 249 p [.map id,encS a] h nx K=.ok True:=by
 refine zif (Q:=(· = .bool (decide (a∈ks)))) (fun hfr K hK=>zL zP yj 100 fun _ => ?_) (fun v hv _=>by rw [hv];exact hK);rw [oz.go];have own:T.get .no id h=.map (fG ks).length (fG ks):=H.own _ (Zaa hk);have Hb:=Hp.init hfr;refine Hb.box (l:=[encI a.1,.bool a.2]) rfl fun bx h1 nx1 H1 => ?_;rw [H1.zi (k:=0) (n:=2) rfl rfl];refine zeo (fun x hx=>by have:=ha.2 x hx;omega) (by have:=ha.1;omega) _ _ _ _ ?_;rintro _ rfl _;have own1:T.get .no id h1=.map (fG ks).length (fG ks):=by rw [<- own];exact H1.keep id (by rw [own];intro q;cases q)
 rw [zze hn ha hks own1,yL,yN];refine H1.alloc fun r h2 nx2 H2 => ?_;have hst:∃ l2:List AV,(if a∈ks then encS a else .agg [.zh,.bool false])=.agg l2/\l2.length=2:=by
  by_cases c:a∈ks
  ·exact ⟨_,if_pos c,rfl⟩
  ·exact ⟨_,if_neg c,rfl⟩
 obtain ⟨l2,e2,hl2⟩:=hst;rw [e2];refine H2.qy (k:=0) (n:=2) rfl rfl hl2 fun h3 H3 => ?_;exact hK _ _ _ H3.fr H3.keep ⟨_,zH rfl,rfl⟩
theorem Hp.putS {n:Nat} (hn:n<=256) {a:Sym} (ha:DS n a) {ks:List Sym} (hks:∀ b∈ks,DS n b) (hna:a∉ks) {K:AV->T Blk->Pa->OP} {h0 h:T Blk} {nx:Pa} {L:List Ob} {k:Nat} {id:Pa} (H:Hp h0 h nx L) (hk:L[k]? = some (.map id (fG ks)))
  (hK:∀ h',Hp h0 h' nx (L.set k (.map id (fG (ks++[a]))))->K .undef h' nx=.ok True):pJ .str (.map id) (.str (rV a)) (encS a) h nx K=.ok True:=by
 have own:T.get .no id h=.map _ _:=H.own _ (Zaa hk);obtain ⟨_,r2⟩:=zp5 hn ha ks 0 hks;show mg (T.get .no id h) _ _=_;rw [own]
 show (match gQ .str (.str (rV a)) (fG ks) with
    | some (some (i,_))=>T.vg (β:=OP) Blk.no (Blk.map (fG ks).length ((fG ks).modify i fun e=>(e.1,encS a))) id h fun h'=>K .undef h' nx
    | some none=>qo ((fG ks).length+1) fun n=>T.vg (β:=OP) Blk.no (Blk.map n (fG ks++[(AV.str (rV a),encS a)])) id h fun h'=>K .undef h' nx
    | none=>Out.no 45)=_
 rw [show gQ .str (.str (rV a)) (fG ks)=kH .str (.str (rV a)) (fG ks) 0 from rfl,r2 hna];simp only [zZ,T.yt];refine hK _ (H.upd hk (by simp [Ob.names]) rfl ?_);show T.get Blk.no id _=Blk.map _ _;rw [T.get_set_same];simp [fG]
theorem Hp.zui {h0 h:T Blk} {nx:Pa} {L:List Ob} {k:Nat} {id:Pa} {ks:List Sym} {op:AV->OP} (H:Hp h0 h nx L) (hk:L[k]? = some (.map id (fG ks))):zjm (.map id) h op=op (I ks.length):=by
 have own:T.get .no id h=.map _ _:=H.own _ (Zaa hk);show mg (T.get .no id h) _ _=_;rw [own];show qo (fG ks).length (fun n=>op (.int .i64 (.ofNat n)))=_;rw [zZ,fG,Zaq];rfl
inductive QV:AV->Ob->List Sym->Prop
 | cap (id:Pa) (off:Nat) (l:List AV) (q:List Sym):off+q.length*2<=l.length->(l.drop off).take (q.length*2)=jC q->QV (.sl id off q.length (some q.length) 2) (.arr id l) q
 | opn (id:Pa) (off m:Nat) (l:List AV) (q:List Sym):off+q.length*2=m*2->l.length=m*2->l.drop off=jC q->QV (.sl id off q.length none 2) (.gro (some id) 2 m l) q
 | esl (id:Pa) (m:Nat) (l:List AV):QV .esl (.gro (some id) 2 m l) []
theorem qL (q:List Sym):(jC q).length=q.length*2:=by
 induction q with
 | nil=>rfl
 | cons a q ih=>rw [jC,Zbc,Zas,<- jC,ih];simp;omega
theorem QV.len {v:AV} {o:Ob} {q:List Sym} (h:QV v o q) {op:AV->OP}:sLen v op=op (I q.length):=by
 cases h <;> exact nr rfl
theorem QV.names {v:AV} {o:Ob} {q:List Sym} (h:QV v o q):∃ id,o.names=[id]:=by
 cases h <;> exact ⟨_,rfl⟩
theorem QV.cells {v:AV} {o:Ob} {a:Sym} {q:List Sym} (h:QV v o (a::q)):∃ id off cap l,v=.sl id off (a::q).length cap 2/\off+(a::q).length*2<=l.length/\(l.drop off).take ((a::q).length*2)=jC (a::q)/\∀ hh,o.holds hh->∃ op t,T.get .no id hh=.cells op l.length t/\zX t 0 l.length=l:=by
 cases h with
 | cap id off l _ h1 h2=>exact ⟨id,off,_,l,rfl,h1,h2,fun hh ho=>ho⟩
 | opn id off m l _ h1 h2 h3 =>
  refine ⟨id,off,_,l,rfl,by omega,by rw [h3,Zal (by rw [qL];exact Zah _)],fun hh ho => ?_⟩;obtain ⟨t,g1,g2,g3⟩:=ho;exact ⟨true,t,by rw [g1,h2],by rw [h2];exact g3⟩
theorem QV.first {v:AV} {o:Ob} {a:Sym} {q:List Sym} (h:QV v o (a::q)):∃ id off,(∀ op:AV->OP,zO 2 v (I 0) op=op (.ptr id off))/\∀ {h0 hh:T Blk} {nx:Pa} {L:List Ob} {k:Nat},Hp h0 hh nx L->L[k]? = some o->∀ op:AV->OP,zK 2 (.ptr id off) hh op=op (encS a):=by
 obtain ⟨id,off,cap,l,rfl,g3,g4,g⟩:=h.cells;refine ⟨id,off,fun op => ?_,fun {h0 hh nx L k} H hk op => ?_⟩
 ·have:=dF (id:=id) (off:=off) (n:=(a::q).length) (cap:=cap) (e:=2) (e':=2) (i:=0) (k:=.i64) (K:=op) (by simp);simpa using this
 ·obtain ⟨op',t,g1,g2⟩:=g hh (H.own _ (Zaa hk));show jk (T.get .no id hh) _ _=_;rw [g1];show (bif Nat.ble (off+2) l.length then op (.agg (zX t off 2)) else .no 8)=_;have hl:(a::q).length=q.length+1:=rfl;rw [hl] at g3 g4;rw [Zac (by omega),cond_true];have e:∀ i,i<l.length->T.get .undef (.of i) t=l.getD i .undef:=fun i hi=>by
   have:=zV t 0 l.length i hi;rw [g2,Zaz] at this;rw [Zab,this];rfl
  have d:∀ i,i<2->l.getD (off+i) .undef=(jC (a::q)).getD i .undef:=fun i hi=>by
   rw [<- g4,Zab,Zab,List.getElem?_take_of_lt (by omega),List.getElem?_drop]
  have e2:zX t off 2=[T.get .undef (.of off) t,T.get .undef (.of (off+1)) t]:=rfl;rw [e2,e off (by omega),e (off+1) (by omega),d 1 (by omega)];have:=d 0 (by omega);rw [Nat.add_zero] at this;rw [this];rfl
theorem QV.rest {v:AV} {o:Ob} {a:Sym} {q:List Sym} (h:QV v o (a::q)):∃ v',(∀ op:AV->OP,kZ 2 v (some (I 1)) none none op=op v')/\QV v' o q:=by
 have hl:(a::q).length=q.length+1:=rfl;cases h with
 | cap id off l _ h1 h2 =>
  rw [hl] at h1 h2 ⊢
  have e0:∀ op:AV->OP,kZ 2 (.sl id off (q.length+1) (some (q.length+1)) 2) (some (I 1)) none none op =
    (bif Nat.beq (q.length+1) 1 then op (.sl id off (q.length+1-1) (some 0) 2) else qo (off+1*2) fun off=>qo (q.length+1-1) fun h=>qo (q.length+1-1) fun m=>op (.sl id off h (some m) 2)):=fun op=>by
   show (match (bif Nat.ble 1 (q.length+1) then some 1 else none:Option Nat) with
    | none=>Out.no 17
    | some l=>bif Nat.beq (q.length+1) l then op (.sl id off (q.length+1-l) (some 0) 2)
     else qo (off+l*2) fun off=>qo (q.length+1-l) fun h=>qo (q.length+1-l) fun m=>op (.sl id off h (some m) 2))=_
   rw [Zac (by omega)];rfl
  cases q with
  | nil=>exact ⟨.sl id off 0 (some 0) 2,fun op=>by rw [e0];rfl,.cap id off l [] (by simp at h1 ⊢;omega) (by simp [jC])⟩
  | cons b q =>
   refine ⟨.sl id (off+2) (b::q).length (some (b::q).length) 2,fun op => ?_,.cap id (off+2) l (b::q) (by simp only [Zav] at h1 ⊢;omega) ?_⟩
   ·rw [e0,tK (by simp)];simp only [zZ,cond_false,Nat.one_mul,Nat.add_sub_cancel]
   ·have e1:jC (b::q)=(jC (a::b::q)).drop 2:=rfl;rw [e1,<- h2,List.drop_take,List.drop_drop]
    congr 1
    omega
 | opn id off m l _ h1 h2 h3 =>
  rw [hl] at h1 ⊢
  have e0:∀ op:AV->OP,kZ 2 (.sl id off (q.length+1) none 2) (some (I 1)) none none op =
    (bif Nat.ble 2 (q.length+1) then qo (off+1*2) fun off=>qo (q.length+1-1) fun h=>op (.sl id off h none 2) else op .esl):=fun op=>by
   show (match (bif Nat.ble 1 (q.length+1) then some 1 else none:Option Nat) with
    | none=>Out.no 17
    | some l=>bif Nat.beq l 0 then op (.sl id off (q.length+1) none 2) else bif Nat.ble (l+1) (q.length+1) then qo (off+l*2) fun off=>qo (q.length+1-l) fun h=>op (.sl id off h none 2) else op .esl)=_
   rw [Zac (by omega)];rfl
  cases q with
  | nil=>exact ⟨.esl,fun op=>by rw [e0];rfl,.esl id m l⟩
  | cons b q =>
   refine ⟨.sl id (off+2) (b::q).length none 2,fun op => ?_,.opn id (off+2) m l (b::q) (by omega) h2 ?_⟩
   ·rw [e0,Zac (by simp)];simp only [zZ,cond_true,Nat.one_mul,Nat.add_sub_cancel]
   ·rw [<- List.drop_drop,h3];rfl
theorem QV.app {v:AV} {o:Ob} {c:Sym} {q:List Sym} (h:QV v o q) (hq:q≠[]) {h0 hh:T Blk} {nx:Pa} {L:List Ob} {k:Nat} {x:AV} {K:AV->T Blk->Pa->OP} (H:Hp h0 hh nx L) (hk:L[k]? = some o) (hx:∀ (no:OP) (K':List AV->Nat->OP),gZ x hh no K'=K' [encI c.1,.bool c.2] 1) (hlim:q.length+1<=100000)
  (hK:∀ v' o' h' nx',QV v' o' (q++[c])->Hp h0 h' nx' (L.set k o')->K v' h' nx'=.ok True):p8 (CS Tryz.prog B) 2 32 v x hh nx K=.ok True:=by
 have hfl:jC (q++[c])=jC q++[encI c.1,.bool c.2]:=by simp [jC]
 have hln:(q++[c]).length=q.length+1:=by simp
 have hcc:(Nat.ble (32*1000000) 70368744177664&&Nat.beq [encI c.1,AV.bool c.2].length (1*2)&&Nat.ble 1 2&&[encI c.1,AV.bool c.2].all Go.Ev.jf)=true:=rfl;have new:∀ (id:Pa) (off:Nat) (op:Bool) (l:List AV) (t:T AV),zX t 0 l.length=l->off+q.length*2<=l.length->(l.drop off).take (q.length*2)=jC q->gL off q.length 2 t [encI c.1,.bool c.2] 1 hh nx K=.ok True:=fun id off op l t g2 g3 g4=>by
  unfold gL;rw [yC,zZ];have e:zX t off (q.length*2)=jC q:=by
   rw [<- g4];refine Zba fun i => ?_;by_cases hi:i<q.length*2
   ·rw [zV _ _ _ _ hi,List.getElem?_take_of_lt hi,List.getElem?_drop]
    conv=>rhs;rw [<- g2]
    rw [zV _ _ _ _ (by omega),Zaz]
   ·rw [List.getElem?_eq_none (by simp;omega),List.getElem?_eq_none (by rw [Zbb];omega)]
  rw [e,<- hfl];have hlen:=qL (q++[c]);refine hK _ (.gro (some nx) 2 (q.length+1) (jC (q++[c]))) _ _ ?_ (Hp.back hk (Hp.new (x:=.gro (some nx) 2 (q.length+1) (jC (q++[c]))) (H.front hk).drop rfl fun h' e=>⟨_,by rw [e,hlen,hln],by rw [hlen,hln],?_⟩))
  ·have:=QV.opn nx 0 (q.length+1) (jC (q++[c])) (q++[c]) (by rw [hln];omega) (by rw [hlen,hln]) rfl;rw [hln] at this;exact this
  ·have:=uE (jC (q++[c]));rw [hlen,hln] at this;exact this
 cases h with
 | cap id off l _ h1 h2 =>
  obtain ⟨op,t,g1,g2⟩:=H.own _ (Zaa hk);show aQ 2 32 (.sl id off q.length (some q.length) 2) x hh nx K=_;unfold aQ;rw [hx,hcc,cond_true];show (bif Nat.beq 2 2&&Nat.ble (q.length+1) 1000000 then jk (T.get .no id hh) _ (.no 35) else .no 36)=_;rw [g1,Zac (by omega)];show (bif Nat.ble (off+q.length*2) l.length then (bif Nat.ble (q.length+1) q.length then _ else gL off q.length 2 t [encI c.1,.bool c.2] 1 hh nx K) else .no 34)=_;rw [Zac h1,bleF (by omega),cond_true,cond_false];exact new id off op l t g2 h1 h2
 | opn id off m l _ h1 h2 h3 =>
  obtain ⟨t,g1,g2,g3⟩:=H.own _ (Zaa hk);by_cases h0':off=0
  ·subst h0';obtain rfl:m=q.length:=by omega
   rw [List.drop_zero] at h3;subst h3;have e:(AV.sl id 0 q.length none 2)=qp (some id) 2 q.length:=rfl;show aQ 2 32 (.sl id 0 q.length none 2) x hh nx K=_;refine H.oN (k:=k) (o:=some id) (c:=1) (esz:=2) (bytes:=32) (new:=[encI c.1,.bool c.2]) hk hx rfl rfl (by decide) (by decide) (by omega) fun o' h' nx' ho H' => ?_;cases o' with
   | none=>exact absurd rfl (ho (.inl (by simp)))
   | some id' =>
    rw [<- hfl] at H';have hlen:=qL (q++[c]);have:=QV.opn id' 0 (q.length+1) (jC (q++[c])) (q++[c]) (by rw [hln];omega) (by rw [hlen,hln]) rfl;rw [hln] at this;exact hK _ _ _ _ this H'
  ·have hb0:Nat.beq off 0=false:=tK h0';show (bif Nat.beq off 0 then _ else cZ (CS Tryz.prog B) id off q.length 2 2 32 x hh nx K)=_;rw [hb0,cond_false];unfold cZ;rw [hx,hcc,cond_true];show (bif Nat.beq 2 2&&Nat.ble (q.length+1) 1000000 then jk (T.get .no id hh) _ (.no 35) else .no 36)=_;rw [g1,Zac (by omega)];show (bif Nat.ble (off+q.length*2) (m*2) then (bif Nat.ble (off+(q.length+1)*2) (m*2) then _ else bif true&&Nat.beq (off+q.length*2) (m*2) then _ else _) else _)=_;rw [Zac (by omega),bleF (by omega),oK (by omega),cond_true,cond_false];show (CS Tryz.prog B).pk [0,1] _=_;refine zob.2 ⟨fun i hi => ?_,rfl⟩;simp only [Zad,Zcb,or_false] at hi;rcases hi with rfl | rfl
   ·show zav id off q.length 2 (m*2) t [encI c.1,.bool c.2] 1 hh nx K=_;unfold zav;rw [yY,zZ,T.yt,zZ];have hwr:=kL t l [encI c.1,.bool c.2] (m*2) (by rw [<- h2] at g3 ⊢;exact g3);have hq2:=QV.opn id off (m+1) (l++[encI c.1,.bool c.2]) (q++[c]) (by rw [hln];omega) (by rw [Zas,h2];simp;omega) (by rw [List.drop_append_of_le_length (by omega),h3,hfl]);rw [hln] at hq2;refine hK _ _ _ _ hq2 (H.upd hk (by simp [Ob.names]) rfl ⟨_,by rw [T.get_set_same,show (m+1)*2=m*2+1*2 by omega],by rw [Zas,h2];simp;omega,?_⟩);rw [show (m+1)*2=m*2+[encI c.1,AV.bool c.2].length by simp;omega];exact hwr
   ·show gL off q.length 2 t [encI c.1,.bool c.2] 1 hh nx K=_;exact new id off true l t (by rw [h2];exact g3) (by omega) (by rw [h3,Zal (by rw [qL];exact Zah _)])
 | esl id m l=>exact absurd rfl hq
theorem zae {C:Calls Prop} {esz bytes e n:Nat} {o:Option Pa} {x:AV} {h:T Blk} {nx:Pa} {K:KW3}:p8 C esz bytes (qp o e n) x h nx K=ny esz bytes (qp o e n) x h nx K:=by cases o <;> exact nr rfl
end Go.Ev
set_option linter.unusedSectionVars false
namespace Go.Ev
section
variable {G:Type} [DecidableEq G] (mul:G->G->G) (e:G) (D:G->Prop)
structure zaf:Prop where
 de:D e
 dm:∀ a b,D a->D b->D (mul a b)
 assoc:∀ a b c,D a->D b->D c->mul (mul a b) c=mul a (mul b c)
 el:∀ a,D a->mul e a=a
 er:∀ a,D a->mul a e=a
 cl:∀ a b c,D a->D b->D c->mul a b=mul a c->b=c
def xZ (l:List G):Prop:=∀ a∈l,∀ b∈l,mul a b∈l
structure Clo (u g:List G):Prop where
 one:e∈g
 clo:∀ x∈g,∀ b∈u,mul b x∈g
 ind:∀ T:G->Prop,T e->(∀ x,T x->∀ b∈u,T (mul b x))->∀ x∈g,T x
variable {mul e D}
theorem subG:∀ (l r:List G),l.Nodup->(∀ x∈l,x∈r)->∃ s,r.Perm (l++s)
 | [],r,_,_=>⟨r,.refl _⟩
 | a::l,r,hn,hs=>by
  obtain ⟨h1,h2⟩:=List.nodup_cons.1 hn;have ha:=hs a (by simp);obtain ⟨s,hp⟩:=subG l (r.erase a) h2 fun x hx=>(List.mem_erase_of_ne (by rintro rfl;exact h1 hx)).2 (hs x (by simp [hx]));exact ⟨s,(List.perm_cons_erase ha).trans (.cons a hp)⟩
theorem lenG {l r:List G} (h1:l.Nodup) (h2:∀ x∈l,x∈r):l.length<=r.length:=by
 obtain ⟨s,hs⟩:=subG l r h1 h2;rw [hs.length_eq,Zas];omega
theorem allG {l r:List G} (h1:l.Nodup) (h2:∀ x∈l,x∈r) (h3:r.length<=l.length):∀ x∈r,x∈l:=by
 obtain ⟨s,hs⟩:=subG l r h1 h2;have hl:=hs.length_eq;obtain rfl:s=[]:=Zbe (by rw [Zas] at hl;omega);intro x hx;simpa using hs.mem_iff.1 hx
theorem Clo.dom {u g:List G} (L:zaf mul e D) (C:Clo mul e u g) (hu:∀ b∈u,D b):∀ x∈g,D x :=
 C.ind D L.de fun x hx b hb=>L.dm b x (hu b hb) hx
theorem Clo.mono {u u' g g':List G} (C:Clo mul e u g) (C':Clo mul e u' g') (h:∀ b∈u,b∈u'):∀ x∈g,x∈g' :=
 C.ind (· ∈ g') C'.one fun x hx b hb=>C'.clo x hx b (h b hb)
theorem Clo.sub {u g l:List G} (C:Clo mul e u g) (h1:e∈l) (h2:xZ mul l) (hu:∀ b∈u,b∈l):∀ x∈g,x∈l :=
 C.ind (· ∈ l) h1 fun x hx b hb=>h2 b (hu b hb) x hx
theorem Clo.prod {u g:List G} (L:zaf mul e D) (C:Clo mul e u g) (hu:∀ b∈u,D b):xZ mul g:=by
 intro a ha b hb;have hd:=C.dom L hu
 have key:∀ x∈g,D x/\mul x b∈g:=C.ind (fun x=>D x/\mul x b∈g) ⟨L.de,by rw [L.el b (hd b hb)];exact hb⟩ fun x hx c hc=>⟨L.dm c x (hu c hc) hx.1,by
  rw [L.assoc c x b (hu c hc) hx.1 (hd b hb)];exact C.clo _ hx.2 c hc⟩
 exact (key a ha).2
theorem pT {l:List G} (L:zaf mul e D) (hd:∀ a∈l,D a) (hn:l.Nodup) (h0:l≠[]) (hc:xZ mul l):e∈l:=by
 obtain ⟨a,ha⟩:=List.exists_mem_of_ne_nil l h0;have nd:(l.map (mul a)).Nodup:=by
  rw [List.Nodup,Zbj];refine (List.Pairwise.and_mem.1 hn).imp ?_;rintro x y ⟨hx,hy,hxy⟩ q;exact hxy (L.cl a x y (hd a ha) (hd x hx) (hd y hy) q)
 have:=allG nd (fun x hx=>by obtain ⟨y,hy,rfl⟩:=List.mem_map.1 hx;exact hc a ha y hy) (by simp) a ha;obtain ⟨x,hx,q⟩:=List.mem_map.1 this;have:x=e:=L.cl a x e (hd a ha) (hd x hx) L.de (by rw [q,L.er a (hd a ha)]);exact this ▸ hx
structure Bfs (u:List G) (q:List G) (i:Nat):Prop where
 nd:q.Nodup
 hd:q[0]? = some e
 clo:∀ j x,j<i->q[j]? = some x->∀ b∈u,mul b x∈q
 ind:∀ T:G->Prop,T e->(∀ x,T x->∀ b∈u,T (mul b x))->∀ x∈q,T x
theorem Bfs.start (u:List G):Bfs (mul:=mul) (e:=e) u [e] 0:=⟨by simp,rfl,fun j x h=>by omega,fun T h1 _ x hx=>by rw [List.mem_singleton.1 hx];exact h1⟩
theorem Bfs.done {u q:List G} (B:Bfs (mul:=mul) (e:=e) u q q.length):Clo mul e u q :=
 ⟨Zaa B.hd,fun x hx b hb=>by
  obtain ⟨j,hj⟩:=List.mem_iff_getElem?.1 hx;exact B.clo j x (List.getElem?_eq_some_iff.1 hj).1 hj b hb,B.ind⟩
structure aC (u:List G) (q:List G) (i:Nat) (x:G) (k:Nat):Prop where
 nd:q.Nodup
 hd:q[0]? = some e
 at':q[i]? = some x
 clo:∀ j y,j<i->q[j]? = some y->∀ b∈u,mul b y∈q
 clk:∀ b∈u.take k,mul b x∈q
 ind:∀ T:G->Prop,T e->(∀ x,T x->∀ b∈u,T (mul b x))->∀ x∈q,T x
theorem Bfs.at {u q:List G} {i:Nat} {x:G} (B:Bfs (mul:=mul) (e:=e) u q i) (h:q[i]? = some x):aC (mul:=mul) (e:=e) u q i x 0:=⟨B.nd,B.hd,h,B.clo,by simp,B.ind⟩
theorem aC.had {u q:List G} {i k:Nat} {x b:G} (B:aC (mul:=mul) (e:=e) u q i x k) (hb:u[k]? = some b) (h:mul b x∈q):aC (mul:=mul) (e:=e) u q i x (k+1) :=
 ⟨B.nd,B.hd,B.at',B.clo,fun c hc=>by
  rw [Zan,hb] at hc;rcases List.mem_append.1 hc with q | q
  ·exact B.clk c q
  ·simp at q;rw [q];exact h,B.ind⟩
theorem aC.new {u q:List G} {i k:Nat} {x b:G} (B:aC (mul:=mul) (e:=e) u q i x k) (hb:u[k]? = some b) (h:mul b x∉q):aC (mul:=mul) (e:=e) u (q++[mul b x]) i x (k+1):=by
 have hget:∀ {j:Nat} {y:G},q[j]? = some y->(q++[mul b x])[j]? = some y:=fun {j y} hj=>by
  rw [List.getElem?_append_left (List.getElem?_eq_some_iff.1 hj).1];exact hj
 have hback:∀ {j:Nat} {y:G},j<i->(q++[mul b x])[j]? = some y->q[j]? = some y:=fun {j y} hj hy=>by
  have:=(List.getElem?_eq_some_iff.1 B.at').1;rw [List.getElem?_append_left (by omega)] at hy;exact hy
 refine ⟨?_,hget B.hd,hget B.at',fun j y hj hy c hc=>Zbv _ (B.clo j y hj (hback hj hy) c hc),fun c hc => ?_,fun T h1 h2 y hy => ?_⟩
 ·rw [Zax];refine ⟨B.nd,by simp,?_⟩;rintro a ha c hc rfl;rw [List.mem_singleton.1 hc] at ha;exact h ha
 ·rw [Zan,hb] at hc;rcases List.mem_append.1 hc with r | r
  ·exact Zbv _ (B.clk c r)
  ·simp at r;rw [r];simp
 ·rcases List.mem_append.1 hy with r | r
  ·exact B.ind T h1 h2 y r
  ·rw [List.mem_singleton.1 r];exact h2 x (B.ind T h1 h2 x (Zaa B.at')) b (Zaa hb)
theorem aC.next {u q:List G} {i:Nat} {x:G} (B:aC (mul:=mul) (e:=e) u q i x u.length):Bfs (mul:=mul) (e:=e) u q (i+1) :=
 ⟨B.nd,B.hd,fun j y hj hy b hb=>by
  by_cases c:j<i
  ·exact B.clo j y c hy b hb
  ·obtain rfl:j=i:=by omega
   rw [B.at'] at hy;rw [<- Option.some.inj hy];exact B.clk b (by rw [List.take_length];exact hb),B.ind⟩
theorem aC.many {u q l:List G} {i k:Nat} {x b:G} (L:zaf mul e D) (B:aC (mul:=mul) (e:=e) u q i x k) (hb:u[k]? = some b) (h:mul b x∉q) (hq:q.length=l.length) (hd:∀ a∈l,D a) (hn:l.Nodup) (h0:l≠[]) (hu:∀ b∈u,b∈l):¬ xZ mul l:=by
 intro hc;have h1:=pT L hd hn h0 hc;have B':=B.new hb h;have:=lenG B'.nd (B'.ind (· ∈ l) h1 fun y hy c hc'=>hc c (hu c hc') y hy);rw [Zas,List.length_singleton] at this;omega
theorem zmk {u g l:List G} (L:zaf mul e D) (C:Clo mul e u g) (hg:g.Nodup) (hd:∀ a∈l,D a) (hn:l.Nodup) (h0:l≠[]) (hu:∀ b∈u,b∈l) (hl:∀ a∈l,a∈g):g.length=l.length↔xZ mul l:=by
 have hud:∀ b∈u,D b:=fun b hb=>hd b (hu b hb);constructor
 ·intro h a ha b hb;have hgl:=allG hn hl (by omega);exact hgl _ (C.prod L hud a (hl a ha) b (hl b hb))
 ·intro hc;have h1:=pT L hd hn h0 hc;have:=lenG hg (C.sub h1 hc hu);have:=lenG hn hl;omega
end
end Go.Ev
namespace Go.Ev
open Go Go.Proofs
variable {B:Nat}
theorem zml (l:List Sym):fK (rH l)=true:=vQ fun v hv=>by
 obtain ⟨x,_,hx⟩:=List.mem_flatMap.1 hv;simp only [Zad,Zcb,or_false] at hx;rcases hx with rfl | rfl
 ·exact u7 _
 ·rfl
theorem zp7 {l:List Sym}:Pure Tryz.prog B 86 [rH l] (· = .fn 144 (.of 144) [.fp [rH l]]):=by
 refine yF fun h nx K H0 hK=>zL zP yj 10000000 fun hf => ?_;rw [F86.go];refine H0.box (l:=[rH l]) rfl fun bx h1 nx1 H1 => ?_;obtain ⟨op,t,g1,g2⟩:yu h1 bx [rH l]:=H1.own _ (Zai ..);have hfx:fK (rH l)=true:=zml l;refine hK _ _ _ _ (.fn 144 (.of 144) [.fp [rH l]]) H1 (.fn _ _ _ _ rfl fun i v v' h2 h3 => ?_) rfl
 match i with
 | 0 =>
  simp only [List.getElem?_cons_zero,Option.some.injEq] at h2 h3;subst h2 h3;refine .ptr _ _ op _ t _ (H1.off bx (by simp [Ob.names])) g1 (by simp) (by simp [jf]) fun i v hv => ?_
  match i with
  | 0 =>
   simp only [List.getElem?_cons_zero,Option.some.injEq] at hv;subst hv;have:=zV t 0 1 0 (by omega);have g2:zX t 0 1=[rH l]:=g2;rw [g2] at this;simp only [List.getElem?_cons_zero,Option.some.injEq] at this;rw [<- this];exact zH hfx
  | i+1=>simp at hv
 | i+1=>simp at h2
theorem zkp {h0 h:T Blk} {nx p id:Pa} {l:List Sym} {L:List Ob} {K:Kw Prop} (J:Nat->List Ob->Prop) (X:List Ob->Prop) (hl:l.length<=1000000) (hJ:J 0 L) (H:Hp h0 h nx L)
  (step:∀ (i:Nat) (a:Sym) (h:T Blk) (nx:Pa) (L:List Ob) (K:Kw Prop),l[i]? = some a->J i L->Hp h0 h nx L->(∀ h' nx' L',J (i+1) L'->Hp h0 h' nx' L'->K (.bool true) h' nx'=.ok True)->(∀ h' nx' L',X L'->Hp h0 h' nx' L'->K (.bool false) h' nx'=.ok True)->(CS Tryz.prog B).yld id [I i,encS a] h nx K=.ok True)
  (hK:∀ h' nx' L',(J l.length L'\/X L')->Hp h0 h' nx' L'->K (.tup []) h' nx'=.ok True):(CS Tryz.prog B).fn 144 p [.yld id,.fp [rH l]] h nx K=.ok True:=by
 refine yQ (p:=.of 144) (K:=K) (zL zP yj 10000000 fun hf => ?_) fun _ _ _ _ q=>q;rw [wz.go,zc4,zE];refine wz.L1 (fun m z6 h' nx'=>∃ (i:Nat) (L':List Ob),z6=I i/\l.length-i=m/\i<=l.length/\J i L'/\Hp h0 h' nx' L') (m:=l.length) (by omega) ⟨0,L,rfl,rfl,by omega,hJ,H⟩ ?_;rintro m z2 z3 z6 z7 z8 h1 nx1 R ⟨i,L1,rfl,rfl,hi,hJ1,H1⟩ hR;simp only [jm];by_cases hlt:i<l.length
 ·simp only [show (i:Int)<(l.length:Int) by omega,decide_true,zC];have hx:l[i]? = some l[i]:=List.getElem?_eq_getElem hlt;rw [dw rfl hlt,xS hlt,qD];refine H1.alloc fun ab h5 nx5 H5 => ?_;refine H5.qy (k:=0) (n:=2) rfl rfl rfl fun h6 H6 => ?_;rw [H6.zi (k:=0) (n:=2) rfl rfl,zc5];refine step i _ _ _ _ _ hx hJ1 H6.drop (fun h7 nx7 L7 hJ7 H7 => ?_) (fun h7 nx7 L7 hX H7 => ?_)
  ·simp only [yK,Zae,zD];rw [jd (by omega)];exact hR _ _ _ _ _ _ _ _ (by omega) ⟨i+1,L7,rfl,rfl,by omega,hJ7,H7⟩
  ·simp only [yK,Zag,zC];exact hK _ _ _ (.inr hX) H7
 ·simp only [show ¬ (i:Int)<(l.length:Int) by omega,decide_false,zD];obtain rfl:i=l.length:=by omega
  exact hK _ _ _ (.inl hJ1) H1
theorem zwl {h0 h:T Blk} {nx:Pa} {L:List Ob} {k j n:Nat} {o:Option Pa} {u:List Sym} {c:Sym} (H:Hp h0 h nx L) (hk:L[k]? = some (.gro o 2 n (jC u))) (hj:u[j]? = some c):∃ id off,(∀ op:AV->OP,zO 2 (qp o 2 n) (I (j:Int)) op=op (.ptr id off))/\∀ op:AV->OP,zK 2 (.ptr id off) h op=op (encS c):=by
 have own:=H.own _ (Zaa hk);have hjl:=(List.getElem?_eq_some_iff.1 hj).1;have hlen:=qL u;cases o with
 | none =>
  obtain ⟨q,_⟩:=own;rw [q] at hlen;simp at hlen;omega
 | some id =>
  obtain ⟨t,h1,h2,h3⟩:=own;have hn:n=u.length:=by omega
  subst hn;refine ⟨id,j*2,fun op=>by rw [qp,dF hjl,Zaz],fun op => ?_⟩;show jk (T.get .no id h) _ _=_;rw [h1];show (bif Nat.ble (j*2+2) (u.length*2) then op (.agg (zX t (j*2) 2)) else .no 8)=_;rw [Zac (by omega),cond_true];have e:∀ i,i<u.length*2->T.get .undef (.of i) t=(jC u).getD i .undef:=fun i hi=>by
   have:=zV t 0 (u.length*2) i hi;rw [h3,Zaz] at this;rw [Zab,this];rfl
  have d:∀ i,(jC u).getD (j*2+i) .undef=((jC u).drop (j*2)).getD i .undef:=fun i=>by
   rw [Zab,Zab,List.getElem?_drop]
  have e2:zX t (j*2) 2=[T.get .undef (.of (j*2)) t,T.get .undef (.of (j*2+1)) t]:=rfl;have d0:=d 0;rw [Nat.add_zero] at d0;obtain rfl:u[j]=c:=by rw [List.getElem?_eq_getElem hjl] at hj;exact Option.some.inj hj
  rw [e2,e _ (by omega),e _ (by omega),d 1,d0,xS hjl]
  rfl
theorem DS.comp {n:Nat} {a b:Sym} (ha:DS n a) (hb:DS n b):DS n (jK a b):=by
 refine ⟨by rw [jK,u9];exact hb.1,fun x hx => ?_⟩;obtain ⟨c,hc,rfl⟩:=List.mem_map.1 hx;have h1:=hb.2 c hc;have h2:=ha.1;rw [Zab,List.getElem?_eq_getElem (by omega)];exact ha.2 _ (Zao _)
theorem DS.id (n:Nat):DS n (idS n):=by
 refine ⟨by simp [idS],fun x hx => ?_⟩;obtain ⟨j,hj,rfl⟩:=List.mem_map.1 hx;have:=List.mem_range.1 hj;omega
abbrev CloS (n:Nat) (u g:List Sym):Prop:=Clo jK (idS n) u g
abbrev BfsS (n:Nat) (u q:List Sym) (i:Nat):Prop:=Bfs (mul:=jK) (e:=idS n) u q i
abbrev cC (n:Nat) (u q:List Sym) (i:Nat) (x:Sym) (k:Nat):Prop:=aC (mul:=jK) (e:=idS n) u q i x k
def zkq (n limit:Nat) (l:List Sym):Prop:=∃ u q i x k b,(∀ c∈u,c∈l)/\cC n u q i x k/\u[k]? = some b/\jK b x∉q/\q.length=limit
theorem BfsS.ds {n:Nat} {u q:List Sym} (hu:∀ b∈u,DS n b) (h:∀ T:Sym->Prop,T (idS n)->(∀ x,T x->∀ b∈u,T (jK b x))->∀ x∈q,T x):∀ x∈q,DS n x :=
 h (DS n) (DS.id n) fun _ hx b hb=>DS.comp (hu b hb) hx
noncomputable abbrev zo.tm (n limit:Nat) (l:List Sym) (b3 b4 b5 b6 b7 b8 b9:Pa):T AV:=zo.fr (rH l) (I n) (I limit) (.ptr b3 0) (.ptr b4 0) (.ptr b5 0) (.ptr b6 0) (.ptr b7 0) (.ptr b8 0) (.ptr b9 0) .undef .undef .undef .undef (.fn 144 (.of 144) [.fp [rH l]]) .undef .undef .undef .undef .undef .undef .undef .undef .undef .undef
theorem zo.prods {N:Nat} {K0:Kw Prop} {E1 E2 E3 K:Ks Prop} {h0 h:T Blk} {nx id b3 b4 b5 b6 b8 g1:Pa} {x0 x1 x2 x7 x9 x10 x12 x13 x14 x15 x16 x17 x18 x22 x23 x24 v:AV} {o:Option Pa} {ob:Ob} {X:List Ob} {n limit i:Nat} {u q:List Sym} {x:Sym}
  (hN:100000<N) (hn:n<=256) (hlim:limit<=2000) (hu:∀ b∈u,DS n b) (hul:u.length<=2000)
  (k3:X[11]? = some (.arr b3 [I limit])) (k4:X[10]? = some (.arr b4 [.xk])) (k5:X[9]? = some (.arr b5 [.zh])) (k6:X[8]? = some (.arr b6 [.bool false])) (k8:X[4]? = some (.arr b8 [.map g1])) (kg:X[6]? = some (.gro o 2 u.length (jC u)))
  (hB:cC n u q i x 0) (hql:q.length<=limit) (hv:QV v ob (q.drop i)) (H:Hp h0 h nx (ob::.map g1 (fG q)::X))
  (hbad:∀ k b q' h' nx' O1 O2,cC n u q' i x k->u[k]? = some b->jK b x∉q'->q'.length=limit->Hp h0 h' nx' (O1::O2::X)->yT id K0 .ret false .e h' nx'=.ok True)
  (hK:∀ q' v' ob' w12 w13 w22 w23 w24 h' nx',cC n u q' i x u.length->q'.length<=limit->QV v' ob' (q'.drop i)->Hp h0 h' nx' (ob'::.map g1 (fG q')::X) ->
   K (zo.fr x0 x1 x2 (.ptr b3 0) (.ptr b4 0) (.ptr b5 0) (.ptr b6 0) x7 (.ptr b8 0) x9 x10 v' w12 w13 x14 x15 x16 x17 x18 (qp o 2 u.length) (I u.length) (I u.length) w22 w23 w24) h' nx'=.ok True) :
  IR.run zo.b13 (CS Tryz.prog B) N ((((rO id K0).blk 1 E1).blk 2 E2).blk 3 E3) K (zo.fr x0 x1 x2 (.ptr b3 0) (.ptr b4 0) (.ptr b5 0) (.ptr b6 0) x7 (.ptr b8 0) x9 x10 v x12 x13 x14 x15 x16 x17 x18 (qp o 2 u.length) (I u.length) (I 0) x22 x23 x24) h nx=.ok True:=by
 refine zo.L13 (fun m x11 x21 h' nx'=>∃ (k:Nat) (q:List Sym) (ob:Ob),x21=I k/\u.length-k=m/\k<=u.length/\cC n u q i x k/\q.length<=limit/\QV x11 ob (q.drop i)/\Hp h0 h' nx' (ob::.map g1 (fG q)::X)) (m:=u.length) (by omega) ⟨0,q,ob,rfl,rfl,by omega,hB,hql,hv,H⟩ ?_
 clear hB hql hv H v ob q
 rintro m v z12 z13 z21 z22 z23 z24 h1 nx1 R ⟨k,q,ob,rfl,rfl,hk,hB,hql,hv,H1⟩ hR;simp only [jm];by_cases hlt:k<u.length
 case neg =>
  simp only [show ¬ (k:Int)<(u.length:Int) by omega,decide_false,zD];obtain rfl:k=u.length:=by omega
  exact hK _ _ _ _ _ _ _ _ _ _ hB hql hv H1
 simp only [show (k:Int)<(u.length:Int) by omega,decide_true,zC];have hb:u[k]? = some u[k]:=List.getElem?_eq_getElem hlt;have hqd:∀ y∈q,DS n y:=BfsS.ds hu hB.ind;have hdb:=hu _ (Zao hlt);have hil:=(List.getElem?_eq_some_iff.1 hB.at').1;have hxq:q[i]=x:=by have:=hB.at';rw [List.getElem?_eq_getElem hil] at this;exact Option.some.inj this
 have hdx:DS n x:=hqd x (hxq ▸ Zao hil);have hdr:q.drop i=x::q.drop (i+1):=by rw [Zap hil,hxq]
 have hdc:=DS.comp hdb hdx;obtain ⟨iu,ou,e1,e2⟩:=zwl (k:=8) H1 kg hb;rw [e1,e2];refine H1.alloc fun c12 h2 nx2 H2 => ?_;refine H2.qy (k:=0) (n:=2) rfl rfl rfl fun h3 H3 => ?_;rw [show (true&&true)=true from rfl,yV,H3.zi (k:=0) (n:=2) rfl rfl];rw [hdr] at hv;obtain ⟨iq,oq,f1,f2⟩:=hv.first
 rw [f1,f2 H3 (k:=1) rfl];have hdb2:=hdb.1;have hdx2:=hdx.1;refine zp2 (fun y hy=>by have:=hdx.2 y hy;omega) (by omega) _ _ _ _ ?_;rintro _ rfl _;rw [f2 H3 (k:=1) rfl,zA,f1,zA,zA,H3.zi (k:=0) (n:=2) rfl rfl,zA];refine H3.alloc fun c13 h4 nx4 H4 => ?_;rw [f2 H4 (k:=2) rfl,zA,f1,zA,zA,H4.zi (k:=1) (n:=2) rfl rfl,zA];refine H4.qy (k:=0) (n:=2) rfl rfl rfl fun h5 H5 => ?_;rw [H5.load (k:=8) (i:=0) k8 rfl,H5.zi (k:=0) (n:=2) rfl rfl];refine zp6 hn hdc hqd H5 (k:=3) rfl ?_;by_cases c:jK u[k] x∈q
 ·simp only [c,decide_true,zC];rw [jd (by omega)];exact hR _ _ _ _ _ _ _ _ _ _ (by omega) ⟨k+1,q,ob,rfl,rfl,by omega,hB.had hb c,hql,hdr ▸ hv,H5.drop.drop⟩
 simp only [c,decide_false,zD];rw [H5.load (k:=8) (i:=0) k8 rfl,H5.zui (k:=3) rfl,H5.load (k:=15) (i:=0) k3 rfl];simp only [dh];by_cases c2:q.length=limit
 ·simp only [show (q.length:Int)=(limit:Int) by omega,decide_true,zC];refine H5.store (k:=14) k4 (by simp) rfl fun h6 H6 => ?_;refine H6.store (k:=13) (l:=[.zh]) (by rw [List.getElem?_set_ne (by decide)];exact k5) (by simp) rfl fun h7 H7 => ?_;refine H7.store (k:=12) (l:=[.bool false]) (by rw [List.getElem?_set_ne (by decide),List.getElem?_set_ne (by decide)];exact k6) (by simp) rfl fun h8 H8 => ?_;have ew:∀ {j:Nat} {y:Ob} (hj:X[j]? = some y),X.set j y=X:=fun {j y} hj=>by
   refine Zba fun p => ?_;rw [List.getElem?_set];by_cases e:j=p
   ·subst e;rw [if_pos rfl,if_pos (List.getElem?_eq_some_iff.1 hj).1,hj]
   ·rw [if_neg e]
  refine hbad k _ q _ _ ob (.map g1 (fG q)) hB hb c c2 (H8.drop.drop.cast ?_);show ob::.map g1 (fG q)::((X.set 10 (.arr b4 ([AV.xk].set 0 .xk))).set 9 (.arr b5 ([AV.zh].set 0 .zh))).set 8 (.arr b6 ([AV.bool false].set 0 (.bool false)))=_;rw [show [AV.xk].set 0 .xk=[.xk] from rfl,show [AV.zh].set 0 .zh=[.zh] from rfl,show [AV.bool false].set 0 (.bool false)=[.bool false] from rfl,ew k4,ew k5,ew k6]
 simp only [show ¬ (q.length:Int)=(limit:Int) by omega,decide_false,zD];rw [H5.load (k:=8) (i:=0) k8 rfl,H5.zi (k:=0) (n:=2) rfl rfl,H5.zi (k:=0) (n:=2) rfl rfl];have hdc2:=hdc.1;refine zeo (fun y hy=>by have:=hdc.2 y hy;omega) (by omega) _ _ _ _ ?_;rintro _ rfl _;rw [H5.zi (k:=0) (n:=2) rfl rfl,zA,H5.load (k:=8) (i:=0) k8 rfl,zA];refine H5.putS hn hdc hqd c (k:=3) rfl fun h6 H6 => ?_;rw [H6.zi (k:=0) (n:=2) rfl rfl];refine H6.zu (l:=[encI (jK u[k] x).1,.bool (jK u[k] x).2]) rfl fun tb h7 nx7 H7 => ?_;refine hv.app (c:=jK u[k] x) (by simp) H7 (k:=3) rfl (yu.rd (l:=[encI (jK u[k] x).1,.bool (jK u[k] x).2]) (n:=1) (e:=2) (H7.own _ (Zai ..)) rfl) ?_ fun v' ob' h8 nx8 hv' H8 => ?_
 ·rw [<- hdr,Zcg];omega
 rw [jd (by omega)];refine hR _ _ _ _ _ _ _ _ _ _ (by omega) ⟨k+1,q++[jK u[k] x],ob',rfl,rfl,by omega,hB.new hb c,by rw [Zas,List.length_singleton];omega,?_,H8.drop.drop.drop⟩;rw [List.drop_append_of_le_length (by omega),hdr];exact hv'
theorem comp_id {n:Nat} {b:Sym} (hb:DS n b):jK b (idS n)=b:=by
 have h1:=hb.1;refine Prod.ext ?_ (by show (b.2 != false)=b.2;cases b.2 <;> rfl);show vX b.1 ((List.range n).map fun j:Nat=>(j:Int))=b.1;refine Zba fun i => ?_;rw [vX,Zcl,List.getElem?_map];by_cases hi:i<n
 ·rw [List.getElem?_range hi,List.getElem?_eq_getElem (by omega)];show some (b.1.getD ((i:Nat):Int).toNat 0)=_;rw [Zab,Int.toNat_natCast,List.getElem?_eq_getElem (by omega)];rfl
 ·rw [List.getElem?_eq_none (by simp;omega),List.getElem?_eq_none (by omega)];rfl
theorem zo.bfs {N:Nat} {K0:Kw Prop} {E1 K:Ks Prop} {h0 h:T Blk} {nx id b3 b4 b5 b6 b8 b9 g1:Pa} {x0 x1 x2 x7 x10 x12 x13 x14 x15 x16 x17 x18 x19 x20 x21 x22 x23 x24 v:AV} {o:Option Pa} {ob:Ob} {X:List Ob} {n limit:Nat} {u q:List Sym}
  (hN:100000<N) (hn:n<=256) (hlim:limit<=2000) (hu:∀ b∈u,DS n b) (hul:u.length<=2000)
  (k3:X[11]? = some (.arr b3 [I limit])) (k4:X[10]? = some (.arr b4 [.xk])) (k5:X[9]? = some (.arr b5 [.zh])) (k6:X[8]? = some (.arr b6 [.bool false])) (k8:X[4]? = some (.arr b8 [.map g1])) (kg:X[6]? = some (.gro o 2 u.length (jC u))) (k9:X[3]? = some (.arr b9 [qp o 2 u.length]))
  (hB:BfsS n u q 0) (hql:q.length<=limit) (hv:QV v ob q) (H:Hp h0 h nx (ob::.map g1 (fG q)::X))
  (hbad:∀ i x k b q' h' nx' O1 O2,cC n u q' i x k->u[k]? = some b->jK b x∉q'->q'.length=limit->Hp h0 h' nx' (O1::O2::X)->yT id K0 .ret false .e h' nx'=.ok True)
  (hK:∀ q' ob' tm h' nx',CloS n u q'->q'.Nodup->q'.length<=limit->Hp h0 h' nx' (ob'::.map g1 (fG q')::X)->K tm h' nx'=.ok True) :
  IR.run zo.b7 (CS Tryz.prog B) N ((rO id K0).blk 1 E1) K (zo.fr x0 x1 x2 (.ptr b3 0) (.ptr b4 0) (.ptr b5 0) (.ptr b6 0) x7 (.ptr b8 0) (.ptr b9 0) x10 v x12 x13 x14 x15 x16 x17 x18 x19 x20 x21 x22 x23 x24) h nx=.ok True:=by
 refine zo.L7 (fun m x11 h' nx'=>∃ (i:Nat) (q:List Sym) (ob:Ob),limit-i=m/\i<=q.length/\BfsS n u q i/\q.length<=limit/\QV x11 ob (q.drop i)/\Hp h0 h' nx' (ob::.map g1 (fG q)::X)) (m:=limit) (by omega) ⟨0,q,ob,rfl,by omega,hB,hql,hv,H⟩ ?_
 clear hB hql hv H v ob q
 rintro m v z12 z13 z18 z19 z20 z21 z22 z23 z24 h1 nx1 R ⟨i,q,ob,rfl,hi,hB,hql,hv,H1⟩ hR;rw [hv.len];simp only [vk];by_cases hlt:i<q.length
 case neg =>
  rw [Zcg];simp only [show ¬ (0:Int)<((q.length-i:Nat):Int) by omega,decide_false,zD];obtain rfl:i=q.length:=by omega
  exact hK _ _ _ _ _ hB.done hB.nd hql H1
 rw [Zcg];simp only [show (0:Int)<((q.length-i:Nat):Int) by omega,decide_true,zC];rw [H1.load (k:=5) (i:=0) k9 rfl,H1.zef (k:=8) kg];refine zo.prods (x:=q[i]) hN hn hlim hu hul k3 k4 k5 k6 k8 kg (hB.at (List.getElem?_eq_getElem hlt)) hql hv H1 (fun k b q' h' nx' O1 O2 a1 a2 a3 a4 a5=>hbad i _ k b q' h' nx' O1 O2 a1 a2 a3 a4 a5) fun q' v' ob' w12 w13 w22 w23 w24 h2 nx2 hB2 hql2 hv2 H2 => ?_;have hil:=(List.getElem?_eq_some_iff.1 hB2.at').1;rw [Zap hil] at hv2;obtain ⟨v3,e3,hv3⟩:=hv2.rest;rw [zo.k22,e3];exact hR _ _ _ _ _ _ _ _ _ _ _ _ _ (by omega) ⟨i+1,q',ob',rfl,by omega,hB2.next,hql2,hv3,H2⟩
def zo.J (n limit:Nat) (l:List Sym) (id b3 b4 b5 b6 b7 b8 b9:Pa) (L:List Ob) (i:Nat) (L':List Ob):Prop :=
 ∃ (u q:List Sym) (o:Option Pa) (g:Pa),(∀ c∈u,c∈l)/\u.length<=i/\(∀ a∈l.take i,a∈q)/\q.Nodup/\CloS n u q/\q.length<=limit /\
  L'=.raw id (.loop .ready .none (zo.tm n limit l b3 b4 b5 b6 b7 b8 b9) [.of 15,.of 16] zo.b3 zo.b4)::.arr b9 [qp o 2 u.length]::.arr b8 [.map g]::.map g (fG q)::.gro o 2 u.length (jC u)::.arr b7 [encI (idS n).1,.bool (idS n).2]::.arr b6 [.bool false]::.arr b5 [.zh]::.arr b4 [.xk]::.arr b3 [I limit]::L
def zo.X (n limit:Nat) (l:List Sym) (id b3 b4 b5 b6 b7 b8 b9:Pa) (L:List Ob) (L':List Ob):Prop :=
 zkq n limit l/\∃ O1 O2 O3 O4 O5 O6 O7 O8 O9,L'=O1::O2::O3::O4::.raw id (.loop .done .ret (zo.tm n limit l b3 b4 b5 b6 b7 b8 b9) [.of 15,.of 16] zo.b3 zo.b4)::O5::O6::O7::O8::O9::.arr b6 [.bool false]::.arr b5 [.zh]::.arr b4 [.xk]::.arr b3 [I limit]::L
theorem Hp.tidy {h0 h:T Blk} {nx:Pa} {A M T' B' R B9 B8 G:Ob} {L:List Ob} (H:Hp h0 h nx (A::M::T'::B'::R::B9::B8::G::L)):Hp h0 h nx (R::B9::B8::M::L):=by
 have e1:(M::T'::B'::R::B9::B8::G::L).Perm (T'::B'::R::B9::B8::M::G::L):=(Zca (l₁:=[T',B',R,B9,B8]) (a:=M) (l₂:=G::L)).symm;have H1:=H.drop.perm e1;have e2:(R::B9::B8::M::G::L).Perm (G::R::B9::B8::M::L):=Zca (l₁:=[R,B9,B8,M]) (a:=G) (l₂:=L);exact (H1.drop.drop.perm e2).drop
theorem Hp.zzf {h0 h:T Blk} {nx:Pa} {A1 A2 M G B1 B2 B3 B4 B5:Ob} {L:List Ob} (H:Hp h0 h nx (A1::A2::M::G::B1::B2::B3::B4::B5::L)):Hp h0 h nx (M::G::L):=by
 have e1:(M::G::B1::B2::B3::B4::B5::L).Perm (M::B1::B2::B3::B4::B5::G::L):=.cons _ (Zca (l₁:=[B1,B2,B3,B4,B5]) (a:=G) (l₂:=L)).symm;have e2:(M::B1::B2::B3::B4::B5::G::L).Perm (B1::B2::B3::B4::B5::M::G::L):=(Zca (l₁:=[B1,B2,B3,B4,B5]) (a:=M) (l₂:=G::L)).symm;exact (H.drop.drop.perm (e1.trans e2)).drop.drop.drop.drop.drop
theorem zo.round {h0 h:T Blk} {nx id b3 b4 b5 b6 b7 b8 b9:Pa} {K:Kw Prop} {L L':List Ob} {n limit i:Nat} {l:List Sym} {a:Sym} (hn:n<=256) (hl1:1<=limit) (hlim:limit<=2000) (hl:∀ a∈l,DS n a) (hll:l.length<=2000) (hx:l[i]? = some a)
  (hJ:zo.J n limit l id b3 b4 b5 b6 b7 b8 b9 L i L') (H:Hp h0 h nx L')
  (hj:∀ h' nx' L',zo.J n limit l id b3 b4 b5 b6 b7 b8 b9 L (i+1) L'->Hp h0 h' nx' L'->K (.bool true) h' nx'=.ok True)
  (hs:∀ h' nx' L',zo.X n limit l id b3 b4 b5 b6 b7 b8 b9 L L'->Hp h0 h' nx' L'->K (.bool false) h' nx'=.ok True):(CS Tryz.prog B).yld id [I i,encS a] h nx K=.ok True:=by
 obtain ⟨u,q,o,g,hu,hul,hin,hnd,hC,hql,rfl⟩:=hJ;have hi:=(List.getElem?_eq_some_iff.1 hx).1;have ham:=Zaa hx;have hda:=hl a ham;have hqd:∀ y∈q,DS n y:=BfsS.ds (fun b hb=>hl b (hu b hb)) hC.ind;have htk:∀ c∈l.take (i+1),c∈l.take i\/c=a:=fun c hc=>by
  rw [Zan,hx] at hc;rcases List.mem_append.1 hc with r | r
  ·exact .inl r
  ·exact .inr (by simpa using r)
 refine vY (fns:=tbl) yj 10000000 fun hf => ?_;rw [zo.p4 (xR H (k:=0) rfl)];refine H.alloc fun b10 h1 nx1 H1 => ?_;refine H1.qy (k:=0) (n:=2) rfl rfl rfl fun h2 H2 => ?_;rw [zkb (xR H2 (k:=1) rfl)];have H3:=H2.zby (k:=1) rfl (b':=.loop .busy .none (zo.tm n limit l b3 b4 b5 b6 b7 b8 b9) [.of 15,.of 16] zo.b3 zo.b4) (by intro e;cases e);rw [zo.y4,H3.load (k:=3) (i:=0) rfl rfl,H3.zi (k:=0) (n:=2) rfl rfl];refine zp6 hn hda hqd H3 (k:=4) rfl ?_;by_cases c:a∈q
 ·simp only [c,decide_true,zC];refine H3.rend (k:=1) rfl fun h4 H4 => ?_;exact hj _ _ _ ⟨u,q,o,g,hu,by omega,fun d hd=>(htk d hd).elim (hin d) (fun e=>e ▸ c),hnd,hC,hql,rfl⟩ H4.drop
 simp only [c,decide_false,zD];rw [H3.load (k:=2) (i:=0) rfl rfl,H3.zi (k:=0) (n:=2) rfl rfl];refine H3.zu (l:=[encI a.1,.bool a.2]) rfl fun tb h4 nx4 H4 => ?_;rw [zae];refine H4.oN (k:=6) (o:=o) (c:=1) (esz:=2) (new:=[encI a.1,.bool a.2]) rfl (yu.rd (l:=[encI a.1,.bool a.2]) (n:=1) (e:=2) (H4.own _ (Zai ..)) rfl) rfl rfl (by decide) (by decide) (by omega) fun o' h5 nx5 _ H5 => ?_;refine H5.store (k:=3) rfl (by simp) (gN _ _ _) fun h6 H6 => ?_;rw [show (true&&true)=true from rfl,yV,H6.zi (k:=7) (n:=2) rfl rfl,H6.zi (k:=7) (n:=2) rfl rfl];have hid:=DS.id n;have hid1:=hid.1;refine zeo (a:=idS n) (fun y hy=>by have:=hid.2 y hy;omega) (by omega) _ _ _ _ ?_;rintro _ rfl _;rw [H6.zi (k:=7) (n:=2) rfl rfl,zA,H6.zi (k:=7) (n:=2) rfl rfl,zA];refine H6.sU fun g1 h7 nx7 H7 => ?_;rw [H7.zi (k:=8) (n:=2) rfl rfl,zA,H7.zi (k:=8) (n:=2) rfl rfl,zA];refine H7.putS hn hid (ks:=[]) (by simp) (by simp) (k:=0) rfl fun h8 H8 => ?_;refine H8.store (k:=5) rfl (by simp) rfl fun h9 H9 => ?_;rw [H9.zi (k:=8) (n:=2) rfl rfl];refine H9.zu (l:=[encI (idS n).1,.bool (idS n).2]) rfl fun qb h10 nx10 H10 => ?_;have eu:u.length+1=(u++[a]).length:=by simp
 have ef:jC u++[encI a.1,.bool a.2]=jC (u++[a]):=by simp [jC]
 have hu':∀ b∈u++[a],b∈l:=fun b hb=>by
  rcases List.mem_append.1 hb with r | r
  ·exact hu b r
  ·rw [List.mem_singleton.1 r];exact ham
 rw [eu,ef] at H10;refine zo.bfs (o:=o') (ob:=.arr qb [encI (idS n).1,.bool (idS n).2]) (u:=u++[a]) (q:=[idS n]) (limit:=limit) (by decide) hn hlim (fun b hb=>hl b (hu' b hb)) (by simp;omega) rfl rfl rfl rfl rfl rfl rfl (Bfs.start _) (by simpa using hl1) (.cap qb 0 _ [idS n] (by simp) rfl) H10 (fun j x k b q' h' nx' O1 O2 a1 a2 a3 a4 H' => ?_) fun q' ob' tm h' nx' hC' hnd' hql' H' => ?_
 ·refine H'.rend (k:=4) rfl fun h11 H11 => ?_;exact hs _ _ _ ⟨⟨u++[a],q',j,x,k,b,hu',a1,a2,a3,a4⟩,_,_,_,_,_,_,_,_,_,rfl⟩ H11
 ·refine H'.rend (k:=4) rfl fun h11 H11 => ?_;refine hj _ _ _ ⟨u++[a],q',o',g1,hu',by simp;omega,fun d hd => ?_,hnd',hC',hql',rfl⟩ (Hp.tidy H11);rcases htk d hd with r | rfl
  ·exact Clo.mono hC hC' (fun b hb=>Zbv _ hb) d (hin d r)
  ·have:=hC'.clo _ hC'.one d (by simp)
   rwa [comp_id hda] at this
theorem zi6 {h0 h:T Blk} {nx p:Pa} {K:Kw Prop} {L:List Ob} {n limit:Nat} {l:List Sym} (hn:n<=256) (hl1:1<=limit) (hlim:limit<=2000) (hl:∀ a∈l,DS n a) (hll:l.length<=2000) (H:Hp h0 h nx L)
  (hno:∀ h' nx',zkq n limit l->Hp h0 h' nx' L->K (.tup [.xk,.zh,.bool false]) h' nx'=.ok True)
  (hyes:∀ (u q:List Sym) g o h' nx',(∀ c∈u,c∈l)->(∀ a∈l,a∈q)->q.Nodup->CloS n u q->q.length<=limit->Hp h0 h' nx' (.map g (fG q)::.gro o 2 u.length (jC u)::L)->K (.tup [.map g,qp o 2 u.length,.bool true]) h' nx'=.ok True) :
  (CS Tryz.prog B).fn 200 p [rH l,I n,I limit] h nx K=.ok True:=by
 refine yQ (p:=.of 200) (K:=K) (zL zP yj 10000000 fun hf => ?_) fun _ _ _ _ q=>q;have hid:=DS.id n;have hid1:=hid.1;rw [zo.go];refine H.box (l:=[I limit]) rfl fun b3 h1 nx1 H1 => ?_;refine H1.alloc fun b4 h2 nx2 H2 => ?_;refine H2.alloc fun b5 h3 nx3 H3 => ?_;refine H3.alloc fun b6 h4 nx4 H4 => ?_;refine zgp (by omega) _ _ _ _ ?_;rintro _ rfl _;refine H4.alloc fun b7 h5 nx5 H5 => ?_;refine H5.qy (k:=0) (n:=2) rfl rfl rfl fun h6 H6 => ?_;rw [show (true&&(true&&true))=true from rfl,yV,H6.zi (k:=0) (n:=2) rfl rfl,H6.zi (k:=0) (n:=2) rfl rfl];refine zeo (a:=idS n) (fun y hy=>by have:=hid.2 y hy;omega) (by omega) _ _ _ _ ?_;rintro _ rfl _;rw [H6.zi (k:=0) (n:=2) rfl rfl,zA,H6.zi (k:=0) (n:=2) rfl rfl,zA];refine H6.sU fun g h7 nx7 H7 => ?_;rw [H7.zi (k:=1) (n:=2) rfl rfl,zA,H7.zi (k:=1) (n:=2) rfl rfl,zA];refine H7.putS hn hid (ks:=[]) (by simp) (by simp) (k:=0) rfl fun h8 H8 => ?_;rw [H8.zi (k:=1) (n:=2) rfl rfl,zA,H8.zi (k:=1) (n:=2) rfl rfl,zA];refine H8.alloc fun b8 h9 nx9 H9 => ?_;rw [zA,H9.zi (k:=2) (n:=2) rfl rfl,zA,H9.zi (k:=2) (n:=2) rfl rfl,zA];refine H9.store (k:=0) rfl (by simp) rfl fun h10 H10 => ?_;refine H10.alloc fun b9 h11 nx11 H11 => ?_;refine zp7 _ _ _ _ ?_;rintro _ rfl _;have H12:=H11.tN 2;have H13:Hp h0 h11 nx11 (.arr b9 [qp none 2 0]::.arr b8 [.map g]::.map g (fG [idS n])::.gro none 2 0 []::.arr b7 [encI (idS n).1,.bool (idS n).2]::.arr b6 [.bool false]::.arr b5 [.zh]::.arr b4 [.xk]::.arr b3 [I limit]::L):=by
  have e:=(Zca (l₁:=[.arr b9 [qp none 2 0],.arr b8 [.map g],.map g (fG [idS n])]) (a:=Ob.gro none 2 0 []) (l₂:=.arr b7 [encI (idS n).1,.bool (idS n).2]::.arr b6 [.bool false]::.arr b5 [.zh]::.arr b4 [.xk]::.arr b3 [I limit]::L)).symm;exact H12.perm e
 refine H13.rf (g:=144) (p:=.of 144) (cap:=[.fp [rH l]]) rfl fun id h14 nx14 H14 => ?_;refine zkp (zo.J n limit l id b3 b4 b5 b6 b7 b8 b9 L) (zo.X n limit l id b3 b4 b5 b6 b7 b8 b9 L) (by omega) ⟨[],[idS n],none,g,by simp,by simp,by simp,by simp,?_,by simpa using hl1,rfl⟩ H14 (fun i a h' nx' L' K' hx hJ H' hj hs=>zo.round hn hl1 hlim hl hll hx hJ H' hj hs) fun h' nx' L' hJX H' => ?_
 ·exact ⟨by simp,fun x _ b hb=>absurd hb (by simp),(Bfs.start (mul:=jK) (e:=idS n) []).ind⟩
 rcases hJX with ⟨u,q,o,g',hu,hul,hin,hnd,hC,hql,rfl⟩ | ⟨hT,O1,O2,O3,O4,O5,O6,O7,O8,O9,rfl⟩
 ·refine H'.rU fun h15 H15 => ?_;rw [vI,zo.k23,H15.load (k:=1) (i:=0) rfl rfl,H15.load (k:=0) (i:=0) rfl rfl];refine H15.store (k:=7) rfl (by simp) rfl fun h16 H16 => ?_;rw [H16.load (k:=0) (i:=0) rfl rfl,zA];refine H16.store (k:=6) rfl (by simp) (gN _ _ _) fun h17 H17 => ?_;refine H17.store (k:=5) rfl (by simp) rfl fun h18 H18 => ?_;rw [H18.load (k:=7) (i:=0) rfl rfl,H18.load (k:=6) (i:=0) rfl rfl,H18.load (k:=5) (i:=0) rfl rfl];rw [List.take_length] at hin;exact hyes u q g' o _ _ hu hin hnd hC hql (Hp.zzf H18)
 ·have Q:=H'.front (k:=4) rfl;refine Q.rU fun h15 H15 => ?_;show Ev.rU _ _ .done .ret _ h15 nx'=_;rw [bE];have e:∀ E0,(((fnO zo.res K).blk 0 E0).rt (zo.tm n limit l b3 b4 b5 b6 b7 b8 b9) h15 nx')=(zB (.ptr b4 0) h15 fun v1=>zB (.ptr b5 0) h15 fun v2=>zB (.ptr b6 0) h15 fun v3=>K (.tup [v1,v2,v3]) h15 nx'):=fun E0=>by kernel_rfl
  rw [e,H15.load (k:=11) (i:=0) rfl rfl,H15.load (k:=10) (i:=0) rfl rfl,H15.load (k:=9) (i:=0) rfl rfl];exact hno _ _ hT H15.drop.drop.drop.drop.drop.drop.drop.drop.drop.drop.drop.drop.drop
end Go.Ev
namespace Go.Ev
open Go Go.Proofs
def DP (n:Nat) (a:Sym):Prop:=DS n a/\a.1.Nodup
theorem DP.perm {n:Nat} {a:Sym} (h:DP n a):xK a.1:=⟨h.2,by rw [h.1.1];exact h.1.2⟩
theorem DP.of {n:Nat} {a:Sym} (h:xK a.1) (hl:a.1.length=n):DP n a:=⟨⟨hl,by have:=h.2;rw [hl] at this;exact this⟩,h.1⟩
theorem kN {n:Nat} {a b:Sym} (hb:DS n b) {i:Nat} (hi:i<n):(jK a b).1[i]? = some (a.1.getD (b.1.getD i 0).toNat 0):=by
 have h1:=hb.1;show (b.1.map fun c=>a.1.getD c.toNat 0)[i]? = _;rw [List.getElem?_map,Zab (l:=b.1),List.getElem?_eq_getElem (by omega)]
 rfl
theorem DS.get {n:Nat} {b:Sym} (hb:DS n b) {i:Nat} (hi:i<n):b.1[i]? = some (b.1.getD i 0)/\0<=b.1.getD i 0/\b.1.getD i 0<(n:Int):=by
 have h1:=hb.1;have e:b.1[i]? = some (b.1.getD i 0):=by rw [Zab,List.getElem?_eq_getElem (by omega)];rfl
 exact ⟨e,hb.2 _ (Zaa e)⟩
theorem DP.inj {n:Nat} {a:Sym} (ha:DP n a) {i j:Nat} (hi:i<n) (hj:j<n) (h:a.1.getD i 0=a.1.getD j 0):i=j:=by
 obtain ⟨e1,_⟩:=ha.1.get hi;obtain ⟨e2,_⟩:=ha.1.get hj;rw [h] at e1;obtain ⟨p1,q1⟩:=List.getElem?_eq_some_iff.1 e1;obtain ⟨p2,q2⟩:=List.getElem?_eq_some_iff.1 e2;exact (List.getElem_inj (h₀:=p1) (h₁:=p2) ha.2).1 (q1.trans q2.symm)
theorem bX {n:Nat} {p q:List Int} (hp:p.length=n) (hq:q.length=n) (h:∀ i,i<n->p[i]? = q[i]?):p=q:=by
 refine Zba fun i => ?_;by_cases hi:i<n
 ·exact h i hi
 ·rw [List.getElem?_eq_none (by omega),List.getElem?_eq_none (by omega)]
theorem zi7 (n:Nat):zaf jK (idS n) (DP n):={
 de:=⟨DS.id n,by
  show ((List.range n).map fun j:Nat=>(j:Int)).Nodup;rw [List.Nodup,Zbj];exact List.nodup_range.imp fun h q=>h (by omega)⟩
 dm a b ha hb:=⟨DS.comp ha.1 hb.1,by
  show (b.1.map fun c=>a.1.getD c.toNat 0).Nodup;rw [List.Nodup,Zbj];refine (List.Pairwise.and_mem.1 hb.2).imp ?_;rintro x y ⟨hx,hy,hxy⟩ q;have h1:=hb.1.2 x hx;have h2:=hb.1.2 y hy;have:=ha.inj (i:=x.toNat) (j:=y.toNat) (by omega) (by omega) q;exact hxy (by omega)⟩
 assoc a b c ha hb hc:=by
  refine Prod.ext ?_ (by show ((a.2 != b.2) != c.2)=(a.2 != (b.2 != c.2));cases a.2 <;> cases b.2 <;> cases c.2 <;> rfl);refine bX (n:=n) (by rw [jK,u9];exact hc.1.1) (by rw [jK,u9,jK,u9];exact hc.1.1) fun i hi => ?_;obtain ⟨e1,h1,h2⟩:=hc.1.get hi;have hk:(c.1.getD i 0).toNat<n:=by omega
  rw [kN hc.1 hi,kN (DS.comp hb.1 hc.1) hi];have q1:=kN (a:=a) hb.1 hk;have q2:=kN (a:=b) hc.1 hi;rw [Zab (l:=(jK a b).1),q1,Zab (l:=(jK b c).1),q2]
  rfl
 el a ha:=by
  refine Prod.ext ?_ (by show (false != a.2)=a.2;cases a.2 <;> rfl);refine bX (n:=n) (by rw [jK,u9];exact ha.1.1) ha.1.1 fun i hi => ?_;obtain ⟨e1,h1,h2⟩:=ha.1.get hi;rw [kN ha.1 hi,e1];show some (((List.range n).map fun j:Nat=>(j:Int)).getD (a.1.getD i 0).toNat 0)=_;rw [Zab (l:=List.map _ _),List.getElem?_map,List.getElem?_range (by omega)];show some (((a.1.getD i 0).toNat:Nat):Int)=_
  congr 1;omega
 er a ha:=comp_id ha.1
 cl a b c ha hb hc h:=by
  refine Prod.ext ?_ ?_
  ·refine bX (n:=n) hb.1.1 hc.1.1 fun i hi => ?_;obtain ⟨e1,h1,h2⟩:=hb.1.get hi;obtain ⟨e2,h3,h4⟩:=hc.1.get hi;have q:(jK a b).1[i]? = (jK a c).1[i]? := by rw [h]
   rw [kN hb.1 hi,kN hc.1 hi] at q;have:=ha.inj (by omega) (by omega) (Option.some.inj q);rw [e1,e2];congr 1;omega
  ·have q:(a.2 != b.2)=(a.2 != c.2):=congrArg Prod.snd h;cases h1:a.2 <;> cases h2:b.2 <;> cases h3:c.2 <;> rw [h1,h2,h3] at q <;> first | rfl | cases q }
theorem zep {G:List Sym}:clG G=true↔xZ jK G:=by
 rw [clG,Zak];constructor
 ·intro h a ha b hb;have:=h a ha;rw [Zak] at this;exact of_decide_eq_true (this b hb)
 ·intro h a ha;rw [Zak];exact fun b hb=>decide_eq_true (h a ha b hb)
theorem zgr {a b c:List Int} (h1:j7 a b=true) (h2:j7 b c=true):j7 a c=true:=by
 rw [bK,decide_eq_true_eq] at h1 h2 ⊢;exact wN h1 h2
theorem zi8 {a b c:Sym} (h1:befS a b=true) (h2:befS b c=true):befS a c=true:=by
 rw [befS] at h1 h2 ⊢;by_cases c1:a.1=b.1
 ·rw [if_pos c1] at h1;by_cases c2:b.1=c.1
  ·rw [if_pos c2] at h2;rw [if_pos (c1.trans c2)];cases h3:a.2 <;> cases h4:b.2 <;> cases h5:c.2 <;> simp_all
  ·rw [if_neg c2] at h2;rw [if_neg (by rw [c1];exact c2),c1];exact h2
 ·rw [if_neg c1] at h1;by_cases c2:b.1=c.1
  ·rw [if_neg (by rw [<- c2];exact c1),<- c2];exact h1
  ·rw [if_neg c2] at h2;have:=zgr h1 h2;rw [if_neg (fun e=>by rw [e,lex_irrefl] at this;cases this)];exact this
theorem zp8 (a:Sym):befS a a=false:=by rw [befS,if_pos rfl];cases a.2 <;> rfl
theorem zkr:∀ {G:List Sym},aN G=true->G.Pairwise fun a b=>befS a b=true
 | [],_=>.nil
 | [a],_=>by simp
 | a::b::G,h=>by
  have e:aN (a::b::G)=(befS a b&&aN (b::G)):=rfl;rw [e,Zaf] at h;have ih:=zkr h.2;refine List.pairwise_cons.2 ⟨fun c hc => ?_,ih⟩;rcases List.mem_cons.1 hc with rfl | hc
  ·exact h.1
  ·exact zi8 h.1 ((List.pairwise_cons.1 ih).1 c hc)
theorem zb1 {G:List Sym} (h:aN G=true):G.Nodup:=(zkr h).imp fun hab e=>by rw [e,zp8] at hab;cases hab
structure GrOk (G:List Sym) (n:Nat):Prop where
 n256:n<=256
 ne:G≠[]
 len:G.length<=1536
 dp:∀ g∈G,DP n g
 ord:aN G=true
 cl:xZ jK G
theorem GrOk.nd {G:List Sym} {n:Nat} (h:GrOk G n):G.Nodup:=zb1 h.ord
theorem GrOk.one {G:List Sym} {n:Nat} (h:GrOk G n):idS n∈G:=pT (zi7 n) h.dp h.nd h.ne h.cl
end Go.Ev
namespace Go.Ev
open Go Go.Proofs
variable {B:Nat}
theorem zs3 (op:KW3->OP) (h:T Blk) (nx:Pa) (k:KW3):sGW (.bool false) true op h nx k=k .undef h nx:=nr rfl
theorem zs4 (op:KW3->OP) (h:T Blk) (nx:Pa) (k:KW3):sGW (.bool true) true op h nx k=op k:=nr rfl
noncomputable abbrev je.tm (n:Int) (l:List Sym) (b2 b3 b4 b5:Pa):T AV:=je.fr (rH l) (I n) (.ptr b2 0) (.ptr b3 0) (.ptr b4 0) (.ptr b5 0) (I 0) (I 0) .undef .undef .undef .undef .undef (.bool false) (.bool false) (.fn 144 (.of 144) [.fp [rH l]]) .undef .undef .undef .undef
def je.J (n:Int) (l:List Sym) (id b2 b3 b4 b5:Pa) (L:List Ob) (i:Nat) (L':List Ob):Prop :=
 aN l=aN (l.drop (i-1))/\L'=.raw id (.loop .ready .none (je.tm n l b2 b3 b4 b5) [.of 16,.of 17] je.b5 je.b6)::.arr b5 [I 0]::.arr b4 [.zh]::.arr b3 [.xk]::.arr b2 [rH l]::L
def je.X (n:Int) (l:List Sym) (id b2 b3 b4 b5:Pa) (L:List Ob) (L':List Ob):Prop :=
 aN l=false/\∃ O1,L'=O1::.raw id (.loop .done .ret (je.tm n l b2 b3 b4 b5) [.of 16,.of 17] je.b5 je.b6)::.arr b5 [I 11]::.arr b4 [.zh]::.arr b3 [.xk]::.arr b2 [rH l]::L
theorem je.round {h0 h:T Blk} {nx id b2 b3 b4 b5:Pa} {K:Kw Prop} {L L':List Ob} {i:Nat} {n:Int} {l:List Sym} {a:Sym} (hll:l.length<=2000) (hw:∀ g∈l,g.1.length<=1000000) (hx:l[i]? = some a)
  (hJ:je.J n l id b2 b3 b4 b5 L i L') (H:Hp h0 h nx L')
  (hj:∀ h' nx' L',je.J n l id b2 b3 b4 b5 L (i+1) L'->Hp h0 h' nx' L'->K (.bool true) h' nx'=.ok True)
  (hs:∀ h' nx' L',je.X n l id b2 b3 b4 b5 L L'->Hp h0 h' nx' L'->K (.bool false) h' nx'=.ok True):(CS Tryz.prog B).yld id [I i,encS a] h nx K=.ok True:=by
 obtain ⟨ho,rfl⟩:=hJ;have hi:=(List.getElem?_eq_some_iff.1 hx).1;refine vY (fns:=tbl) yj 10000 fun hf => ?_;rw [je.p6 (xR H (k:=0) rfl)];refine H.alloc fun b10 h1 nx1 H1 => ?_;refine H1.qy (k:=0) (n:=2) rfl rfl rfl fun h2 H2 => ?_;rw [zkb (xR H2 (k:=1) rfl)];have H3:=H2.zby (k:=1) rfl (b':=.loop .busy .none (je.tm n l b2 b3 b4 b5) [.of 16,.of 17] je.b5 je.b6) (by intro e;cases e);rw [je.y6];simp only [vk];by_cases c0:i=0
 ·subst c0;simp only [show ¬ (0:Int)<((0:Nat):Int) by decide,decide_false,jA,zs3,zR,zD];refine H3.rend (k:=1) rfl fun h4 H4 => ?_;exact hj _ _ _ ⟨ho,rfl⟩ H4.drop
 simp only [show (0:Int)<(i:Int) by omega,decide_true,y9,zs4];have hi1:i-1<l.length:=by omega
 have hai:l[i]=a:=by rw [List.getElem?_eq_getElem hi] at hx;exact Option.some.inj hx
 rw [H3.load (k:=5) (i:=0) rfl rfl,fH (by omega),dw (i:=i-1) (by omega) hi1,xS hi1,qD,H3.zi (k:=0) (n:=2) rfl rfl];refine zi5 (a:=l[i-1]) (b:=a) (hw _ (Zao hi1)) (hw _ (Zaa hx)) _ _ _ _ ?_;rintro _ rfl _;rw [vw,zT];have hd:aN (l.drop (i-1))=(befS l[i-1] a&&aN (l.drop i)):=by
  have e:=zmb (G:=l) (i:=i-1) (by omega);simp only [show i-1+1=i by omega,hai] at e;exact e
 cases c:befS l[i-1] a with
 | true =>
  have:=(zgm l[i-1] a).2 c;rw [decide_eq_false (show ¬ (0:Int)<=cmpS l[i-1] a by omega),zD];refine H3.rend (k:=1) rfl fun h4 H4 => ?_;exact hj _ _ _ ⟨by rw [ho,hd,c];simp,rfl⟩ H4.drop
 | false =>
  have:¬ cmpS l[i-1] a<0:=fun q=>by rw [(zgm _ _).1 q] at c;cases c
  rw [decide_eq_true (show (0:Int)<=cmpS l[i-1] a by omega),zC];refine H3.store (k:=4) rfl (by simp) rfl fun h4 H4 => ?_;refine H4.store (k:=3) rfl (by simp) rfl fun h5 H5 => ?_;refine H5.store (k:=2) rfl (by simp) rfl fun h6 H6 => ?_;refine H6.rend (k:=1) rfl fun h7 H7 => ?_;exact hs _ _ _ ⟨by rw [ho,hd,c];rfl,_,rfl⟩ H7
theorem zs5 {h0 h:T Blk} {nx p:Pa} {K:Kw Prop} {L:List Ob} {n:Int} {G:List Sym} (hG:G.length<=100000) (hw:∀ g∈G,g.1.length<=100000) (H:Hp h0 h nx L)
  (hbad:∀ h' nx',uZ G n≠0->Hp h0 h' nx' L->K (.tup [.xk,.zh,I (uZ G n)]) h' nx'=.ok True)
  (hok:∀ (n':Nat) (u q:List Sym) g o h' nx',n=n'->GrOk G n'->uZ G n=0->(∀ c∈u,c∈G)->CloS n' u q->q.Nodup->(∀ a,a∈q↔a∈G)->Hp h0 h' nx' (.map g (fG q)::.gro o 2 u.length (jC u)::L)->K (.tup [.map g,qp o 2 u.length,I 0]) h' nx'=.ok True) :
  (CS Tryz.prog B).fn 143 p [rH G,I n] h nx K=.ok True:=by
 refine yQ (p:=.of 143) (K:=K) (zL zP yj 10000000 fun hf => ?_) fun _ _ _ _ q=>q;rw [je.go];refine H.box (l:=[rH G]) rfl fun b2 h1 nx1 H1 => ?_;refine H1.alloc fun b3 h2 nx2 H2 => ?_;refine H2.alloc fun b4 h3 nx3 H3 => ?_;refine H3.alloc fun b5 h4 nx4 H4 => ?_
 have bad:∀ (v:Int) h' nx' X,v≠0->uZ G n=v->Hp h0 h' nx' (X::.arr b5 [I 0]::.arr b4 [.zh]::.arr b3 [.xk]::.arr b2 [rH G]::L) ->
   (zN 1 (.ptr b3 0) .xk h' nx' fun _ h36 n37=>zN 1 (.ptr b4 0) .zh h36 n37 fun _ h39 n40=>zN 1 (.ptr b5 0) (I v) h39 n40 fun _ h42 n43=>zB (.ptr b3 0) h42 fun v44=>zB (.ptr b4 0) h42 fun v45=>zB (.ptr b5 0) h42 fun v46=>K (.tup [v44,v45,v46]) h42 n43)=.ok True:=by
  intro v h' nx' X hv hg H';refine H'.store (k:=3) rfl (by simp) rfl fun h6 H6 => ?_;refine H6.store (k:=2) rfl (by simp) rfl fun h7 H7 => ?_;refine H7.store (k:=1) rfl (by simp) rfl fun h8 H8 => ?_;rw [H8.load (k:=3) (i:=0) rfl rfl,H8.load (k:=2) (i:=0) rfl rfl,H8.load (k:=1) (i:=0) rfl rfl];have:=hbad _ _ (by rw [hg];exact hv) H8.drop.drop.drop.drop.drop;rw [hg] at this;exact this
 rw [H4.load (k:=3) (i:=0) rfl rfl,zE,dh,H4.load (k:=3) (i:=0) rfl rfl,zE,vk];refine zgk n _ _ _ _ ?_;rintro _ rfl _;rw [vk,zA,zE,zA,H4.load (k:=3) (i:=0) rfl rfl,zA,dh,zA,zE,zA,H4.load (k:=3) (i:=0) rfl rfl,zA];refine dC _ _ _ _ _ _ ?_;rintro _ rfl _;rw [vk,zA,zE,zA,H4.load (k:=3) (i:=0) rfl rfl,zA];refine dC _ _ _ _ _ _ ?_;rintro _ rfl _;refine H4.zu (l:=[I (if n<0\/256<n then 3 else 0),I (if decide ((G.length:Int)=0)=true then 12 else 0),I (if decide ((1536:Int)<(G.length:Int))=true then 5 else 0)]) rfl fun tb h5 nx5 H5 => ?_;refine gI (l:=[if n<0\/256<n then 3 else 0,if decide ((G.length:Int)=0)=true then 12 else 0,if decide ((1536:Int)<(G.length:Int))=true then 5 else 0]) H5 (k:=0) rfl (fun B=>zgj (by simp)) (fun v hv=>by rw [hv];exact .int _ _) ?_;rintro _ rfl;have fE:yX [if n<0\/256<n then (3:Int) else 0,if decide ((G.length:Int)=0)=true then 12 else 0,if decide ((1536:Int)<(G.length:Int))=true then 5 else 0]=if n<0\/256<n then 3 else if G.length=0 then 12 else if 1536<G.length then 5 else 0:=by
  by_cases c1:n<0\/256<n
  ·rw [if_pos c1,if_pos c1];rfl
  rw [if_neg c1,if_neg c1];by_cases c2:G.length=0
  ·rw [decide_eq_true (show (G.length:Int)=0 by omega),if_pos c2];rfl
  rw [decide_eq_false (show ¬ (G.length:Int)=0 by omega),if_neg c2];by_cases c3:1536<G.length
  ·rw [decide_eq_true (show (1536:Int)<(G.length:Int) by omega),if_pos c3];rfl
  ·rw [decide_eq_false (show ¬ (1536:Int)<(G.length:Int) by omega),if_neg c3];rfl
 rw [fE,qg];by_cases c1:n<0\/256<n
 ·rw [if_pos c1];simp only [show ¬ (3:Int)=0 by decide,decide_false,Zag,zC];exact bad 3 _ _ _ (by decide) (by rw [uZ,if_pos c1]) H5
 rw [if_neg c1];by_cases c2:G.length=0
 ·rw [if_pos c2];simp only [show ¬ (12:Int)=0 by decide,decide_false,Zag,zC];exact bad 12 _ _ _ (by decide) (by rw [uZ,if_neg c1,if_pos c2]) H5
 rw [if_neg c2];by_cases c3:1536<G.length
 ·rw [if_pos c3];simp only [show ¬ (5:Int)=0 by decide,decide_false,Zag,zC];exact bad 5 _ _ _ (by decide) (by rw [uZ,if_neg c1,if_neg c2,if_pos c3]) H5
 rw [if_neg c3];have e0:uZ G n=if uK n G≠0 then uK n G else if aN G=false then 11 else if clG G=false then 28 else 0:=by rw [uZ,if_neg c1,if_neg c2,if_neg c3]
 simp only [decide_true,Zae,zD];rw [H5.load (k:=4) (i:=0) rfl rfl];refine zgl hG hw _ _ _ _ ?_;rintro _ rfl _;rw [qg];by_cases c4:uK n G=0
 case neg =>
  simp only [c4,decide_false,Zag,zC];exact bad _ _ _ _ c4 (by rw [e0,if_pos c4]) H5
 rw [if_neg (by simp [c4])] at e0;simp only [c4,decide_true,Zae,zD];have hsy:=zbz c4;obtain ⟨n',rfl⟩:∃ n':Nat,n=(n':Int):=⟨n.toNat,by omega⟩;have hdp:∀ g∈G,DP n' g:=fun g hg=>by
  obtain ⟨_,q2,q3⟩:=zma (hsy g hg);exact DP.of q3 (by omega)
 rw [H5.load (k:=4) (i:=0) rfl rfl];refine zp7 _ _ _ _ ?_;rintro _ rfl _;refine H5.drop.rf (g:=144) (p:=.of 144) (cap:=[.fp [rH G]]) rfl fun id h6 nx6 H6 => ?_;refine zkp (je.J n' G id b2 b3 b4 b5 L) (je.X n' G id b2 b3 b4 b5 L) (by omega) ⟨by simp,rfl⟩ H6 (fun i a h' nx' L' K' hx hJ H' hj hs=>je.round (by omega) (fun g hg=>by have:=hw g hg;omega) hx hJ H' hj hs) fun h' nx' L' hJX H' => ?_;rcases hJX with ⟨ho,rfl⟩ | ⟨ho,O1,rfl⟩
 case inr =>
  have Q:=H'.front (k:=1) rfl;refine Q.rU fun h15 H15 => ?_;show Ev.rU _ _ .done .ret _ h15 nx'=_;rw [bE];have e:∀ E0,(((fnO je.res K).blk 0 E0).rt (je.tm n' G b2 b3 b4 b5) h15 nx')=(zB (.ptr b3 0) h15 fun v1=>zB (.ptr b4 0) h15 fun v2=>zB (.ptr b5 0) h15 fun v3=>K (.tup [v1,v2,v3]) h15 nx'):=fun E0=>by kernel_rfl
  rw [e,H15.load (k:=3) (i:=0) rfl rfl,H15.load (k:=2) (i:=0) rfl rfl,H15.load (k:=1) (i:=0) rfl rfl];have hg:uZ G n'=11:=by rw [e0,if_pos ho]
  have:=hbad _ _ (by rw [hg];decide) H15.drop.drop.drop.drop.drop;rw [hg] at this;exact this
 have hord:aN G=true:=by rw [ho];exact zpr (by omega)
 rw [if_neg (by simp [hord])] at e0;have hnd:=zb1 hord;have hG0:G≠[]:=by rintro rfl;exact c2 rfl
 refine H'.rU fun h15 H15 => ?_;rw [vI,je.k8,H15.load (k:=3) (i:=0) rfl rfl,H15.load (k:=3) (i:=0) rfl rfl,zE];refine zi6 (n:=n') (limit:=G.length) (by omega) (by omega) (by omega) (fun g hg=>(hdp g hg).1) (by omega) H15 (fun h16 nx16 hT H16 => ?_) fun u q g o h16 nx16 hu hin hqn hC hql H16 => ?_
 ·obtain ⟨u,q,i,x,k,b,hu,hB,hb,hnot,hq⟩:=hT;have hnc:=hB.many (zi7 n') hb hnot hq hdp hnd hG0 hu;have hcl:clG G=false:=by
   cases c:clG G with
   | false=>rfl
   | true=>exact absurd (zep.1 c) hnc
  rw [yL,yN,jH,yK];simp only [Zag,yW,zT,zC];refine H16.store (k:=2) rfl (by simp) rfl fun h7 H7 => ?_;refine H7.store (k:=1) rfl (by simp) rfl fun h8 H8 => ?_;refine H8.store (k:=0) rfl (by simp) rfl fun h9 H9 => ?_;rw [H9.load (k:=2) (i:=0) rfl rfl,H9.load (k:=1) (i:=0) rfl rfl,H9.load (k:=0) (i:=0) rfl rfl];have hg:uZ G n'=28:=by rw [e0,if_pos hcl]
  have:=hbad _ _ (by rw [hg];decide) H9.drop.drop.drop.drop;rw [hg] at this;exact this
 ·rw [yL,yN,jH,yK];simp only [Zae,yH];rw [H16.zui (k:=0) rfl,H16.load (k:=5) (i:=0) rfl rfl,zE,qg,zR];have hiff:=zmk (zi7 n') hC hqn hdp hnd hG0 hu hin;by_cases c:q.length=G.length
  case neg =>
   have hcl:clG G=false:=by
    cases c':clG G with
    | false=>rfl
    | true=>exact absurd (hiff.2 (zep.1 c')) c
   simp only [show ¬ (q.length:Int)=(G.length:Int) by omega,decide_false,Zag,zC];refine H16.store (k:=4) rfl (by simp) rfl fun h7 H7 => ?_;refine H7.store (k:=3) rfl (by simp) rfl fun h8 H8 => ?_;refine H8.store (k:=2) rfl (by simp) rfl fun h9 H9 => ?_;rw [H9.load (k:=4) (i:=0) rfl rfl,H9.load (k:=3) (i:=0) rfl rfl,H9.load (k:=2) (i:=0) rfl rfl];have hg:uZ G n'=28:=by rw [e0,if_pos hcl]
   have:=hbad _ _ (by rw [hg];decide) H9.drop.drop.drop.drop.drop.drop;rw [hg] at this;exact this
  ·have hcl:=zep.2 (hiff.1 c);have hg:uZ G n'=0:=by rw [e0,hcl];rfl
   simp only [show (q.length:Int)=(G.length:Int) by omega,decide_true,Zae,zD];rw [je.k9];refine H16.store (k:=4) rfl (by simp) rfl fun h7 H7 => ?_;refine H7.store (k:=3) rfl (by simp) (gN _ _ _) fun h8 H8 => ?_;refine H8.store (k:=2) rfl (by simp) rfl fun h9 H9 => ?_;rw [H9.load (k:=4) (i:=0) rfl rfl,H9.load (k:=3) (i:=0) rfl rfl,H9.load (k:=2) (i:=0) rfl rfl];have hok':GrOk G n':=⟨by omega,hG0,by omega,hdp,hord,hiff.1 c⟩;have hsub:∀ x∈q,x∈G:=hC.sub hok'.one hok'.cl hu;have P:Hp h0 h9 nx16 (.map g (fG q)::.gro o 2 u.length (jC u)::L):=by
    have e1:∀ (A M B1 B2 B3 B4:Ob),(A::M::B1::B2::B3::B4::L).Perm (B1::B2::B3::B4::A::M::L):=fun A M B1 B2 B3 B4 =>
     (List.Perm.cons A (Zca (l₁:=[B1,B2,B3,B4]) (a:=M) (l₂:=L)).symm).trans (Zca (l₁:=[B1,B2,B3,B4]) (a:=A) (l₂:=M::L)).symm
    exact (H9.perm (e1 _ _ _ _ _ _)).drop.drop.drop.drop
   exact hok n' u q g o _ _ rfl hok' hg hu hC hqn (fun a=>⟨hsub a,hin a⟩) P
theorem zce {G:List Sym} {n:Int} (hG:G.length<=100000) (hw:∀ g∈G,g.1.length<=100000):Pure Tryz.prog B 84 [rH G,I n] (· = I (uZ G n)):=by
 refine yF fun h nx K H0 hK=>zL zP yj 1000 fun hf => ?_;rw [F84.go];refine zs5 hG hw H0 (fun h' nx' hg H' => ?_) fun n' u q g o h' nx' hn hok hg hu hC hqn hq H' => ?_
 ·rw [yL,yN,jH];exact hK _ _ _ _ _ H' (zH rfl) rfl
 ·rw [yL,yN,jH];exact hK _ _ _ _ _ H' (zH rfl) (by rw [hg])
end Go.Ev
