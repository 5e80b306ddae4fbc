import Derived.Test.YtdclaaahnodljaaGreatDoorCodea
import Derived.Test.YtdclaaahnodljaaGreatDoorEvD
import GoSem.Core.Next
import Derived.Lib.Small
import Derived.Lib.Walk
import Derived.Deep.Draws
import Derived.Lib.Agree
import Derived.Shelf.SlLaysF
import Derived.Shelf.RegionOpenPlain
import Derived.WalkKit
import Derived.Deep.LoopGhost
import Derived.Test.YtdclaaahnodljaaGreatDoorProg
import Derived.Test.YtdclaaahnodljaaGreatDoorEvC
import Derived.Test.YtdclaaahnodljaaGreatDoorLaws
import Derived.Sort.Grow
import Derived.Sort.Row
import Derived.KernelRfl
import Derived.Shelf.SlSortCmp.Whole1
import Derived.Deep.Slices
import Derived.Shelf.SlSortCmp.InsertionK
set_option linter.unusedSimpArgs false
set_option linter.unusedVariables false
namespace Go.Ev
open Go Go.Proofs
theorem yh {B:Nat}:pS Tryz.prog B Prop:=za5 mixed
variable {B:Nat}
theorem zbk {a b:List Int} (ha:a.length<=1000000000):Pure Tryz.prog B 24 [encI a,encI b] (· = .bool (decide (a=b))):=by
 intro p h nx K hK;refine zN zQ yh (a.length+2) fun hf => ?_;rw [F24.go];simp (disch:=omega) only [qj,rG,sV,fG,vg,uq,sW,pz,fO,zT,zY,zC,zD,y0,jF,y8,j5,y5,jD,jG,gY,gG,gF,gE,zG,jC,yN,zA,decide_true,decide_false,Zal,Zai,jH];by_cases hl:a.length=b.length
 ·simp only [hl,decide_true,Zal,zD];refine F24.L2 (fun m z3 h' nx'=>∃ i:Nat,z3=I i/\m=a.length-i/\i<=a.length/\h'=h/\nx'=nx/\a.take i=b.take i) (m:=a.length) (by omega) ⟨0,rfl,by simp,by omega,rfl,rfl,by simp⟩ ?_;rintro m z2 z3 z5 z6 _ _ R ⟨i,rfl,rfl,hi,rfl,rfl,htk⟩ hR;simp (disch:=omega) only [qj,rG,sV,fG,vg,uq,sW,pz,fO,zT,zY,zC,zD,y0,jF,y8,j5,y5,jD,jG,gY,gG,gF,gE,zG,jC,yN,zA,decide_true,decide_false,Zal,Zai,jH];by_cases hlt:i<a.length
  ·have h1:(i:Int)<a.length:=by omega
   have hb:i<b.length:=by omega
   simp only [h1,decide_true,zC];rw [xk rfl hlt,ldL (fP (List.getElem?_eq_getElem hlt)),xk rfl hb,ldL (fP (List.getElem?_eq_getElem hb))];simp (disch:=omega) only [qj,rG,sV,fG,vg,uq,sW,pz,fO,zT,zY,zC,zD,y0,jF,y8,j5,y5,jD,jG,gY,gG,gF,gE,zG,jC,yN,zA,decide_true,decide_false,Zal,Zai,jH];by_cases he:a[i]=b[i]
   ·simp only [he,decide_true,Zal,zD];refine hR (a.length-(i+1)) _ _ _ _ _ _ (by omega) ⟨i+1,rfl,rfl,by omega,rfl,rfl,?_⟩;rw [Zar,Zar,htk,List.getElem?_eq_getElem hlt,List.getElem?_eq_getElem hb,he]
   ·simp only [he,decide_false,Zai,zC];refine hK _ ?_ hf;rw [decide_eq_false];rintro rfl;exact he rfl
  ·have h1:¬ (i:Int)<a.length:=by omega
   simp only [h1,decide_false,zD];rw [F24.k9];refine hK _ ?_ hf;rw [Zat (by omega),Zat (by omega)] at htk;rw [decide_eq_true htk]
 ·have h1:¬ (a.length:Int)=b.length:=by omega
  simp only [h1,decide_false,Zai,zC];refine hK _ ?_ hf;rw [decide_eq_false];rintro rfl;exact hl rfl
end Go.Ev
namespace Go.Ev
open Go Go.Proofs
variable {B:Nat}
def uC:List Int->Int
 | []=>0
 | e::l=>if e≠0 then e else uC l
theorem kF:∀ (l:List Int) (i:Nat),(∀ e∈l.take i,e=0)->uC l=uC (l.drop i)
 | l,0,_=>rfl
 | [],_+1,_=>rfl
 | e::l,i+1,h=>by
  have h0:e=0:=h e (by simp);rw [uC,if_neg (by simp [h0]),List.drop_succ_cons];exact kF l i fun x hx=>h x (by simp [hx])
theorem wI {P:Program} {f:Nat} {p id:Pa} {h0 h:T Blk} {nx:Pa} {L:List Ob} {k:Nat} {l:List Int} {K:Kw Prop} {Q:AV->Prop} (H:Hp h0 h nx L) (hk:L[k]? = some (.arr id (l.map I))) (hq:∀ B,Pure P B f [encI l] Q) (hpl:∀ v,Q v->Plain v)
  (hK:∀ v,Q v->K v h nx=.ok True):(CS P B).fn f p [.sl id 0 l.length (some l.length) 1] h nx K=.ok True :=
 ze4 (.cons (je.frz (H.own _ (Zaa hk)) (T.vk _ id) (Zaf _) (by simp) fun v hv=>by obtain ⟨x,_,rfl⟩:=List.mem_map.1 hv;rfl) .nil) (by
  have:=wO l;simp only [nns,fF.nn this,Bool.and_self]) hq hpl fun v hv _=>hK v hv
theorem znu {h:T Blk} {nx:Pa} {l:List Int} {g:Nat} {p q:Pa} {cap:List AV} {pr:Int->Bool} {K:Kw Prop} (hl:l.length<=1000000) (hcl:∀ x∈l,∀ K:Kw Prop,K (.bool (pr x)) h nx=.ok True->(CS Tryz.prog B).fn g q (I x::cap) h nx K=.ok True)
  (hK:K (.bool (l.any pr)) h nx=.ok True):(CS Tryz.prog B).fn 66 p [encI l,.fn g q cap] h nx K=.ok True:=by
 refine gS (p:=.of 66) (K:=K) (zN zQ yh 9 fun hf => ?_) fun _ _ _ _ q=>q;rw [F66.go];refine gS (p:=.of 127) (K:=fun v1 h2 n3=>zk .geq .int v1 (I 0) fun v4=>K v4 h2 n3) (zN zQ yh 10000000 fun hf => ?_) fun _ _ _ _ q=>q;rw [jv.go];simp (disch:=omega) only [qj,rG,sV,fG,vg,uq,sW,pz,fO,zT,zY,zC,zD,y0,jF,y8,j5,y5,jD,jG,gY,gG,gF,gE,zG,jC,yN,zA,decide_true,decide_false,Zal,Zai,jH];refine jv.L1 (fun m z5 h' nx'=>∃ i:Nat,z5=I i/\l.length-i=m/\i<=l.length/\h'=h/\nx'=nx/\(l.take i).any pr=false) (m:=l.length) (by omega) ⟨0,rfl,rfl,by omega,rfl,rfl,by simp⟩ ?_;rintro m z2 z3 z5 z6 z7 _ _ R ⟨i,rfl,rfl,hi,rfl,rfl,htk⟩ hR;simp (disch:=omega) only [qj,rG,sV,fG,vg,uq,sW,pz,fO,zT,zY,zC,zD,y0,jF,y8,j5,y5,jD,jG,gY,gG,gF,gE,zG,jC,yN,zA,decide_true,decide_false,Zal,Zai,jH];by_cases hlt:i<l.length
 ·simp only [show (i:Int)<(l.length:Int) by omega,decide_true,zC];have hx:l[i]? = some l[i]:=List.getElem?_eq_getElem hlt;rw [xk rfl hlt,ldL (fP hx),zbc];refine hcl _ (Zah hlt) _ ?_;cases he:pr l[i] with
  | true =>
   simp only [zC,fO,show (0:Int)<=(i:Int) by omega,decide_true];rw [List.any_eq_true.2 ⟨_,Zah hlt,he⟩] at hK;exact hK
  | false =>
   simp only [zD];refine hR _ _ _ _ _ _ _ _ (by omega) ⟨i+1,rfl,rfl,by omega,rfl,rfl,?_⟩;rw [Zar,hx,List.any_append,htk];simp [he]
 ·simp only [show ¬ (i:Int)<(l.length:Int) by omega,decide_false,zD];rw [jv.k8];rw [Zat (by omega)] at htk;rw [htk] at hK;simp only [fO,show ¬ (0:Int) <= -1 by omega,decide_false];exact hK
theorem mT (b:Bool) (e:Int):Pure Tryz.prog B 105 [.bool b,I e] (· = I (if b then e else 0)):=by
 intro p h nx K hK;refine zN zQ yh 9 fun hf => ?_;rw [rX.go];cases b <;> simp (disch:=omega) only [qj,rG,sV,fG,vg,uq,sW,pz,fO,zT,zY,zC,zD,y0,jF,y8,j5,y5,jD,jG,gY,gG,gF,gE,zG,jC,yN,zA,decide_true,decide_false,Zal,Zai,jH] <;> exact hK _ rfl hf
theorem zi5 {l:List Int} (hl:l.length<=1000000):Pure Tryz.prog B 104 [encI l] (· = I (uC l)):=by
 intro p h nx K hK;refine zN zQ yh 10000000 fun hf => ?_;rw [jy.go];simp (disch:=omega) only [qj,rG,sV,fG,vg,uq,sW,pz,fO,zT,zY,zC,zD,y0,jF,y8,j5,y5,jD,jG,gY,gG,gF,gE,zG,jC,yN,zA,decide_true,decide_false,Zal,Zai,jH];refine jy.L1 (fun m z5 h' nx'=>∃ i:Nat,z5=I i/\l.length-i=m/\i<=l.length/\h'=h/\nx'=nx/\∀ e∈l.take i,e=0) (m:=l.length) (by omega) ⟨0,rfl,rfl,by omega,rfl,rfl,by simp⟩ ?_;rintro m z1 z2 z5 z6 z7 _ _ R ⟨i,rfl,rfl,hi,rfl,rfl,htk⟩ hR;simp (disch:=omega) only [qj,rG,sV,fG,vg,uq,sW,pz,fO,zT,zY,zC,zD,y0,jF,y8,j5,y5,jD,jG,gY,gG,gF,gE,zG,jC,yN,zA,decide_true,decide_false,Zal,Zai,jH];by_cases hlt:i<l.length
 ·simp only [show (i:Int)<(l.length:Int) by omega,decide_true,zC];have hx:l[i]? = some l[i]:=List.getElem?_eq_getElem hlt;rw [xk rfl hlt,ldL (fP hx)];simp (disch:=omega) only [qj,rG,sV,fG,vg,uq,sW,pz,fO,zT,zY,zC,zD,y0,jF,y8,j5,y5,jD,jG,gY,gG,gF,gE,zG,jC,yN,zA,decide_true,decide_false,Zal,Zai,jH];have hd:l.drop i=l[i]::l.drop (i+1):=Zaq hlt;by_cases h0:l[i]=0
  ·simp only [h0,decide_true,Zal,zD];refine hR _ _ _ _ _ _ _ _ (by omega) ⟨i+1,rfl,rfl,by omega,rfl,rfl,fun e he => ?_⟩;rw [Zar,hx] at he;rcases List.mem_append.1 he with q | q
   ·exact htk e q
   ·simp at q;rw [q];exact h0
  ·simp only [h0,decide_false,Zai,zC];refine hK _ ?_ hf;rw [kF l i htk,hd,uC,if_pos h0]
 ·simp only [show ¬ (i:Int)<(l.length:Int) by omega,decide_false,zD];rw [jy.k8];refine hK _ ?_ hf;rw [kF l i htk,Zbu (by omega)];rfl
end Go.Ev
namespace Go.Ev
abbrev srt (l:List Int):List Int:=l.mergeSort fun x y=>decide (x<=y)
theorem zhs {l l':List Int} (hp:l'.Perm l) (hs:l'.Pairwise (· <= ·)):l'=srt l:=by
 refine (hp.trans (List.mergeSort_perm l _).symm).eq_of_pairwise (le:=(· <= ·)) ?_ hs ?_
 ·intro a b _ _ h1 h2;omega
 ·have:=List.pairwise_mergeSort (le:=fun x y:Int=>decide (x<=y)) (by intro a b c;simp;omega) (by intro a b;simp;omega) l;exact this.imp (by intro a b h;simpa using h)
theorem dZ (l:List Int):(srt l).Perm l:=List.mergeSort_perm l _
structure Ins (l out:List Int) (i k:Nat):Prop where
 perm:out.Perm l
 ex:∃ (A:List Int) (x:Int) (B R:List Int),out=A++x::(B++R)/\A.length=k/\A.length+B.length=i/\(A++B).Pairwise (· <= ·)/\∀ b∈B,x<b
theorem Ins.start {l out:List Int} {i:Nat} (hp:out.Perm l) (hi:i<out.length) (hs:(out.take i).Pairwise (· <= ·)):Ins l out i i :=
 ⟨hp,out.take i,out[i],[],out.drop (i+1),by simp,by simp;omega,by simp;omega,by simpa using hs,by simp⟩
theorem Ins.swap {l out:List Int} {i k:Nat} (H:Ins l out i (k+1)) {a x:Int} (ha:out[k]? = some a) (hx:out[k+1]? = some x) (hlt:x<a):Ins l ((out.set (k+1) a).set k x) i k:=by
 obtain ⟨hp,A,x',B,R,rfl,hA,hi,hs,hb⟩:=H;obtain ⟨A,a',rfl⟩:∃ A' a',A=A'++[a']:=⟨A.dropLast,A.getLast (by intro q;rw [q] at hA;simp at hA),(List.dropLast_concat_getLast _).symm⟩;have hA':A.length=k:=by simpa using hA
 have e1:a'=a:=by
  rw [Zbx,List.getElem?_append_right (by omega),hA',Nat.sub_self] at ha;simpa using ha
 have e2:x'=x:=by
  rw [List.getElem?_append_right (by simp;omega)] at hx;simp [hA'] at hx;exact hx
 subst e1 e2;have e3:((A++[a']++x'::(B++R)).set (k+1) a').set k x'=A++x'::((a'::B)++R):=by
  have h1:(A++[a']++x'::(B++R)).set (k+1) a'=A++a'::a'::(B++R):=by
   rw [Zbx,List.set_append_right _ _ (by omega),hA',show k+1-k=1 by omega];rfl
  rw [h1,List.set_append_right _ _ (by omega),hA',Nat.sub_self];rfl
 rw [e3];refine ⟨List.Perm.trans ?_ hp,A,x',a'::B,R,rfl,hA',by simp at hi ⊢;omega,by simpa [Zbx] using hs,?_⟩
 ·rw [Zbx];refine List.Perm.append_left A ?_;exact List.Perm.swap _ _ _
 ·intro b hb';rcases List.mem_cons.1 hb' with rfl | q
  ·exact hlt
  ·exact hb b q
theorem Ins.done {l out:List Int} {i k:Nat} (H:Ins l out i k) (h:k=0\/∃ j a x,k=j+1/\out[j]? = some a/\out[k]? = some x/\¬ x<a):out.Perm l/\(out.take (i+1)).Pairwise (· <= ·):=by
 obtain ⟨hp,A,x,B,R,rfl,hA,hi,hs,hb⟩:=H;refine ⟨hp,?_⟩;have e:(A++x::(B++R)).take (i+1)=A++x::B:=by
  rw [show A++x::(B++R)=(A++x::B)++R by simp];exact List.take_left' (by simp;omega)
 rw [e];have hs':=List.pairwise_append.1 hs;refine List.pairwise_append.2 ⟨hs'.1,List.pairwise_cons.2 ⟨fun b hb'=>by have:=hb b hb';omega,hs'.2.1⟩,?_⟩;have key:∀ a∈A,a<=x:=by
  rcases h with rfl | ⟨j,a0,x0,rfl,h1,h2,h3⟩
  ·obtain rfl:A=[]:=Zbc hA;simp
  ·obtain ⟨A,a',rfl⟩:∃ A' a',A=A'++[a']:=⟨A.dropLast,A.getLast (by intro q;rw [q] at hA;simp at hA),(List.dropLast_concat_getLast _).symm⟩;have hA':A.length=j:=by simpa using hA
   have e1:a'=a0:=by
    rw [Zbx,List.getElem?_append_right (by omega),hA',Nat.sub_self] at h1;simpa using h1
   have e2:x=x0:=by
    rw [List.getElem?_append_right (by simp;omega)] at h2;simp [hA'] at h2;exact h2
   subst e1 e2;intro a ha;rcases List.mem_append.1 ha with q | q
   ·have:=(List.pairwise_append.1 hs'.1).2.2 a q a' (by simp);omega
   ·simp at q;omega
 intro a ha b hb';rcases List.mem_cons.1 hb' with rfl | q
 ·exact key a ha
 ·exact hs'.2.2 a ha b q
def incr (d:List Int) (c:Int):List Int:=d.set c.toNat (d.getD c.toNat 0+1)
@[simp] theorem zrk (d:List Int) (c:Int):(incr d c).length=d.length:=by simp [incr]
def Bd (d:List Int) (M:Nat):Prop:=∀ v∈d,0<=v/\v<=(M:Int)
theorem Bd.incr {d:List Int} {M:Nat} (h:Bd d M) {c:Int} (hc:c.toNat<d.length):Bd (incr d c) (M+1):=by
 intro v hv;rcases List.mem_or_eq_of_mem_set hv with q | rfl
 ·have:=h v q;omega
 ·rw [Zab,List.getElem?_eq_getElem hc];have:=h _ (Zah hc);simp only [Option.getD_some];omega
theorem Bd.mono {d:List Int} {M N:Nat} (h:Bd d M) (hm:M<=N):Bd d N:=fun v hv=>by have:=h v hv;omega
theorem Bd.line {W:Nat}:∀ {l d:List Int} {M:Nat},Bd d M->(∀ c∈l,c.toNat<d.length)->l.length<=W->Bd (l.foldl Ev.incr d) (M+W)
 | [],d,M,h,_,_=>h.mono (by omega)
 | c::l,d,M,h,hc,hl=>by
  rw [Zce];simp only [Zbn] at hl;have:=Bd.line (W:=W-1) (l:=l) (h.incr (hc c (by simp))) (fun x hx=>by simpa using hc x (by simp [hx])) (by omega);exact this.mono (by omega)
theorem Bd.srt {d:List Int} {M:Nat} (h:Bd d M):Bd (Ev.srt d) M:=fun v hv=>h v ((dZ d).mem_iff.1 hv)
@[simp] theorem zs9 (d:List Int):(Ev.srt d).length=d.length:=(dZ d).length_eq
def yS:List Int->List Int->Bool
 | _,[]=>false
 | [],_::_=>true
 | a::xs,b::ys=>if a=b then yS xs ys else decide (a<b)
theorem dK:∀ (i:Nat) (a b:List Int),a.take i=b.take i->i<=a.length->i<=b.length->yS a b=yS (a.drop i) (b.drop i)
 | 0,a,b,_,_,_=>rfl
 | i+1,a::xs,b::ys,h,h1,h2=>by
  simp only [List.take_succ_cons,List.cons.injEq] at h;rw [yS,if_pos h.1,List.drop_succ_cons,List.drop_succ_cons];exact dK i xs ys h.2 (by simpa using h1) (by simpa using h2)
 | i+1,[],_,_,h1,_=>by simp at h1
 | i+1,_::_,[],_,_,h2=>by simp at h2
def cmpL (a b:List Int):Int:=if yS a b then -1 else if a=b then 0 else 1
def Nrm (f:List Int):Prop:=f.Nodup/\∀ x∈f,1<=x/\x<=(f.length:Int)
theorem zbl:∀ (l r:List Int),l.Nodup->(∀ x∈l,x∈r)->∃ s,r.Perm (l++s)
 | [],r,_,_=>⟨r,.refl _⟩
 | a::l,r,hn,hs=>by
  obtain ⟨h1,h2⟩:=List.nodup_cons.1 hn;have ha:=hs a (by simp);obtain ⟨s,hp⟩:=zbl l (r.erase a) h2 fun x hx=>(List.mem_erase_of_ne (by rintro rfl;exact h1 hx)).2 (hs x (by simp [hx]));exact ⟨s,(List.perm_cons_erase ha).trans (.cons a hp)⟩
abbrev upTo (n:Nat):List Int:=(List.range n).map fun (i:Nat)=>(i:Int)+1
theorem zfh (n:Nat):(upTo n).Pairwise (· <= ·):=by
 rw [Zbr];exact List.pairwise_lt_range.imp (by intro a b h;omega)
theorem zht (n:Nat):(upTo n).Nodup:=by
 rw [List.Nodup,Zbr];exact List.pairwise_lt_range.imp (by intro a b h;omega)
theorem zpy (f:List Int):srt f=upTo f.length↔Nrm f:=by
 constructor
 ·intro h;have hp:(upTo f.length).Perm f:=h ▸ dZ f;refine ⟨hp.nodup_iff.1 (zht _),fun x hx => ?_⟩;have:=hp.mem_iff.2 hx;obtain ⟨i,hi,rfl⟩:=List.mem_map.1 this;have:=List.mem_range.1 hi;omega
 ·rintro ⟨h1,h2⟩;obtain ⟨s,hs⟩:=zbl f (upTo f.length) h1 fun x hx=>by
   obtain ⟨q1,q2⟩:=h2 x hx;exact List.mem_map.2 ⟨(x-1).toNat,List.mem_range.2 (by omega),by omega⟩
  have hl:=hs.length_eq;obtain rfl:s=[]:=Zbc (by rw [Zan,Zas,List.length_range] at hl;omega);rw [List.append_nil] at hs;exact (zhs hs (zfh _)).symm
def Rv (l cur:List Int) (i:Nat):Prop:=cur.length=l.length/\∀ t,t<l.length->cur[t]? = if t<i\/l.length<=t+i then l[l.length-1-t]? else l[t]?
theorem Rv.start (l:List Int):Rv l l 0:=⟨rfl,fun t ht=>by rw [if_neg (by omega)]⟩
theorem Rv.done {l cur:List Int} {i:Nat} (h:Rv l cur i) (hi:l.length<=2*i+1):cur=l.reverse:=by
 refine Zaz fun t => ?_;by_cases ht:t<l.length
 ·rw [h.2 t ht,List.getElem?_reverse ht];by_cases c:t<i\/l.length<=t+i
  ·rw [if_pos c]
  ·rw [if_neg c,show l.length-1-t=t by omega]
 ·rw [List.getElem?_eq_none (by rw [h.1];omega),List.getElem?_eq_none (by simp;omega)]
theorem Rv.step {l cur:List Int} {i j:Nat} {a b:Int} (h:Rv l cur i) (hij:i<j) (hs:i+j+1=l.length) (ha:cur[i]? = some a) (hb:cur[j]? = some b):Rv l ((cur.set i b).set j a) (i+1):=by
 obtain ⟨hl,hg⟩:=h;refine ⟨by simp [hl],fun t ht => ?_⟩;have e1:=hg i (by omega);have e2:=hg j (by omega);rw [if_neg (by omega),ha] at e1;rw [if_neg (by omega),hb] at e2;rw [List.getElem?_set,List.getElem?_set,List.length_set];by_cases c1:j=t
 ·subst c1;rw [if_pos rfl,if_pos (by omega),if_pos (by omega),show l.length-1-j=i by omega];exact e1
 ·rw [if_neg c1];by_cases c2:i=t
  ·subst c2;rw [if_pos rfl,if_pos (by omega),if_pos (by omega),show l.length-1-i=j by omega];exact e2
  ·rw [if_neg c2,hg t ht];by_cases c3:t<i\/l.length<=t+i
   ·rw [if_pos c3,if_pos (by omega)]
   ·rw [if_neg c3,if_neg (by omega)]
end Go.Ev
namespace Go.Ev
open Go Go.Proofs
variable {B:Nat}
theorem pB (x:Int):Pure Tryz.prog B 261 [I x] (· = .bool false):=by
 intro p h nx K hK;refine zN zQ yh 9 fun hf => ?_;rw [aI.go];simp only [vg,decide_true,Zal];exact hK _ rfl hf
theorem zta (x y:Int):Pure Tryz.prog B 217 [I x,I y] (· = I (if x<y then -1 else if x=y then 0 else 1)):=by
 intro p h nx K hK;refine zN zQ yh 9 fun hf => ?_;rw [bT.go];refine pB x _ _ _ _ ?_;rintro _ rfl _;refine pB y _ _ _ _ ?_;rintro _ rfl _;simp only [zD,uq];by_cases c1:x<y
 ·simp only [c1,decide_true,zC];exact hK _ (by rw [if_pos c1]) hf
 ·simp only [c1,decide_false,zD,pz];by_cases c2:y<x
  ·simp only [c2,decide_true,zC];exact hK _ (by rw [if_neg c1,if_neg (by omega)]) hf
  ·simp only [c2,decide_false,zD];exact hK _ (by rw [if_neg c1,if_pos (by omega)]) hf
theorem vP {a b:List Int} (ha:a.length<=1000000) (hb:b.length<=1000000):Pure Tryz.prog B 161 [encI a,encI b] (· = I (cmpL a b)):=by
 intro p h nx K hK;refine zN zQ yh 10000000 fun hf => ?_;rw [jk.go];simp (disch:=omega) only [qj,rG,sV,fG,vg,uq,sW,pz,fO,zT,zY,zC,zD,y0,jF,y8,j5,y5,jD,jG,gY,gG,gF,gE,zG,jC,yN,zA,decide_true,decide_false,Zal,Zai,jH];refine jk.L1 (fun m z9 h' nx'=>∃ i:Nat,z9=I i/\a.length-i=m/\i<=a.length/\i<=b.length/\h'=h/\nx'=nx/\a.take i=b.take i) (m:=a.length) (by omega) ⟨0,rfl,rfl,by omega,by omega,rfl,rfl,rfl⟩ ?_;rintro m z2 z3 z4 z5 z6 z9 z10 z11 z12 _ _ R ⟨i,rfl,rfl,hi,hib,rfl,rfl,htk⟩ hR;have hsk:=dK i a b htk hi hib;simp (disch:=omega) only [qj,rG,sV,fG,vg,uq,sW,pz,fO,zT,zY,zC,zD,y0,jF,y8,j5,y5,jD,jG,gY,gG,gF,gE,zG,jC,yN,zA,decide_true,decide_false,Zal,Zai,jH];by_cases hlt:i<a.length
 ·simp only [show (i:Int)<(a.length:Int) by omega,decide_true,zC];have hx:a[i]? = some a[i]:=List.getElem?_eq_getElem hlt;have hda:a.drop i=a[i]::a.drop (i+1):=Zaq hlt;rw [xk rfl hlt,ldL (fP hx)];by_cases hb2:b.length<=i
  ·simp only [zG,fO,show (b.length:Int)<=(i:Int) by omega,decide_true,zC];refine hK _ ?_ hf;rw [hda,Zbu hb2,yS] at hsk;rw [cmpL,hsk,if_neg (by simp),if_neg (by rintro rfl;omega)]
  ·simp only [zG,fO,show ¬ (b.length:Int)<=(i:Int) by omega,decide_false,zD];have hxb:b[i]? = some b[i]:=List.getElem?_eq_getElem (by omega);have hdb:b.drop i=b[i]::b.drop (i+1):=Zaq (by omega);rw [xk rfl (by omega),ldL (fP hxb)];refine zta _ _ _ _ _ _ ?_;rintro _ rfl _;rw [hda,hdb,yS] at hsk;simp only [vg];by_cases c1:a[i]=b[i]
   ·have e0:(if a[i]<b[i] then (-1:Int) else if a[i]=b[i] then 0 else 1)=0:=by rw [if_neg (by omega),if_pos c1]
    rw [e0];simp only [decide_true,Zal,zD]
    try rw [qj (by omega)]
    refine hR _ _ _ _ _ _ _ _ _ _ _ _ (by omega) ⟨i+1,rfl,rfl,by omega,by omega,rfl,rfl,?_⟩;rw [Zar,Zar,htk,hx,hxb,c1]
   ·have e1:¬ (if a[i]<b[i] then (-1:Int) else if a[i]=b[i] then 0 else 1)=0:=by
     by_cases c:a[i]<b[i]
     ·rw [if_pos c];omega
     ·rw [if_neg c,if_neg c1];omega
    simp only [e1,decide_false,Zai,zC];refine hK _ ?_ hf;rw [if_neg c1] at hsk;rw [cmpL,hsk];by_cases c:a[i]<b[i]
    ·simp [c]
    ·rw [if_neg c,if_neg c1,if_neg (by simp [c]),if_neg (by rintro rfl;exact c1 rfl)]
 ·simp only [show ¬ (i:Int)<(a.length:Int) by omega,decide_false,zD];rw [jk.k9];simp (disch:=omega) only [qj,rG,sV,fG,vg,uq,sW,pz,fO,zT,zY,zC,zD,y0,jF,y8,j5,y5,jD,jG,gY,gG,gF,gE,zG,jC,yN,zA,decide_true,decide_false,Zal,Zai,jH];rw [Zbu (show a.length<=i by omega)] at hsk;by_cases c:a.length<b.length
  ·simp only [show (a.length:Int)<(b.length:Int) by omega,decide_true,zC];refine hK _ ?_ hf;have hd:b.drop i=b[i]::b.drop (i+1):=Zaq (by omega);rw [hd,yS] at hsk;rw [cmpL,hsk,if_pos rfl]
  ·simp only [show ¬ (a.length:Int)<(b.length:Int) by omega,decide_false,zD];refine hK _ ?_ hf;rw [Zbu (show b.length<=i by omega),yS] at hsk;have:a=b:=by
    rw [Zat (by omega),Zat (by omega)] at htk;exact htk
   rw [cmpL,hsk,if_neg (by simp),if_pos this]
theorem znv {a b:List Int} (ha:a.length<=1000000) (hb:b.length<=1000000):Pure Tryz.prog B 140 [encI a,encI b] (· = .bool (yS a b)):=by
 intro p h nx K hK;refine zN zQ yh 10000000 fun hf => ?_;rw [jg.go];refine jg.L1 (fun m z3 h' nx'=>∃ i:Nat,z3=I i/\a.length-i=m/\i<=a.length/\i<=b.length/\h'=h/\nx'=nx/\a.take i=b.take i) (m:=a.length) (by omega) ⟨0,rfl,rfl,by omega,by omega,rfl,rfl,rfl⟩ ?_;rintro m z2 z3 z4 z5 h1 nx1 R ⟨i,rfl,rfl,hi,hib,rfl,rfl,htk⟩ hR;have hsk:=dK i a b htk hi hib;simp (disch:=omega) only [qj,rG,sV,fG,vg,uq,sW,pz,fO,zT,zY,zC,zD,y0,jF,y8,j5,y5,jD,jG,gY,gG,gF,gE,zG,jC,yN,zA,decide_true,decide_false,Zal,Zai,jH];have out:(a.length<=i\/b.length<=i)->∀ w4,IR.run jg.b8 (CS Tryz.prog B) 10000000 (fnO jg.res K) (qw jg.res K) (jg.fr (encI a) (encI b) z2 (I i) w4 z5) h1 nx1=.ok True:=by
  intro ho w4;rw [jg.k8];simp (disch:=omega) only [qj,rG,sV,fG,vg,uq,sW,pz,fO,zT,zY,zC,zD,y0,jF,y8,j5,y5,jD,jG,gY,gG,gF,gE,zG,jC,yN,zA,decide_true,decide_false,Zal,Zai,jH];refine hK _ ?_ hf;rw [hsk];by_cases c1:b.length<=i
  ·rw [Zbu c1];have:yS (a.drop i) []=false:=by cases a.drop i <;> rfl
   rw [this,decide_eq_false (by omega)]
  ·rw [Zbu (show a.length<=i by omega),Zaq (show i<b.length by omega),yS,decide_eq_true (by omega)]
 by_cases hla:i<a.length
 case neg =>
  simp only [show ¬ (i:Int)<(a.length:Int) by omega,decide_false,j5,zY,zD];exact out (.inl (by omega)) _
 simp only [show (i:Int)<(a.length:Int) by omega,decide_true,y0,zG,uq,zT];by_cases hlb:i<b.length
 case neg =>
  simp only [show ¬ (i:Int)<(b.length:Int) by omega,decide_false,zD];exact out (.inr (by omega)) _
 simp only [show (i:Int)<(b.length:Int) by omega,decide_true,zC];have hx:a[i]? = some a[i]:=List.getElem?_eq_getElem hla;have hxb:b[i]? = some b[i]:=List.getElem?_eq_getElem hlb;rw [Zaq hla,Zaq hlb,yS] at hsk;rw [jg.k4,xk rfl hla,ldL (fP hx),xk rfl hlb,ldL (fP hxb)];simp only [vg];by_cases c:a[i]=b[i]
 ·simp only [c,decide_true,Zal,zD]
  try rw [qj (by omega)]
  refine hR _ _ _ _ _ _ _ (by omega) ⟨i+1,rfl,rfl,by omega,by omega,rfl,rfl,?_⟩;rw [Zar,Zar,htk,hx,hxb,c]
 ·simp only [c,decide_false,Zai,zC];rw [xk rfl hla,ldL (fP hx),xk rfl hlb,ldL (fP hxb)];simp only [uq];exact hK _ (by rw [hsk,if_neg c]) hf
def outR (x:Int):Bool:=decide (x < -999999999)||decide (999999999<x)
theorem zki {l:List Int} (hl:l.length<=1000000):Pure Tryz.prog B 160 [encI l] (· = .bool (l.any outR)):=by
 intro p h nx K hK;refine zN zQ yh 1000 fun hf => ?_;rw [aG.go];refine znu (pr:=outR) hl (fun x _ K hK => ?_) (hK _ rfl hf);refine gS (p:=.of 216) (K:=K) (zN zQ yh 9 fun hf => ?_) fun _ _ _ _ q=>q;show zP tbl 9 _ (Pa.of 216) [I x] _ _ _=_;rw [aH.go];unfold outR at hK;by_cases c:x < -999999999
 ·simp only [uq,c,decide_true,y8,zT];simpa [c] using hK
 ·simp only [uq,c,decide_false,jF,pz,zY];simpa [c] using hK
def jP (cells:Int) (f:List Int):Int:=if (f.length:Int)≠cells then 2 else if f.any outR then 3 else 0
theorem zvz {l:List Int}:∀ v∈l.map I,fF v=true:=fun v hv=>by obtain ⟨x,_,rfl⟩:=List.mem_map.1 hv;rfl
theorem zcl {h:T Blk} (a:AV) (l:List AV) (K:AV->OP):zF (.fp (a::l)) h K=K a:=nr rfl
theorem zkj {P:Program} {id:Pa} {args:List AV} {h:T Blk} {nx:Pa} {K:Kw Prop}:oW (CS P B) (.yld id) args h nx K=(CS P B).yld id args h nx K:=nr rfl
theorem Hp.tV {h0 h:T Blk} {nx:Pa} {L:List Ob} (H:Hp h0 h nx L) (e:Nat):Hp h0 h nx (.gro none e 0 []::L) :=
  ⟨H.keep,fun x hx=>by rcases List.mem_cons.1 hx with rfl | q;· exact ⟨rfl,rfl⟩
                       · exact H.own x q,fun n hn=>H.off n (by simpa [Ob.names] using hn),by have:=H.nd;simpa [Ob.names] using this,H.fr⟩
theorem vL {h0 h:T Blk} {nx:Pa} {L:List Ob} {id:Pa} {b:Blk} {k:Nat} (H:Hp h0 h nx L) (hk:L[k]? = some (.raw id b)):T.get .no id h=b:=(H.own _ (Zaa hk)).1
theorem Hp.zhu {h0 h:T Blk} {nx:Pa} {L:List Ob} {id:Pa} {b b':Blk} {k:Nat} (H:Hp h0 h nx L) (hk:L[k]? = some (.raw id b)) (hb:b'≠.no):Hp h0 (T.set .no b' id h) nx (L.set k (.raw id b')) :=
 H.upd hk (by simp [Ob.names]) rfl ⟨T.get_set_same _ _ _ _,hb⟩
theorem znw (op:KW3->OP) (h:T Blk) (nx:Pa) (k:KW3):sGW (.bool true) false op h nx k=k .undef h nx:=nr rfl
theorem zv0 (op:KW3->OP) (h:T Blk) (nx:Pa) (k:KW3):sGW (.bool false) false op h nx k=op k:=nr rfl
theorem zi6 (op:KW3->OP) (h:T Blk) (nx:Pa) (k:KW3):sGW (.bool true) true op h nx k=op k:=nr rfl
theorem znx (op:KW3->OP) (h:T Blk) (nx:Pa) (k:KW3):sGW (.bool false) true op h nx k=k .undef h nx:=nr rfl
theorem zfi (n:Int):Pure Tryz.prog B 79 [I n] (· = I (if n<0\/256<n then 3 else 0)):=by
 intro p h nx K hK;refine zN zQ yh 10 fun hf => ?_;rw [F79.go];simp only [uq];by_cases c:n<0
 ·simp only [c,decide_true,y8,zT,zC];exact hK _ (by rw [if_pos (.inl c)]) hf
 ·simp only [c,decide_false,jF,pz,zY];by_cases c2:256<n
  ·simp only [c2,decide_true,zC];exact hK _ (by rw [if_pos (.inr c2)]) hf
  ·simp only [c2,decide_false,zD];exact hK _ (by rw [if_neg (by omega)]) hf
def bf (l:List Int):Prop:=l.Nodup/\∀ x∈l,0<=x/\x<(l.length:Int)
def aX (n:Nat) (l:List Int):List Bool:=l.foldl (fun s x=>s.set x.toNat true) (List.replicate n false)
theorem zfj:∀ (l:List Int) (s:List Bool) (k:Nat),(∀ x∈l,0<=x)->k<s.length->(l.foldl (fun s x=>s.set x.toNat true) s)[k]? = some (s.getD k false||decide ((k:Int)∈l))
 | [],s,k,_,h=>by
  rw [List.foldl_nil,List.getElem?_eq_getElem h,Zab,List.getElem?_eq_getElem h];simp
 | x::l,s,k,hl,h=>by
  rw [Zce,zfj l _ k (fun y hy=>hl y (Zam _ hy)) (by simpa using h)];have h0:=hl x (Zaj ..)
  congr 1
  rw [Zab,Zab,List.getElem?_set];by_cases e:x.toNat=k
  ·have:(k:Int)=x:=by omega
   rw [if_pos e,if_pos (by omega)];simp [this]
  ·have:¬ (k:Int)=x:=by omega
   rw [if_neg e];simp [this]
theorem mL (n:Nat) (l:List Int):(aX n l).length=n:=by
 have:∀ (l:List Int) (s:List Bool),(l.foldl (fun s x=>s.set x.toNat true) s).length=s.length:=by
  intro l
  induction l with
  | nil=>intro s;rfl
  | cons x l ih=>intro s;rw [Zce,ih];simp
 rw [aX,this];simp
theorem zfk {n:Nat} {l:List Int} {k:Nat} (hl:∀ x∈l,0<=x) (hk:k<n):(aX n l)[k]? = some (decide ((k:Int)∈l)):=by
 rw [aX,zfj l _ k hl (by simpa using hk)]
 congr 1
 rw [Zab,List.getElem?_replicate,if_pos hk];simp
theorem zcm (n:Nat) (l:List Int) (x:Int):aX n (l++[x])=(aX n l).set x.toNat true:=by simp [aX]
def xOf (n:Nat) (c:Bool) (x:Int):Int:=if c then (n:Int)+1-x else x
def wC (n:Nat) (c:Bool) (g f:List Int) (i:Nat):List Int:=(List.range i).foldl (fun o k=>o.set (g.getD k 0).toNat (xOf n c (f.getD k 0))) (List.replicate n 0)
theorem qW (n:Nat) (c:Bool) (g f:List Int) (i:Nat):wC n c g f (i+1)=(wC n c g f i).set (g.getD i 0).toNat (xOf n c (f.getD i 0)):=by
 simp [wC,Zcf]
theorem jY (n:Nat) (c:Bool) (g f:List Int):∀ i,(wC n c g f i).length=n
 | 0=>by simp [wC]
 | i+1=>by rw [qW];simp [jY n c g f i]
def yI (c:Bool) (g f:List Int):List Int:=wC f.length c g f f.length
end Go.Ev
namespace Go.Ev
open Go
theorem sLdF {a:AV} {l:List AV} {h:T Blk} {K:AV->OP}:zF (.fp (a::l)) h K=K a:=nr rfl
theorem u7 {a b:AV} {l:List AV} {h:T Blk} {K:AV->OP}:zI 2 (.fp (a::b::l)) h K=K (.agg [a,b]):=nr rfl
end Go.Ev
namespace Go.Ev
def zi7 (y:List Nat) (i k:Nat):List Nat:=y.set i ((y.getD i 0+k)%256)
def addL (y:List Nat) (idx:List Nat) (k:Nat):List Nat:=idx.foldl (fun y i=>zi7 y i k) y
@[simp] theorem zpz (y:List Nat) (i k:Nat):(zi7 y i k).length=y.length:=by simp [zi7]
@[simp] theorem zrl (idx:List Nat) (k:Nat):∀ y:List Nat,(addL y idx k).length=y.length:=by
 induction idx with
 | nil=>intro y;rfl
 | cons i l ih=>intro y;show (addL (zi7 y i k) l k).length=_;rw [ih];simp
def blk (x:List Nat) (idx:List Nat) (n:Nat):Nat->List (List Nat)
 | 0=>[]
 | j+1=>List.replicate n (addL x idx j)++blk x idx n j
theorem zkk {n:Nat} {seen:List Nat} (nd:seen.Nodup) (h1:∀ i∈seen,i<n) (h2:∀ i,i<n->i∈seen):seen.Perm (List.range n):=by
 rw [List.perm_iff_count];intro a;rw [nd.count,List.nodup_range.count];by_cases e:a<n
 ·rw [if_pos (h2 a e),if_pos (by simpa using e)]
 ·rw [if_neg fun q=>e (h1 a q),if_neg (by simpa using e)]
def fill (most:Nat):Nat->List (List Nat)
 | 0=>[[]]
 | n+1=>(fill most n).flatMap fun x=>(List.range (most+1)).map fun k=>x++[k]
def gC (fr:Nat) (f:List Nat) (c:Int):Nat:=if (fr:Int)<=c then f.getD (c-fr).toNat 0 else 0
def con (fr:Nat) (f:List Nat) (l:List Int):Nat:=(l.map (gC fr f)).sum
end Go.Ev
namespace Go.Ev
open Go Go.Proofs
variable {B:Nat}
theorem zi8 {N:Pa->Prop} {O:AV->Prop} {hh:T Blk} {l:List AV} (h:∀ v∈l,fF v=true):Frz True N O hh (.agg l) (.agg l) :=
 .agg _ _ rfl (List.all_eq_true.2 fun v hv=>fF.jd (h v hv)) fun i v v' h1 h2=>by rw [h1] at h2;cases h2;exact zJ (h v (Zaa h1))
abbrev Sym:=List Int×Bool
abbrev encS (g:Sym):AV:=.agg [encI g.1,.bool g.2]
def yR (G:List Sym):List AV:=G.flatMap fun g=>[encI g.1,.bool g.2]
abbrev qo (G:List Sym):AV:=.lst 2 G.length (yR G)
theorem dO:∀ (q:List Sym) (i:Nat),(yR q).drop (i*2)=yR (q.drop i)
 | q,0=>by simp
 | [],i+1=>by simp [yR]
 | p::q,i+1=>by
  rw [List.drop_succ_cons,<- dO q i,show (i+1)*2=i*2+1+1 by omega]
  rfl
theorem yW {q:List Sym} {i:Nat} (h:i<q.length):(yR q).drop (i*2)=encI q[i].1::.bool q[i].2::(yR q).drop ((i+1)*2):=by
 rw [dO,dO,Zaq h];rfl
instance (l:List Int):Decidable (bf l):=by unfold bf;infer_instance
def gJ (l:List Int):Int:=if 256<l.length then 5 else if bf l then 0 else 14
theorem zp0 {l:List Int} (hl:l.length<=100000):Pure Tryz.prog B 139 [encI l] (· = I (gJ l)):=by
 refine yM fun h nx K H0 hK=>zN zQ yh 1000000 fun hf => ?_;rw [yx.go];simp only [zG,pz];by_cases c:(256:Int)<(l.length:Int)
 ·simp only [c,decide_true,zC];exact hK _ _ _ _ _ H0 (zJ rfl) (by rw [gJ,if_pos (by omega)])
 have hpe:gJ l=if bf l then 0 else 14:=by rw [gJ,if_neg (by omega)]
 simp only [c,decide_false,zD];refine H0.mk1 l.length rfl rfl (by omega) (by decide) fun tb h1 nx1 H1 => ?_;have e0:List.replicate l.length (AV.bool false)=(aX l.length []).map AV.bool:=by simp [aX]
 rw [e0] at H1
 refine yx.L2 (fun m x3 h' nx'=>∃ i:Nat,x3=I i/\m=l.length-i/\i<=l.length/\(l.take i).Nodup/\(∀ x∈l.take i,0<=x/\x<(l.length:Int))/\Hp h h' nx' [.arr tb ((aX l.length (l.take i)).map AV.bool)]) (m:=l.length) (by omega)
  ⟨0,rfl,by omega,by omega,by simp,by simp,by simpa using H1⟩ ?_
 rintro m x1 x3 x5 x6 h2 nx2 R ⟨i,rfl,rfl,hi,hnd,hrg,H2⟩ hR;simp only [zG,uq];by_cases hlt:i<l.length
 case neg =>
  simp only [show ¬ (i:Int)<(l.length:Int) by omega,decide_false,zD];rw [yx.k10];rw [Zat (by omega)] at hnd hrg;exact hK _ _ _ _ _ H2 (zJ rfl) (by rw [hpe,if_pos ⟨hnd,hrg⟩])
 simp only [show (i:Int)<(l.length:Int) by omega,decide_true,zC];have hx:l[i]? = some l[i]:=List.getElem?_eq_getElem hlt;have bad:¬ bf l->K (I 14) h2 nx2=.ok True:=fun q=>hK _ _ _ _ _ H2 (zJ rfl) (by rw [hpe,if_neg q]);have hrange:bf l->0<=l[i]/\l[i]<(l.length:Int):=fun q=>q.2 _ (Zah hlt);rw [xk rfl hlt,ldL (fP hx)];by_cases c1:l[i]<0
 ·simp only [uq,c1,decide_true,y8,zT,zC];exact bad fun q=>by have:=hrange q;omega
 simp only [uq,c1,decide_false,jF];rw [xk rfl hlt,ldL (fP hx)];simp only [zG,fO,zY];by_cases c2:(l.length:Int)<=l[i]
 ·simp only [c2,decide_true,y8,zT,zC];exact bad fun q=>by have:=hrange q;omega
 simp only [c2,decide_false,jF];have hk:(l[i]).toNat<l.length:=by omega
 have hg:((aX l.length (l.take i)).map AV.bool)[(l[i]).toNat]? = some (.bool (decide (l[i]∈l.take i))):=by
  rw [List.getElem?_map,zfk (fun x hx=>(hrg x hx).1) hk,show (((l[i]).toNat:Nat):Int)=l[i] by omega];rfl
 rw [xk rfl hlt,ldL (fP hx),sIx (i:=(l[i]).toNat) (by omega) hk,H2.load (k:=0) rfl hg];simp only [zY];by_cases c3:l[i]∈l.take i
 ·simp only [c3,decide_true,zC];refine bad fun q => ?_;obtain ⟨j,hj⟩:=List.mem_iff_getElem?.1 c3;have hjl:=(List.getElem?_eq_some_iff.1 hj).1;rw [Zbm] at hjl;rw [List.getElem?_take_of_lt (by omega)] at hj;obtain ⟨a1,a2⟩:=List.getElem?_eq_some_iff.1 hj;exact List.pairwise_iff_getElem.1 q.1 j i a1 hlt (by omega) a2
 simp only [c3,decide_false,zD];rw [yx.k8,xk rfl hlt,ldL (fP hx),sIx (i:=(l[i]).toNat) (by omega) hk];refine H2.store (k:=0) rfl (by rw [Zas,mL];exact hk) rfl fun h3 H3 => ?_;rw [yx.k9,qj (by omega)];have htk:l.take (i+1)=l.take i++[l[i]]:=by rw [Zar,hx];rfl
 refine hR _ _ _ _ _ _ _ (by omega) ⟨i+1,rfl,rfl,by omega,?_,?_,H3.cast ?_⟩
 ·rw [htk];exact List.nodup_append.2 ⟨hnd,by simp,fun a ha b hb=>by simp at hb;subst hb;rintro rfl;exact c3 ha⟩
 ·intro x hm;rw [htk] at hm;rcases List.mem_append.1 hm with q | q
  ·exact hrg x q
  ·simp at q;subst q;omega
 ·rw [htk,zcm];simp [List.map_set]
def gD (g:List Int) (n:Int):Int:=if n<0\/256<n then 3 else if (g.length:Int)≠n then 2 else if bf g then 0 else 14
theorem ztb {g:List Int} {c:Bool} {n:Int}:Pure Tryz.prog B 80 [.agg [encI g,.bool c],I n] (· = I (gD g n)):=by
 refine yM fun h nx K H0 hK=>zN zQ yh 1000 fun hf => ?_;rw [F80.go];refine H0.box (l:=[encI g,.bool c]) rfl fun bx h1 nx1 H1 => ?_;refine zfi n _ _ _ _ ?_;rintro _ rfl _;simp only [vg];by_cases c1:n<0\/256<n
 ·simp only [if_pos c1];exact hK _ _ _ _ _ H1 (zJ rfl) (by rw [gD,if_pos c1])
 simp only [if_neg c1,decide_true,Zal,zD,sFx];rw [H1.load (k:=0) (i:=0) rfl rfl];simp only [zG,vg];by_cases c2:(g.length:Int)=n
 case neg =>
  simp only [c2,decide_false,Zai,zC];exact hK _ _ _ _ _ H1 (zJ rfl) (by rw [gD,if_neg c1,if_pos c2])
 simp only [c2,decide_true,Zal,zD];rw [H1.load (k:=0) (i:=0) rfl rfl];refine zp0 (by omega) _ _ _ _ ?_;rintro _ rfl _;exact hK _ _ _ _ _ H1 (zJ rfl) (by rw [gD,if_neg c1,if_neg (by simp [c2]),gJ,if_neg (by omega)])
def uZ (p q:List Int):List Int:=q.map fun c=>p.getD c.toNat 0
def yK (a b:Sym):Sym:=(uZ a.1 b.1,a.2 != b.2)
theorem zbm {p q:List Int} {i:Nat} {x:Int} (h:q[i]? = some x):uZ p (q.take (i+1))=uZ p (q.take i)++[p.getD x.toNat 0]:=by
 rw [uZ,Zar,h,Zbh];rfl
theorem zhv {p q:List Int} (hq:∀ x∈q,0<=x/\x<(p.length:Int)) (hl:q.length<=100000):Pure Tryz.prog B 142 [encI p,encI q] (· = .lst 1 q.length ((uZ p q).map I)):=by
 refine yM fun h nx K H0 hK=>zN zQ yh 1000000 fun hf => ?_;rw [gq.go];refine gq.L1 (fun m x3 x4 h' nx'=>∃ (i:Nat) (o:Option Pa),x4=I i/\x3=wz o 1 i/\q.length-i=m/\i<=q.length/\Hp h h' nx' [.gro o 1 i ((uZ p (q.take i)).map I)]) (m:=q.length) (by omega) ⟨0,none,rfl,rfl,rfl,by omega,H0.tV 1⟩ ?_;rintro m z3 z4 z5 h1 nx1 R ⟨i,o,rfl,rfl,rfl,hi,H1⟩ hR;simp only [zG,uq];by_cases hlt:i<q.length
 ·simp only [show (i:Int)<(q.length:Int) by omega,decide_true,zC];have hx:q[i]? = some q[i]:=List.getElem?_eq_getElem hlt;have hb:=hq _ (Zah hlt);have hy:p[q[i].toNat]? = some (p.getD q[i].toNat 0):=by
   rw [Zab,List.getElem?_eq_getElem (show q[i].toNat<p.length by omega)];rfl
  rw [xk rfl hlt,ldL (fP hx),xk (i:=q[i].toNat) (by omega) (by omega),ldL (fP hy)];refine H1.yg (l:=[I (p.getD q[i].toNat 0)]) rfl fun tb h2 nx2 H2 => ?_;refine H2.appN (k:=1) (o:=o) (c:=1) (new:=[I (p.getD q[i].toNat 0)]) rfl (je.rd (l:=[I (p.getD q[i].toNat 0)]) (n:=1) (H2.own _ (Zaj ..)) rfl) rfl rfl (by decide) (by decide) (by omega) fun o' h3 nx3 _ H3 => ?_;rw [qj (by omega)];refine hR _ _ _ _ _ _ (by omega) ⟨i+1,o',rfl,rfl,rfl,by omega,?_⟩;rw [zbm hx,Zbh];exact H3.drop
 ·simp only [show ¬ (i:Int)<(q.length:Int) by omega,decide_false,zD];obtain rfl:i=q.length:=by omega
  rw [Zat (by omega)] at H1;rw [gq.k8];exact hK _ _ _ _ _ H1 (H1.zd0 (k:=0) rfl (by intro v hv;obtain ⟨x,_,rfl⟩:=List.mem_map.1 hv;rfl)) rfl
theorem zfl {a b:Bool} {K:AV->OP}:zk .neq .bool (.bool a) (.bool b) K=K (.bool (a != b)):=by cases a <;> cases b <;> exact nr rfl
theorem zv1 {a b:Bool} {K:AV->OP}:zk .eql .bool (.bool a) (.bool b) K=K (.bool (a==b)):=by cases a <;> cases b <;> exact nr rfl
theorem zhw {a b:Sym} (hq:∀ x∈b.1,0<=x/\x<(a.1.length:Int)) (hl:b.1.length<=100000):Pure Tryz.prog B 83 [encS a,encS b] (· = encS (yK a b)):=by
 refine yM fun h nx K H0 hK=>zN zQ yh 1000 fun hf => ?_;rw [F83.go];refine H0.box (l:=[encI a.1,.bool a.2]) rfl fun b1 h1 nx1 H1 => ?_;refine H1.box (l:=[encI b.1,.bool b.2]) rfl fun b2 h2 nx2 H2 => ?_;refine H2.alloc fun r h3 nx3 H3 => ?_;simp only [sFx];rw [H3.load (k:=2) (i:=0) rfl rfl,H3.load (k:=1) (i:=0) rfl rfl,H3.load (k:=2) (i:=0+1) rfl rfl,H3.load (k:=1) (i:=0+1) rfl rfl,zfl];refine zhv hq hl _ _ _ _ ?_;rintro _ rfl _;rw [zfl];simp only [zA];rw [H3.load (k:=1) (i:=0+1) rfl rfl];simp only [zA];rw [H3.load (k:=2) (i:=0+1) rfl rfl];simp only [zA];have eb:∀ K:AV->OP,uH [.zf,(.bool false)] [(0,1,.lst 1 b.1.length ((uZ a.1 b.1).map I)),(1,1,.bool (a.2 != b.2))] K=K (.agg [.lst 1 b.1.length ((uZ a.1 b.1).map I),.bool (a.2 != b.2)]):=fun K=>nr rfl;rw [eb];refine H3.uw (k:=0) (n:=2) rfl rfl rfl fun h4 H4 => ?_;rw [H4.zi (k:=0) (n:=2) rfl rfl];have e:AV.lst 1 b.1.length ((uZ a.1 b.1).map I)=encI (uZ a.1 b.1):=by simp [encI,uZ]
 rw [e];refine hK _ _ _ _ _ H4 (zi8 fun v hv => ?_) rfl;simp only [Zag,List.not_mem_nil,or_false] at hv;rcases hv with rfl | rfl
 ·exact wO _
 ·rfl
theorem zp1 {a b:Sym} (ha:a.1.length<=1000000):Pure Tryz.prog B 141 [encS a,encS b] (· = .bool (decide (a=b))):=by
 refine yM fun h nx K H0 hK=>zN zQ yh 1000 fun hf => ?_;rw [aJ.go];refine H0.box (l:=[encI a.1,.bool a.2]) rfl fun b1 h1 nx1 H1 => ?_;refine H1.box (l:=[encI b.1,.bool b.2]) rfl fun b2 h2 nx2 H2 => ?_;simp only [sFx];rw [H2.load (k:=1) (i:=0+1) rfl rfl,H2.load (k:=0) (i:=0+1) rfl rfl,zv1];by_cases c:a.2=b.2
 ·simp only [c,beq_self_eq_true,y0];rw [H2.load (k:=1) (i:=0) rfl rfl,H2.load (k:=0) (i:=0) rfl rfl,zi6];refine zbk (by omega) _ _ _ _ ?_;rintro _ rfl _;rw [zT];refine hK _ _ _ _ _ H2 (zJ rfl) ?_
  congr 1
  refine decide_eq_decide.2 ⟨fun q=>Prod.ext q c,fun q=>by rw [q]⟩
 ·have e:(a.2==b.2)=false:=by simpa using c
  rw [e];simp only [j5,znx,zY];refine hK _ _ _ _ _ H2 (zJ rfl) ?_;rw [decide_eq_false fun q=>c (by rw [q])]
theorem zny {G:List Sym} {a:Sym} (hG:G.length<=1000000) (hw:∀ g∈G,g.1.length<=1000000):Pure Tryz.prog B 82 [qo G,encS a] (fun v=>∃ r:Int,v=I r/\(r<0↔a∉G)):=by
 refine yM fun h nx K H0 hK=>zN zQ yh 10000000 fun hf => ?_;rw [F82.go];refine H0.box (l:=[encI a.1,.bool a.2]) rfl fun b1 h1 nx1 H1 => ?_;refine F82.L1 (fun m x4 h' nx'=>∃ i:Nat,x4=I i/\G.length-i=m/\i<=G.length/\h'=h1/\nx'=nx1/\a∉G.take i) (m:=G.length) (by omega) ⟨0,rfl,rfl,by omega,rfl,rfl,by simp⟩ ?_;rintro m z3 z4 z5 z6 h1 nx1 R ⟨i,rfl,rfl,hi,rfl,rfl,hn⟩ hR;simp only [zG,uq];by_cases hlt:i<G.length
 case neg =>
  simp only [show ¬ (i:Int)<(G.length:Int) by omega,decide_false,zD];rw [F82.k8];rw [Zat (by omega)] at hn;exact hK _ _ _ _ _ H1 (zJ rfl) ⟨-1,rfl,by simp [hn]⟩
 simp only [show (i:Int)<(G.length:Int) by omega,decide_true,zC];have hx:G[i]? = some G[i]:=List.getElem?_eq_getElem hlt;rw [xk rfl hlt,yW hlt,u7,H1.zi (k:=0) (n:=2) rfl rfl];refine zp1 (a:=G[i]) (b:=a) (hw _ (Zah hlt)) _ _ _ _ ?_;rintro _ rfl _;by_cases c:G[i]=a
 ·rw [decide_eq_true c,zC];refine hK _ _ _ _ _ H1 (zJ rfl) ⟨i,rfl,?_⟩;have:a∈G:=c ▸ Zah hlt;exact ⟨fun q=>by omega,fun q=>absurd this q⟩
 ·rw [decide_eq_false c,zD,qj (by omega)];refine hR _ _ _ _ _ _ _ (by omega) ⟨i+1,rfl,rfl,by omega,rfl,rfl,fun q => ?_⟩;rw [Zar,hx] at q;rcases List.mem_append.1 q with q | q
  ·exact hn q
  ·simp at q;exact c q.symm
def sH (a b:Sym):Bool:=if a.1=b.1 then !a.2&&b.2 else yS a.1 b.1
theorem zkl {a b:Sym} (ha:a.1.length<=1000000) (hb:b.1.length<=1000000):Pure Tryz.prog B 81 [encS a,encS b] (· = .bool (sH a b)):=by
 refine yM fun h nx K H0 hK=>zN zQ yh 1000 fun hf => ?_;rw [F81.go];refine H0.box (l:=[encI a.1,.bool a.2]) rfl fun b1 h1 nx1 H1 => ?_;refine H1.box (l:=[encI b.1,.bool b.2]) rfl fun b2 h2 nx2 H2 => ?_;simp only [sFx];rw [H2.load (k:=1) (i:=0) rfl rfl,H2.load (k:=0) (i:=0) rfl rfl];refine zbk (by omega) _ _ _ _ ?_;rintro _ rfl _;by_cases c:a.1=b.1
 ·rw [decide_eq_true c,zC,H2.load (k:=1) (i:=0+1) rfl rfl];have e:sH a b=(!a.2&&b.2):=if_pos c;rw [y5];cases h2':a.2 with
  | true =>
   simp only [Zal,j5,zY];exact hK _ _ _ _ _ H2 (zJ rfl) (by rw [e,h2'];rfl)
  | false =>
   simp only [Zai,y0];rw [H2.load (k:=0) (i:=0+1) rfl rfl,zT];exact hK _ _ _ _ _ H2 (zJ rfl) (by rw [e,h2'];rfl)
 ·rw [decide_eq_false c,zD,H2.load (k:=1) (i:=0) rfl rfl,H2.load (k:=0) (i:=0) rfl rfl];refine znv ha hb _ _ _ _ ?_;rintro _ rfl _;exact hK _ _ _ _ _ H2 (zJ rfl) (by rw [sH,if_neg c])
def jA (n:Int):List Sym->Int
 | []=>0
 | g::G=>if gD g.1 n≠0 then gD g.1 n else jA n G
def rJ:List Sym->Bool
 | []=>true
 | [_]=>true
 | a::b::G=>sH a b&&rJ (b::G)
def clG (G:List Sym):Bool:=G.all fun a=>G.all fun b=>decide (yK a b∈G)
def yL (G:List Sym) (n:Int):Int:=if n<0\/256<n then 3 else if G.length=0 then 12 else if 1536<G.length then 5 else if jA n G≠0 then jA n G else if rJ G=false then 11 else if clG G=false then 28 else 0
theorem dX {n:Int} {G:List Sym} {i:Nat} (h:i<G.length):jA n (G.drop i)=if gD G[i].1 n≠0 then gD G[i].1 n else jA n (G.drop (i+1)):=by
 rw [Zaq h];rfl
theorem qD {n:Int}:∀ {G:List Sym},jA n G=0->∀ g∈G,gD g.1 n=0
 | [],_,g,h=>by simp at h
 | a::G,h,g,hg=>by
  rw [jA] at h;by_cases c:gD a.1 n=0
  ·rw [if_neg (by simp [c])] at h;rcases List.mem_cons.1 hg with rfl | q
   ·exact c
   ·exact qD h g q
  ·rw [if_pos c] at h;exact absurd h c
theorem uN {g:List Int} {n:Int} (h:gD g n=0):(0<=n/\n<=256)/\(g.length:Int)=n/\bf g:=by
 rw [gD] at h;by_cases c1:n<0\/256<n
 ·rw [if_pos c1] at h;cases h
 rw [if_neg c1] at h;by_cases c2:(g.length:Int)=n
 ·rw [if_neg (by simp [c2])] at h;by_cases c3:bf g
  ·exact ⟨by omega,c2,c3⟩
  ·rw [if_neg c3] at h;cases h
 ·rw [if_pos c2] at h;cases h
theorem zcn {G:List Sym} {i:Nat} (h:i+1<G.length):rJ (G.drop i)=(sH G[i] G[i+1]&&rJ (G.drop (i+1))):=by
 rw [Zaq (show i<G.length by omega),Zaq h,rJ]
theorem zfm {G:List Sym} {i:Nat} (h:G.length<=i+1):rJ (G.drop i)=true:=by
 have:(G.drop i).length<=1:=by rw [List.length_drop];omega
 cases hd:G.drop i with
 | nil=>rfl
 | cons a l =>
  rw [hd] at this;cases l with
  | nil=>rfl
  | cons b l=>simp at this
theorem zfn {G:List Sym} {n:Int} (hG:G.length<=100000):Pure Tryz.prog B 31 [qo G,I n] (· = I (yL G n)):=by
 refine yM fun h nx K H0 hK=>zN zQ yh 10000000 fun hf => ?_;have ret:∀ v:Int,v=yL G n->K (I v) h nx=.ok True:=fun v hv=>by rw [hv];exact hK _ _ _ _ _ H0 (zJ rfl) rfl
 rw [F31.go];refine zfi n _ _ _ _ ?_;rintro _ rfl _;by_cases c1:n<0\/256<n
 ·simp only [if_pos c1,vg,show ¬ (3:Int)=0 by decide,decide_false,Zai,zC];exact ret 3 (by rw [yL,if_pos c1])
 simp only [if_neg c1,vg,decide_true,Zal,zD,zG,fG];by_cases c2:G.length=0
 ·simp only [show (G.length:Int)=0 by omega,decide_true,zC];exact ret 12 (by rw [yL,if_neg c1,if_pos c2])
 simp only [show ¬ (G.length:Int)=0 by omega,decide_false,zD,zG,pz];by_cases c3:1536<G.length
 ·simp only [show (1536:Int)<(G.length:Int) by omega,decide_true,zC];exact ret 5 (by rw [yL,if_neg c1,if_neg c2,if_pos c3])
 simp only [show ¬ (1536:Int)<(G.length:Int) by omega,decide_false,zD];have e0:yL G n=if jA n G≠0 then jA n G else if rJ G=false then 11 else if clG G=false then 28 else 0:=by rw [yL,if_neg c1,if_neg c2,if_neg c3]
 refine F31.L4 (fun m x3 h' nx'=>∃ i:Nat,x3=I i/\G.length-i=m/\i<=G.length/\h'=h/\nx'=nx/\jA n G=jA n (G.drop i)) (m:=G.length) (by omega) ⟨0,rfl,rfl,by omega,rfl,rfl,rfl⟩ ?_;rintro m z2 z3 z4 z11 z12 h nx R ⟨i,rfl,rfl,hi,rfl,rfl,hs⟩ hR;simp only [zG,uq];by_cases hlt:i<G.length
 ·simp only [show (i:Int)<(G.length:Int) by omega,decide_true,zC];rw [xk rfl hlt,yW hlt,u7];refine ztb _ _ _ _ ?_;rintro _ rfl _;rw [dX hlt] at hs;simp only [vg];by_cases c:gD G[i].1 n=0
  ·simp only [c,decide_true,Zal,zD];rw [if_neg (by simp [c])] at hs;rw [qj (by omega)];exact hR _ _ _ _ _ _ _ _ (by omega) ⟨i+1,rfl,rfl,by omega,rfl,rfl,hs⟩
  ·simp only [c,decide_false,Zai,zC];rw [if_pos c] at hs;exact ret _ (by rw [e0,hs,if_pos c])
 simp only [show ¬ (i:Int)<(G.length:Int) by omega,decide_false,zD];rw [Zbu (by omega)] at hs;have hs:jA n G=0:=hs;rw [if_neg (by simp [hs])] at e0;have hok:=qD hs
 clear hR
 rw [F31.k11];refine F31.L12 (fun m x5 h' nx'=>∃ i:Nat,x5=I (i+1:Nat)/\G.length-i=m/\i<=G.length/\h'=h/\nx'=nx/\rJ G=rJ (G.drop i)) (m:=G.length) (by omega) ⟨0,rfl,rfl,by omega,rfl,rfl,rfl⟩ ?_;rintro m z2 z5 z13 z14 h nx R ⟨i,rfl,rfl,hi,rfl,rfl,ho⟩ hR;simp only [zG,uq];by_cases hlt:i+1<G.length
 ·simp only [show ((i+1:Nat):Int)<(G.length:Int) by omega,decide_true,zC];rw [rG (by omega),xk (i:=i) (by omega) (by omega),yW (show i<G.length by omega),u7,xk rfl hlt,yW hlt,u7];have w1:=(uN (hok _ (Zah (show i<G.length by omega)))).2.1;have w2:=(uN (hok _ (Zah hlt))).2.1;refine zkl (a:=G[i]) (b:=G[i+1]) (by omega) (by omega) _ _ _ _ ?_;rintro _ rfl _;rw [zcn hlt] at ho;rw [y5];cases c:sH G[i] G[i+1] with
  | true =>
   rw [c,Bool.true_and] at ho;simp only [Zal,zD];rw [qj (by omega)];exact hR _ _ _ _ _ _ _ (by omega) ⟨i+1,rfl,rfl,by omega,rfl,rfl,ho⟩
  | false =>
   rw [c,Bool.false_and] at ho;simp only [Zai,zC];exact ret 11 (by rw [e0,if_pos ho])
 simp only [show ¬ ((i+1:Nat):Int)<(G.length:Int) by omega,decide_false,zD];rw [zfm (by omega)] at ho;rw [if_neg (by simp [ho])] at e0
 clear hR
 rw [F31.k19];refine F31.L20 (fun m x6 h' nx'=>∃ i:Nat,x6=I i/\G.length-i=m/\i<=G.length/\h'=h/\nx'=nx/\∀ a∈G.take i,∀ b∈G,yK a b∈G) (m:=G.length) (by omega) ⟨0,rfl,rfl,by omega,rfl,rfl,by simp⟩ ?_;rintro m z2 z6 z7 z15 z16 z17 h nx R ⟨i,rfl,rfl,hi,rfl,rfl,hcl⟩ hR;simp only [zG,uq];by_cases hlt:i<G.length
 case neg =>
  simp only [show ¬ (i:Int)<(G.length:Int) by omega,decide_false,zD];rw [Zat (by omega)] at hcl;rw [F31.k34];have:clG G=true:=by
   rw [clG,Zae];intro a ha;rw [Zae];exact fun b hb=>decide_eq_true (hcl a ha b hb)
  exact ret 0 (by rw [e0,if_neg (by simp [this])])
 simp only [show (i:Int)<(G.length:Int) by omega,decide_true,zC];have hx:G[i]? = some G[i]:=List.getElem?_eq_getElem hlt;refine F31.L26 (fun m x7 h' nx'=>∃ k:Nat,x7=I k/\G.length-k=m/\k<=G.length/\h'=h/\nx'=nx/\∀ b∈G.take k,yK G[i] b∈G) (m:=G.length) (by omega) ⟨0,rfl,rfl,by omega,rfl,rfl,by simp⟩ ?_;rintro m y2 y7 y16 y17 h nx R2 ⟨k,rfl,rfl,hk,rfl,rfl,hck⟩ hR2;simp only [zG,uq];by_cases hkt:k<G.length
 case neg =>
  simp only [show ¬ (k:Int)<(G.length:Int) by omega,decide_false,zD];rw [Zat (by omega)] at hck;rw [F31.k33,qj (by omega)];refine hR _ _ _ _ _ _ _ _ _ (by omega) ⟨i+1,rfl,rfl,by omega,rfl,rfl,fun a ha b hb => ?_⟩;rw [Zar,hx] at ha;rcases List.mem_append.1 ha with q | q
  ·exact hcl a q b hb
  ·simp at q;rw [q];exact hck b hb
 simp only [show (k:Int)<(G.length:Int) by omega,decide_true,zC];have hy:G[k]? = some G[k]:=List.getElem?_eq_getElem hkt;obtain ⟨i1,i2,i3⟩:=uN (hok _ (Zah hlt));obtain ⟨k1,k2,k3⟩:=uN (hok _ (Zah hkt));rw [xk rfl hlt,yW hlt,u7,xk rfl hkt,yW hkt,u7];refine zhw (a:=G[i]) (b:=G[k]) (fun x hx'=>by have:=k3.2 x hx';omega) (by omega) _ _ _ _ ?_;rintro _ rfl _;simp only [zA];refine zny (a:=yK G[i] G[k]) (by omega) (fun g hg=>by have:=(uN (hok g hg)).2.1;omega) _ _ _ _ ?_;rintro _ ⟨r,rfl,hr⟩ _;simp only [uq];by_cases c:r<0
 ·simp only [c,decide_true,zC];have hn:=hr.1 c;refine ret 28 ?_;have:clG G=false:=by
   cases q:clG G with
   | false=>rfl
   | true =>
    rw [clG,Zae] at q;have q1:=q _ (Zah hlt);rw [Zae] at q1;exact absurd (of_decide_eq_true (q1 _ (Zah hkt))) hn
  rw [e0,if_pos this]
 ·simp only [c,decide_false,zD];have hin:yK G[i] G[k]∈G:=by
   by_cases q:yK G[i] G[k]∈G
   ·exact q
   ·exact absurd (hr.2 q) c
  rw [qj (by omega)];refine hR2 _ _ _ _ _ _ _ (by omega) ⟨k+1,rfl,rfl,by omega,rfl,rfl,fun b hb => ?_⟩;rw [Zar,hy] at hb;rcases List.mem_append.1 hb with q | q
  ·exact hck b q
  ·simp at q;rw [q];exact hin
end Go.Ev
namespace Go.Proofs
open Go.Shelf Go.Lib
def uh:List Int->List Int->Int
 | [],[]=>0
 | [],_::_ => -1
 | _::_,[]=>1
 | x::xs,y::ys=>if x<y then -1 else if y<x then 1 else uh xs ys
theorem pB (x:Int) (w:World):Calls Tryz.prog 261 #[.int .i64 x] w fun e w'=>e=.returned (.bool false)/\w'=w:=by
 have t3:=Tryz.underlying3;have a3:=Tryz.isAgg3;have z3:=Tryz.sizeOf3;have v3:=Tryz.zeroValue3;have t4:=Tryz.underlying4;have a4:=Tryz.isAgg4;have z4:=Tryz.sizeOf4;have v4:=Tryz.zeroValue4
 go_enter Tryz.func261,Tryz.ntmps261
 go_wp2
 go_ret
 exact ⟨by simp,rfl⟩
set_option maxHeartbeats 2000000 in
set_option maxRecDepth 100000 in
theorem zhx (x y:Int) (w:World):Calls Tryz.prog 217 #[.int .i64 x,.int .i64 y] w fun e w'=>e=.returned (.int .i64 (Lib.compareInt x y))/\w'=w:=by
 have t3:=Tryz.underlying3;have a3:=Tryz.isAgg3;have z3:=Tryz.sizeOf3;have v3:=Tryz.zeroValue3;have t4:=Tryz.underlying4;have a4:=Tryz.isAgg4;have z4:=Tryz.sizeOf4;have v4:=Tryz.zeroValue4
 go_enter Tryz.func217,Tryz.ntmps217
 go_wp2_with (go_at_call 261;refine (pB _ _).mono ?_;rintro e w' ⟨rfl,hw⟩;rw [hw])
 all_goals (go_ret;refine ⟨?_,rfl⟩;unfold Lib.compareInt;(repeat' split) <;> first | rfl | (exfalso;omega))
end Go.Proofs
namespace Go.Proofs
open Go.Shelf Go.Lib Go.RowKit
theorem zkm {xs ys:List Int} {k:Nat} {x y:Int} (hx:k<xs.length) (hy:k<ys.length) (ex:xs[k]! = x) (ey:ys[k]! = y):uh (xs.drop k) (ys.drop k)=if x<y then -1 else if y<x then 1 else uh (xs.drop (k+1)) (ys.drop (k+1)):=by
 rw [List.drop_eq_getElem_cons hx,List.drop_eq_getElem_cons hy];rw [getElem!_pos xs k hx] at ex;rw [getElem!_pos ys k hy] at ey;rw [ex,ey,uh]
theorem zkn {xs ys:List Int} {k:Nat} (hx:xs.length<=k):uh (xs.drop k) (ys.drop k)=if ys.length<=k then 0 else -1:=by
 rw [List.drop_eq_nil_of_le hx];by_cases h:ys.length<=k
 ·rw [if_pos h,List.drop_eq_nil_of_le h,uh]
 ·rw [if_neg h,List.drop_eq_getElem_cons (by omega),uh]
theorem zko {xs ys:List Int} {k:Nat} (hx:k<xs.length) (hy:ys.length<=k):uh (xs.drop k) (ys.drop k)=1:=by
 rw [List.drop_eq_nil_of_le hy,List.drop_eq_getElem_cons hx,uh]
set_option maxHeartbeats 2000000 in
set_option maxRecDepth 100000 in
theorem zhy (p1 p2:Option Addr) (n c m d:Nat) (xs ys:List Int) (w:World) (hn:n=xs.length) (hm:m=ys.length) (hbig:n<=1000000) (hbig2:m<=1000000)
  (hc1:n=0\/∃ b1 o1,p1=some ⟨b1,o1,none⟩/\∀ j,j<n->w.cell? ⟨b1,o1+j,none⟩=some (.int .i64 xs[j]!)) (hc2:m=0\/∃ b2 o2,p2=some ⟨b2,o2,none⟩/\∀ j,j<m->w.cell? ⟨b2,o2+j,none⟩=some (.int .i64 ys[j]!)) :
  Calls Tryz.prog 161 #[.slice p1 n c,.slice p2 m d] w fun e w'=>e=.returned (.int .i64 (uh xs ys))/\∃ q,w'=w.drewN q:=by
 have H1:Aside (n=0\/∃ b1 o1,p1=some ⟨b1,o1,none⟩/\∀ j,j<n->w.cell? ⟨b1,o1+j,none⟩=some (.int .i64 xs[j]!)):=hc1;have H2:Aside (m=0\/∃ b2 o2,p2=some ⟨b2,o2,none⟩/\∀ j,j<m->w.cell? ⟨b2,o2+j,none⟩=some (.int .i64 ys[j]!)):=hc2
 clear hc1 hc2
 have mixed:Tryz.prog.follows .mixedOrders=true:=by kernel_rfl
 have t0:=Tryz.underlying0;have a0:=Tryz.isAgg0;have z0:=Tryz.sizeOf0;have v0:=Tryz.zeroValue0;have t3:=Tryz.underlying3;have a3:=Tryz.isAgg3;have z3:=Tryz.sizeOf3;have v3:=Tryz.zeroValue3;have t4:=Tryz.underlying4;have a4:=Tryz.isAgg4;have z4:=Tryz.sizeOf4;have v4:=Tryz.zeroValue4;have t46:=Tryz.underlying38;have a46:=Tryz.isAgg38;have z46:=Tryz.sizeOf38;have v46:=Tryz.zeroValue38;have A0:Aside (n=xs.length/\m=ys.length):=⟨hn,hm⟩
 clear hn hm
 go_enter Tryz.func161,Tryz.ntmps161
 go_wp2
 go_loopg [11] n (fun g s11 wr=>∃ k q:Nat,k<=n/\k<=m/\n-k<=g/\s11=.int .i64 k/\wr=w.drewN q/\Aside (uh (xs.drop k) (ys.drop k)=uh xs ys))
 case atStart=>exact ⟨0,0,Nat.zero_le _,Nat.zero_le _,by omega,rfl,rfl,rfl⟩
 case round =>
  obtain ⟨k,q,hk,hkm,hg,rfl,rfl,A⟩:=hrel;by_cases hlt:k<n
  ·by_cases hlm:k<m
   ·obtain ⟨b1,o1,rfl,hc1⟩:=H1.out.resolve_left (by omega);obtain ⟨b2,o2,rfl,hc2⟩:=H2.out.resolve_left (by omega)
    clear H1 H2
    have g1:w.cell? ⟨b1,o1+k,none⟩=some (.int .i64 xs[k]!):=hc1 k hlt;have g2:w.cell? ⟨b2,o2+k,none⟩=some (.int .i64 ys[k]!):=hc2 k hlm
    clear hc1 hc2
    generalize hxk:xs[k]! = x at g1
    generalize hyk:ys[k]! = y at g2
    have B:Aside (xs[k]! = x/\ys[k]! = y):=⟨hxk,hyk⟩
    clear hxk hyk
    obtain ⟨r,C,hcon⟩:∃ r,Aside (r = -1/\x<y\/r=1/\y<x\/r=0/\x=y)/\∀ w,Calls Tryz.prog 217 #[.int .i64 x,.int .i64 y] w fun e w'=>e=.returned (.int .i64 r)/\w'=w :=
     ⟨Lib.compareInt x y,(show Aside _ from by
      unfold Aside Lib.compareInt;by_cases c1:x<y
      ·rw [if_pos c1];exact .inl ⟨rfl,c1⟩
      ·rw [if_neg c1];by_cases c2:y<x
       ·simp [c2]
       ·have:x=y:=by omega
        simp [this]),fun w=>zhx x y w⟩
    have D:=zkm (A0.out.1 ▸ hlt) (A0.out.2 ▸ hlm) B.out.1 B.out.2;have D':Aside (uh (xs.drop k) (ys.drop k)=if x<y then -1 else if y<x then 1 else uh (xs.drop (k+1)) (ys.drop (k+1))):=D
    clear D
    by_cases hr:r=0
    ·subst hr
     go_wp2_with (go_at_call 217;refine (hcon _).mono ?_;rintro e w' ⟨rfl,hw⟩;rw [hw])
     go_roundg (n-(k+1))
     case measure=>omega
     case rel =>
      refine ⟨k+1,q,by omega,by omega,by omega,by go_num,rfl,(show Aside _ from ?_)⟩;rcases C.out with ⟨c,_⟩ | ⟨c,_⟩ | ⟨_,rfl⟩
      ·omega
      ·omega
      ·have:=D'.out;rw [if_neg (by omega),if_neg (by omega)] at this;exact this.symm.trans A.out
    ·go_wp2_with (go_at_call 217;refine (hcon _).mono ?_;rintro e w' ⟨rfl,hw⟩;rw [hw])
     go_ret
     refine ⟨?_,q,rfl⟩;rw [<- A.out,D'.out];rcases C.out with ⟨rfl,c⟩ | ⟨rfl,c⟩ | ⟨c,_⟩
     ·rw [if_pos c];rfl
     ·rw [if_neg (show ¬ x<y by omega),if_pos c];rfl
     ·exact absurd c hr
   ·have D:Aside (uh (xs.drop k) (ys.drop k)=1):=zko (A0.out.1 ▸ hlt) (by have:=A0.out.2;omega);obtain ⟨b1,o1,rfl,hc1⟩:=H1.out.resolve_left (by omega)
    clear H1 H2
    have g1:w.cell? ⟨b1,o1+k,none⟩=some (.int .i64 xs[k]!):=hc1 k hlt
    clear hc1
    generalize hxk:xs[k]! = x at g1
    have hmk:m<=k:=by omega
    go_wp2
    go_ret
    refine ⟨?_,q,rfl⟩;rw [<- A.out,D.out];rfl
  ·have hkn:k=n:=by omega
   have D:Aside (uh (xs.drop k) (ys.drop k)=if ys.length<=k then 0 else -1):=zkn (by have:=A0.out.1;omega)
   clear H1 H2
   by_cases hlm:k<m
   ·have D':Aside (uh (xs.drop k) (ys.drop k) = -1):=D.out.trans (if_neg (by have:=A0.out.2;omega))
    go_wp2
    go_ret
    refine ⟨?_,q,rfl⟩;rw [<- A.out,D'.out];rfl
   ·have D':Aside (uh (xs.drop k) (ys.drop k)=0):=D.out.trans (if_pos (by have:=A0.out.2;omega))
    go_wp2
    go_ret
    refine ⟨?_,q,rfl⟩;rw [<- A.out,D'.out];rfl
end Go.Proofs
namespace Go.Proofs
theorem wJ (x:Int) (xs:List Int) (y:Int) (ys:List Int):uh (x::xs) (y::ys)=if x<y then -1 else if y<x then 1 else uh xs ys:=by rw [uh]
theorem xR:∀ a b:List Int,uh b a = - uh a b
 | [],[]=>by rw [uh];rfl
 | [],_::_=>by rw [uh,uh];rfl
 | _::_,[]=>by rw [uh,uh]
 | x::xs,y::ys=>by
  rw [wJ,wJ,xR xs ys];by_cases h:x<y
  ·simp only [if_pos h,if_neg (show ¬ y<x by omega)];rfl
  ·rw [if_neg h];by_cases g:y<x
   ·simp only [if_pos g,if_neg h]
   ·simp only [if_neg g,if_neg h]
theorem qT:∀ {a b:List Int},uh a b=0->a=b
 | [],[],_=>rfl
 | [],_::_,h=>by rw [uh] at h;omega
 | _::_,[],h=>by rw [uh] at h;omega
 | x::xs,y::ys,h=>by
  rw [wJ] at h;by_cases c:x<y
  ·rw [if_pos c] at h;omega
  ·rw [if_neg c] at h;by_cases g:y<x
   ·rw [if_pos g] at h;omega
   ·rw [if_neg g] at h;rw [qT h,show x=y by omega]
theorem kU (a:List Int):uh a a=0:=by have:=xR a a;omega
theorem q8:∀ {a b c:List Int},uh a b<=0->uh b c<=0->uh a c<=0
 | [],_,[],_,_=>by rw [uh];omega
 | [],_,_::_,_,_=>by rw [uh];omega
 | _::_,[],_,h,_=>by rw [uh] at h;omega
 | x::xs,y::ys,[],_,h=>by rw [uh] at h;omega
 | x::xs,y::ys,z::zs,h,g=>by
  rw [wJ] at h g ⊢;by_cases c1:x<y
  ·by_cases c2:y<z
   ·rw [if_pos (by omega)];omega
   ·rw [if_neg c2] at g;by_cases c3:z<y
    ·rw [if_pos c3] at g;omega
    ·rw [if_pos (by omega)];omega
  ·rw [if_neg c1] at h;by_cases c4:y<x
   ·rw [if_pos c4] at h;omega
   ·rw [if_neg c4] at h;by_cases c2:y<z
    ·rw [if_pos (by omega)];omega
    ·rw [if_neg c2] at g;by_cases c3:z<y
     ·rw [if_pos c3] at g;omega
     ·rw [if_neg c3] at g;rw [if_neg (by omega),if_neg (by omega)];exact q8 h g
theorem jJ {a b c:List Int} (h:uh a b<0) (g:uh b c<0):uh a c<0:=by
 have:=q8 (Int.le_of_lt h) (Int.le_of_lt g);by_cases e:uh a c=0
 ·have:=qT e;subst this;have:=xR a b;omega
 ·omega
end Go.Proofs
namespace Go.Ev
open Go.Proofs
structure zfo (A:List (List Int×Nat)) (M:List (List Int)):Prop where
 srt:A.Pairwise fun a b=>uh a.1 b.1<0
 cnt:∀ p∈A,p.2=M.count p.1/\0<p.2
 all:∀ y∈M,∃ p∈A,p.1=y
theorem zfo.mem {A:List (List Int×Nat)} {M:List (List Int)} (T:zfo A M) (p:List Int×Nat):p∈A↔p.2=M.count p.1/\0<p.2:=by
 refine ⟨T.cnt p,fun ⟨h1,h2⟩ => ?_⟩;have hm:p.1∈M:=List.count_pos_iff.1 (by omega);obtain ⟨q,hq,e⟩:=T.all _ hm;have:=(T.cnt q hq).1;have:q=p:=by
  refine Prod.ext e ?_;rw [this,e,h1]
 exact this ▸ hq
theorem zfo.nil:zfo [] []:=⟨.nil,by simp,by simp⟩
def cntT (A:List (List Int×Nat)) (y:List Int):Nat:=(A.map fun p=>if p.1=y then p.2 else 0).sum
theorem mE {y:List Int}:∀ {A:List (List Int×Nat)},(∀ q∈A,q.1≠y)->cntT A y=0
 | [],_=>rfl
 | a::A,h=>by
  have:=mE (y:=y) (A:=A) fun q hq=>h q (by simp [hq]);simp only [cntT,List.map_cons,List.sum_cons] at this ⊢;rw [if_neg (h a (by simp)),this]
theorem zfp:∀ {A:List (List Int×Nat)},A.Pairwise (fun a b=>uh a.1 b.1<0)->∀ p∈A,cntT A p.1=p.2
 | [],_,p,h=>by cases h
 | a::A,hA,p,h=>by
  rw [Zbz] at hA;simp only [cntT,List.map_cons,List.sum_cons];rcases List.mem_cons.1 h with e | e
  ·subst e;rw [if_pos rfl];have:cntT A p.1=0:=mE fun q hq e=>by
    have:=hA.1 q hq;rw [e,kU] at this;omega
   rw [cntT] at this;omega
  ·have h1:=hA.1 p e;rw [if_neg (fun e=>by rw [e,kU] at h1;omega)];have:=zfp hA.2 p e;rw [cntT] at this;omega
theorem znz {A:List (List Int×Nat)} {y:List Int} (h:0<cntT A y):∃ p∈A,p.1=y:=by
 by_cases c:∃ p∈A,p.1=y
 ·exact c
 ·have:=mE (A:=A) (y:=y) fun q hq e=>c ⟨q,hq,e⟩;omega
structure Tab (A:List (List Int×Nat)) (M:List (List Int)):Prop where
 srt:A.Pairwise fun a b=>uh a.1 b.1<0
 cnt:∀ y,cntT A y=M.count y
 pos:∀ p∈A,0<p.2
theorem Tab.is {A:List (List Int×Nat)} {M:List (List Int)} (T:Tab A M):zfo A M:={
 srt:=T.srt
 cnt p hp:=⟨by rw [<- T.cnt,zfp T.srt p hp],T.pos p hp⟩
 all y hy:=znz (by rw [T.cnt];exact List.count_pos_iff.2 hy) }
theorem Tab.nil:Tab [] []:=⟨.nil,fun _=>rfl,by simp⟩
theorem Tab.perm {A:List (List Int×Nat)} {M M':List (List Int)} (T:Tab A M) (h:M.Perm M'):Tab A M':=⟨T.srt,fun y=>(T.cnt y).trans (h.count_eq y),T.pos⟩
theorem u5:∀ a b:List Int,yS a b=decide (uh a b<0)
 | [],[]=>by rw [yS,uh];rfl
 | [],_::_=>by rw [yS,uh];rfl
 | _::_,[]=>by rw [yS,uh];rfl
 | x::xs,y::ys=>by
  rw [yS,wJ,u5 xs ys];by_cases e:x=y
  ·subst e;rw [if_pos rfl,if_neg (show ¬ x<x by omega),if_neg (show ¬ x<x by omega)]
  ·rw [if_neg e];by_cases g:x<y
   ·simp only [if_pos g,g,decide_true];rfl
   ·rw [if_neg g,if_pos (show y<x by omega)];simp only [g,decide_false];rfl
end Go.Ev
namespace Go.Ev
open Go Go.Proofs
variable {B:Nat}
theorem zn0 {g f:List Int} {c:Bool} (hl:f.length<=1000) (hg:g.length=f.length) (hp:bf g) (hf:∀ x∈f, -1000000000<=x/\x<=1000000000):Pure Tryz.prog B 163 [.agg [encI g,.bool c],encI f] (· = encI (yI c g f)):=by
 refine yM fun h nx K H0 hK=>zN zQ yh 10000 fun hf' => ?_;rw [jo.go];refine H0.box (l:=[encI g,.bool c]) rfl fun bx h1 nx1 H1 => ?_;simp only [zG];refine H1.mk1 f.length rfl rfl (by omega) (by decide) fun tb h2 nx2 H2 => ?_;have e0:List.replicate f.length (I 0)=(wC f.length c g f 0).map I:=by simp [wC]
 rw [e0] at H2
 refine jo.L1 (fun m x9 h' nx'=>∃ i:Nat,x9=I i/\m=f.length-i/\i<=f.length/\Hp h h' nx' [.arr tb ((wC f.length c g f i).map I),.arr bx [encI g,.bool c]]) (m:=f.length) (by omega)
  ⟨0,rfl,by omega,by omega,H2⟩ ?_
 rintro m x5 x6 x9 x10 x11 h3 nx3 R ⟨i,rfl,rfl,hi,H3⟩ hR;simp only [zG,uq];by_cases hlt:i<f.length
 case neg =>
  simp only [show ¬ (i:Int)<(f.length:Int) by omega,decide_false,zD];rw [jo.k9];obtain rfl:i=f.length:=by omega
  have hal:=jY f.length c g f f.length;refine hK _ _ _ _ _ H3 (H3.zba (k:=0) rfl (Zaf _) (by simp [hal]) zvz) ?_;show _=AV.lst 1 _ _;rw [yI,hal]
 simp only [show (i:Int)<(f.length:Int) by omega,decide_true,zC];have hx:f[i]? = some f[i]:=List.getElem?_eq_getElem hlt;have hgx:g[i]? = some g[i]:=List.getElem?_eq_getElem (by omega);have hgb:=hp.2 _ (Zah (show i<g.length by omega));have hfb:=hf _ (Zah hlt);have hfd:f.getD i 0=f[i]:=by rw [Zab,hx];rfl
 have hgd:g.getD i 0=g[i]:=by rw [Zab,hgx];rfl
 rw [xk rfl hlt,ldL (fP hx),sFx,H3.load (k:=1) (i:=0+1) rfl rfl];cases c with
 | true =>
  simp only [zC];rw [qj (by omega),rG (by omega),sFx,H3.load (k:=1) (i:=0) rfl rfl,xk rfl (by omega),ldL (fP hgx),sIx (i:=(g[i]).toNat) (by omega) (by omega)];refine H3.store (k:=0) rfl (by rw [Zas,jY];omega) rfl fun h4 H4 => ?_;rw [qj (by omega)];refine hR _ _ _ _ _ _ _ _ (by omega) ⟨i+1,rfl,rfl,by omega,H4.cast ?_⟩;rw [qW,hfd,hgd];simp [List.map_set,xOf]
 | false =>
  simp only [zD];rw [sFx,H3.load (k:=1) (i:=0) rfl rfl,xk rfl (by omega),ldL (fP hgx),sIx (i:=(g[i]).toNat) (by omega) (by omega)];refine H3.store (k:=0) rfl (by rw [Zas,jY];omega) rfl fun h4 H4 => ?_;rw [qj (by omega)];refine hR _ _ _ _ _ _ _ _ (by omega) ⟨i+1,rfl,rfl,by omega,H4.cast ?_⟩;rw [qW,hfd,hgd];simp [List.map_set,xOf]
theorem xC (a:List Int):yS a a=false:=by rw [u5,kU];rfl
theorem m0 (a b:List Int):cmpL a b<0↔yS a b=true:=by
 unfold cmpL;cases h:yS a b with
 | true=>simp
 | false =>
  rw [if_neg (by simp)];split <;> simp
theorem pJ (a b:List Int):cmpL a b=0↔a=b:=by
 unfold cmpL;cases h:yS a b with
 | true =>
  simp;rintro rfl;rw [xC] at h;cases h
 | false =>
  rw [if_neg (by simp)];split
  ·simp [*]
  ·simp [*]
theorem ztc {n:Nat} {K:AV->OP} (h:n<=1000000):(vV .u64 (I (n:Int)) fun v3=>zk .shr .int v3 (.int .u64 1) fun v4=>vV .i64 v4 K)=K (I ((n / 2:Nat):Int)):=by
 have e1:∀ K:AV->OP,vV .u64 (I (n:Int)) K=K (Wd n):=fun K=>by
  show qp (kK .u64 (n:Int)) (fun z=>K (.int .u64 z))=_;rw [uF,kZ,zvq (by omega)]
 have e2:∀ K:AV->OP,zk .shr .int (Wd n) (.int .u64 1) K=K (Wd (n / 2)):=fun K=>by
  have e:zk .shr .int (Wd n) (.int .u64 1) K=(bif ilt (1:Int) 0 then Out.no 5 else qp ((n:Int).fdiv (2 ^ (min (1:Int).toNat IntKind.u64.bits))) fun z=>K (.int .u64 z)):=rfl;rw [e,show ilt (1:Int) 0=false from rfl,cond_false,uF,show IntKind.u64.bits=64 from rfl,show min (1:Int).toNat 64=1 from rfl,Int.fdiv_eq_ediv_of_nonneg _ (by omega)]
  congr 2
 rw [e1,e2];show qp (kK .i64 ((n / 2:Nat):Int)) (fun z=>K (.int .i64 z))=_;rw [uF,kZ,kQ (by omega)]
def Ord (l:List (List Int)):Prop:=l.Pairwise fun a b=>yS a b=true
theorem zhz {l:List (List Int)} {t:List Int} (ho:Ord l) (hl:l.length<=100000) (hw:∀ q∈l,q.length<=1000000) (ht:t.length<=1000000):Pure Tryz.prog B 218 [cZ l,encI t,.fn 161 (.of 161) []] (fun v=>∃ r:Nat,v=.tup [I r,.bool (decide (t∈l))]/\(t∈l->l[r]? = some t)):=by
 intro p h nx K hK;refine zN zQ yh 10000000 fun hf => ?_;rw [uo.go];simp only [zG];have hp:=List.pairwise_iff_getElem.1 ho;refine uo.L1 (fun m x6 x7 h' nx'=>∃ i j:Nat,x6=I i/\x7=I j/\j-i=m/\i<=j/\j<=l.length/\h'=h/\nx'=nx/\(∀ k q,k<i->l[k]? = some q->yS q t=true)/\(∀ k q,j<=k->l[k]? = some q->yS q t=false)) (m:=l.length) (by omega) ⟨0,l.length,rfl,rfl,by omega,by omega,by omega,rfl,rfl,fun k q hk=>by omega,fun k q hk hq=>by have:=(List.getElem?_eq_some_iff.1 hq).1;omega⟩ ?_;rintro m z6 z7 z8 z9 z10 h nx R ⟨i,j,rfl,rfl,rfl,hij,hj,rfl,rfl,hlo,hhi⟩ hR;simp only [uq];by_cases hlt:i<j
 case neg =>
  simp only [show ¬ (i:Int)<(j:Int) by omega,decide_false,zD];obtain rfl:i=j:=by omega
  rw [uo.k6];simp only [uq];have fin:t∈l->l[i]? = some t:=fun hm=>by
   obtain ⟨q,hq⟩:=List.mem_iff_getElem?.1 hm;have h1:i<=q:=by
    by_cases c:i<=q
    ·exact c
    ·have:=hlo q t (by omega) hq;rw [xC] at this;cases this
   by_cases c:i=q
   ·rw [c];exact hq
   ·have hql:=(List.getElem?_eq_some_iff.1 hq).1;have hi':l[i]? = some l[i]:=List.getElem?_eq_getElem (by omega);have h2:=hhi i _ (Zaf _) hi';have h3:=hp i q (by omega) hql (by omega);rw [(List.getElem?_eq_some_iff.1 hq).2] at h3;rw [h3] at h2;cases h2
  by_cases hil:i<l.length
  ·simp only [show (i:Int)<(l.length:Int) by omega,decide_true,y0];have hx:l[i]? = some l[i]:=List.getElem?_eq_getElem hil;rw [xk rfl hil,ldL (getT hx),zi6,zbc];refine vP (hw _ (Zah hil)) ht _ _ _ _ ?_;rintro _ rfl _;simp only [fG,zT];refine hK _ ⟨i,?_,fin⟩ hf
   congr 3
   rw [AV.bool.injEq];refine decide_eq_decide.2 ⟨fun q => ?_,fun q => ?_⟩
   ·rw [<- (pJ _ _).1 q];exact Zah hil
   ·rw [hx] at fin;exact (pJ _ _).2 (Option.some.inj (fin q))
  ·simp only [show ¬ (i:Int)<(l.length:Int) by omega,decide_false,j5,znx,zY];refine hK _ ⟨i,?_,fin⟩ hf;have:t∉l:=fun hm=>by
    have:=(List.getElem?_eq_some_iff.1 (fin hm)).1;omega
   rw [decide_eq_false this]
 simp only [show (i:Int)<(j:Int) by omega,decide_true,zC];rw [qj (by omega),show (i:Int)+(j:Int)=((i+j:Nat):Int) by omega,ztc (by omega)]
 generalize hmid:(i+j) / 2=c
 have hc:c<l.length:=by omega
 have hx:l[c]? = some l[c]:=List.getElem?_eq_getElem hc;rw [xk rfl hc,ldL (getT hx),zbc];refine vP (hw _ (Zah hc)) ht _ _ _ _ ?_;rintro _ rfl _;simp only [uq];by_cases cn:cmpL l[c] t<0
 ·simp only [cn,decide_true,zC];have hlex:=(m0 _ _).1 cn;rw [qj (by omega),show (c:Int)+1=((c+1:Nat):Int) by omega];refine hR _ _ _ _ _ _ _ _ (by omega) ⟨c+1,j,rfl,rfl,rfl,by omega,hj,rfl,rfl,fun k q hk hq => ?_,hhi⟩;by_cases e:k=c
  ·subst e;rw [hx] at hq;rw [<- Option.some.inj hq];exact hlex
  ·obtain ⟨hk',hq'⟩:=List.getElem?_eq_some_iff.1 hq;have h3:=hp k c hk' hc (by omega);rw [hq'] at h3;rw [u5] at h3 hlex ⊢;exact decide_eq_true (jJ (of_decide_eq_true h3) (of_decide_eq_true hlex))
 ·simp only [cn,decide_false,zD];have hlex:yS l[c] t=false:=by
   cases q:yS l[c] t with
   | false=>rfl
   | true=>exact absurd ((m0 _ _).2 q) cn
  refine hR _ _ _ _ _ _ _ _ (by omega) ⟨i,c,rfl,rfl,rfl,by omega,by omega,rfl,rfl,hlo,fun k q hk hq => ?_⟩;by_cases e:k=c
  ·subst e;rw [hx] at hq;rw [<- Option.some.inj hq];exact hlex
  ·obtain ⟨hk',hq'⟩:=List.getElem?_eq_some_iff.1 hq;have h3:=hp c k hc hk' (by omega);rw [hq'] at h3;cases q':yS q t with
   | false=>rfl
   | true =>
    rw [u5] at h3 q' hlex;have:=jJ (of_decide_eq_true h3) (of_decide_eq_true q');exact absurd this (of_decide_eq_false hlex)
theorem zp2 {l:List (List Int)} {t:List Int} (ho:Ord l) (hl:l.length<=100000) (hw:∀ q∈l,q.length<=1000000) (ht:t.length<=1000000):Pure Tryz.prog B 162 [cZ l,encI t,.fn 161 (.of 161) []] (fun v=>∃ r:Nat,v=.tup [I r,.bool (decide (t∈l))]/\(t∈l->l[r]? = some t)):=by
 intro p h nx K hK;refine zN zQ yh 100 fun hf => ?_;rw [aK.go];refine zhz ho hl hw ht _ _ _ _ ?_;rintro _ ⟨r,rfl,hr⟩ _;simp only [jD,jG];exact hK _ ⟨r,rfl,hr⟩ hf
end Go.Ev
namespace Go.Ev
open Go Go.Proofs Go.RowKit
theorem HR.below {P:Program} {B:Nat} {E:Env} {h:T Blk} {nx:Pa} {w w':World} (H:HR P B E h nx w) (hb:Below w.heap.size w w'):HR P B E h nx w'/\Ex E E w w':=by
 refine ⟨{
  blk:=fun id hid=>by
   obtain ⟨b,n,o,q1,q2,q3⟩:=H.blk id hid;exact ⟨b,n,o,q1,by rw [hb.block b (H.lt _ _ _ q1).2];exact q2,q3⟩
  inj:=H.inj
  fresh:=H.fresh
  lt:=fun id b n hid=>⟨(H.lt id b n hid).1,Zcd (H.lt id b n hid).2 hb.size⟩
  base:=Zbp H.base hb.size
  frz:=fun b i v hf=>by
   obtain ⟨⟨c,ty,fr,q1,q2⟩,q3⟩:=H.frz b i v hf;exact ⟨⟨c,ty,fr,by rw [hb.block b (Array.getElem?_eq_some_iff.1 q1).1];exact q1,q2⟩,q3⟩ },?_⟩
 exact ⟨.refl _,hb.os,hb.tape,hb.output,hb.size,fun b hlt _=>hb.block b hlt,fun id b n hid=>.inr ⟨id,n,hid⟩,fun _ _ v h=>.inr (.inl ⟨v,h⟩),fun b L hL=>⟨L,by rw [hb.block b (Array.getElem?_eq_some_iff.1 hL).1];exact hL,.refl _⟩⟩
end Go.Ev
namespace Go.Ev
open Go.Proofs
def shr (lines:List (List Int)) (f:List Nat):List Int:=lines.map fun l=>((con 0 f l:Nat):Int)
end Go.Ev
namespace Go.Ev
open Go Go.Proofs
variable {B:Nat}
theorem zn1 {k:IntKind} {x:Nat} {K:AV->OP}:vV .u8 (.int k (x:Int)) K=K (u8 (x%256)):=by
 show qp (kK .u8 (x:Int)) (fun z=>K (.int .u8 z))=_;rw [uF,kZ,IntKind.wrap_u8];have:u8 (x%256)=.int .u8 ((x:Int)%256):=by unfold u8;congr 1
 rw [this]
theorem Hp.swap {h0 h:T Blk} {nx:Pa} {a b:Ob} {L:List Ob} (H:Hp h0 h nx (a::b::L)):Hp h0 h nx (b::a::L):=H.perm (.swap _ _ _)
theorem zp3 {h0 h:T Blk} {nx:Pa} {L:List Ob} {o:Option Pa} {n k:Nat} {l l':List AV} (H:Hp h0 h nx L) (hk:L[k]? = some (.gro o 1 n l)) (hl:l'.length=l.length) (hs:l'.all jd=true) (hf:∀ (i:Nat) (v v':AV),l[i]? = some v->l'[i]? = some v'->rF h0 h v v'):rF h0 h (wz o 1 n) (.lst 1 n l'):=by
 have own:=H.own _ (Zaa hk);have hoff:=H.off;cases o with
 | none =>
  obtain ⟨rfl,rfl⟩:=own;obtain rfl:l'=[]:=by simpa using hl
  exact .za7 1
 | some id =>
  obtain ⟨t,h1,h2,h3⟩:=own;refine .sl _ _ _ _ _ true _ t _ (hoff id (List.mem_flatMap.2 ⟨_,Zaa hk,by simp [Ob.names]⟩)) trivial h1 (by omega) (by rw [hl];exact h2) hs fun i v hi => ?_;have hil:i<l.length:=by rw [<- hl];exact (List.getElem?_eq_some_iff.1 hi).1
  have:=zV t 0 (n*1) i (by rw [<- h2];exact hil);rw [h3,List.getElem?_eq_getElem hil] at this;rw [<- Option.some.inj this];exact hf i _ _ (List.getElem?_eq_getElem hil) hi
end Go.Ev
namespace Go.Ev
structure zco (n:Nat) (to:List Int):Prop where
 len:to.length=n
 nd:to.Nodup
 rg:∀ x∈to,0<=x/\x<(n:Int)
theorem subP {α:Type} [DecidableEq α]:∀ (l r:List α),l.Nodup->(∀ x∈l,x∈r)->∃ s,r.Perm (l++s)
 | [],r,_,_=>⟨r,.refl _⟩
 | a::l,r,hn,hs=>by
  obtain ⟨h1,h2⟩:=List.nodup_cons.1 hn;have ha:=hs a (by simp);obtain ⟨s,hp⟩:=subP l (r.erase a) h2 fun x hx=>(List.mem_erase_of_ne (by rintro rfl;exact h1 hx)).2 (hs x (by simp [hx]));exact ⟨s,(List.perm_cons_erase ha).trans (.cons a hp)⟩
theorem eqP {α:Type} [DecidableEq α] {l r:List α} (h1:l.Nodup) (h2:∀ x∈l,x∈r) (h3:r.length<=l.length):r.Perm l:=by
 obtain ⟨s,hs⟩:=subP l r h1 h2;have hl:=hs.length_eq;obtain rfl:s=[]:=Zbc (by rw [Zan] at hl;omega);simpa using hs
theorem zco.at {n:Nat} {to:List Int} (h:zco n to) {i:Nat} (hi:i<n):to[i]? = some (to.getD i 0):=by
 rw [Zab,List.getElem?_eq_getElem (by rw [h.len];exact hi)];rfl
theorem zco.inj {n:Nat} {to:List Int} (h:zco n to) {i j:Nat} (hi:i<n) (hj:j<n) (e:to.getD i 0=to.getD j 0):i=j:=by
 obtain ⟨a1,a2⟩:=List.getElem?_eq_some_iff.1 (h.at hi);obtain ⟨b1,b2⟩:=List.getElem?_eq_some_iff.1 (h.at hj);have hp:=List.pairwise_iff_getElem.1 h.nd;rcases Nat.lt_trichotomy i j with c | c | c
 ·exact absurd (a2.trans (e.trans b2.symm)) (hp i j a1 b1 c)
 ·exact c
 ·exact absurd (b2.trans (e.symm.trans a2.symm)) (hp j i b1 a1 c)
theorem zco.surj {n:Nat} {to:List Int} (h:zco n to) {j:Nat} (hj:j<n):∃ i,i<n/\to.getD i 0=(j:Int):=by
 have hp:((List.range n).map fun (i:Nat)=>(i:Int)).Perm to:=eqP h.nd (fun x hx=>by
  have:=h.rg x hx;exact List.mem_map.2 ⟨x.toNat,List.mem_range.2 (by omega),by omega⟩) (by simp [h.len])
 have hm:(j:Int)∈to:=hp.mem_iff.1 (List.mem_map.2 ⟨j,List.mem_range.2 hj,rfl⟩);obtain ⟨i,hi⟩:=List.mem_iff_getElem?.1 hm;have hil:=(List.getElem?_eq_some_iff.1 hi).1;refine ⟨i,by rw [<- h.len];exact hil,?_⟩;rw [Zab,hi];rfl
end Go.Ev
namespace Go.Ev
open Go Go.Proofs
variable {B:Nat}
def mkL (n:Nat) (to line:List Int) (k:Nat):List Bool:=(List.range n).map fun c:Nat=>(line.take k).any fun x=>decide (to.getD x.toNat 0=(c:Int))
@[simp] theorem ztd (n:Nat) (to line:List Int) (k:Nat):(mkL n to line k).length=n:=by simp [mkL]
theorem zcp (o:Option Pa) (e n:Nat):jd (wz o e n)=true:=by cases o <;> rfl
noncomputable def zbn (ns:List Pa) (h:T Blk):T Blk:=ns.foldl (fun h n=>T.set .no .no n h) h
theorem zbo:∀ (ns:List Pa) (h:T Blk) (j:Pa),(j∈ns\/T.get .no j h=.no)->T.get .no j (zbn ns h)=.no
  | [],h,j,q=>by rcases q with q | q;· simp at q
                 · exact q
  | n::ns,h,j,q=>by
    show T.get .no j (zbn ns (T.set .no .no n h))=_;refine zbo ns _ j ?_;by_cases e:j=n
    · subst e;exact .inr (T.get_set_same _ _ _ _)
    · rcases q with q | q
      · rcases List.mem_cons.1 q with q | q
        · exact absurd q e
        · exact .inl q
      · exact .inr (by rw [T.zx _ _ _ _ _ e];exact q)
theorem zcq:∀ (ns:List Pa) (h:T Blk) (j:Pa),j∉ns->T.get .no j (zbn ns h)=T.get .no j h
 | [],_,_,_=>rfl
 | n::ns,h,j,q=>by
  show T.get .no j (zbn ns (T.set .no .no n h))=_;rw [zcq ns _ j fun r=>q (Zam _ r),T.zx _ _ _ _ _ fun e=>q (by rw [e];exact Zaj ..)]
theorem Hp.base {h0 h:T Blk} {nx:Pa} {L:List Ob} (H:Hp h0 h nx L):Hp .e h nx L :=
 ⟨fun j hj=>absurd (T.vk _ j) hj,H.own,fun n _=>T.vk _ n,H.nd,H.fr⟩
abbrev TRow:=AV×Ob×List Int
def sN (t:TRow):Prop:=(∃ p cap,capLe t.2.2.length cap/\t.2.1=.arr p (t.2.2.map I)/\t.1=.sl p 0 t.2.2.length cap 1)\/∃ o,t.2.1=.gro o 1 t.2.2.length (t.2.2.map I)/\t.1=wz o 1 t.2.2.length
theorem sN.jd {t:TRow} (h:sN t):jd t.1=true:=by
 rcases h with ⟨p,cap,_,_,e⟩ | ⟨o,_,e⟩
 ·rw [e];rfl
 ·rw [e];exact zcp _ _ _
theorem sN.cells {t:TRow} (h:sN t):t.1.cells=some [t.1]:=by
 rcases h with ⟨p,cap,_,_,e⟩ | ⟨o,_,e⟩
 ·rw [e];rfl
 ·rw [e];exact qG _ _ _
theorem zi9 (l:List Int):∀ v∈l.map I,fF v=true:=fun v hv=>by obtain ⟨x,_,rfl⟩:=List.mem_map.1 hv;rfl
theorem sN.frz {h0 h:T Blk} {nx:Pa} {L:List Ob} {t:TRow} (hr:sN t) (H:Hp h0 h nx L) (hm:t.2.1∈L):rF h0 h t.1 (encI t.2.2):=by
 obtain ⟨k,hk⟩:=List.mem_iff_getElem?.1 hm;rcases hr with ⟨p,cap,hc,e1,e2⟩ | ⟨o,e1,e2⟩
 ·rw [e1] at hk;rw [e2];exact H.zba hk hc (by simp) (zi9 _)
 ·rw [e1] at hk;rw [e2];exact H.zd0 hk (zi9 _)
theorem sN.len {h0 h:T Blk} {nx:Pa} {L:List Ob} {t:TRow} (hr:sN t) (H:Hp h0 h nx L) (hm:t.2.1∈L) (op:AV->OP):sLen t.1 op=op (I t.2.2.length):=by
 obtain ⟨k,hk⟩:=List.mem_iff_getElem?.1 hm;rcases hr with ⟨p,cap,hc,e1,e2⟩ | ⟨o,e1,e2⟩
 ·rw [e2];rfl
 ·rw [e1] at hk;rw [e2];exact H.zd1 hk
theorem sN.rd {h0 h:T Blk} {nx:Pa} {L:List Ob} {t:TRow} (hr:sN t) (H:Hp h0 h nx L) (hm:t.2.1∈L) (no:OP) (K':List AV->Nat->OP):uI t.1 h no K'=K' (t.2.2.map I) t.2.2.length:=by
 obtain ⟨k,hk⟩:=List.mem_iff_getElem?.1 hm;rcases hr with ⟨p,cap,hc,e1,e2⟩ | ⟨o,e1,e2⟩
 ·rw [e1] at hk hm;rw [e2];exact je.rd (H.own _ hm) (by simp) no K'
 ·rw [e1] at hk;rw [e2];rw [H.zpf hk (Zaf _),Zat (by simp)]
theorem zte {h0 h:T Blk} {nx:Pa} {L:List Ob} {k:Nat} {o:Option Pa} {T:List TRow} (H:Hp h0 h nx L) (hk:L[k]? = some (.gro o 1 T.length (T.map (·.1)))) (hT:∀ t∈T,sN t/\t.2.1∈L):rF h0 h (wz o 1 T.length) (cZ (T.map (·.2.2))):=by
 have e:cZ (T.map (·.2.2))=.lst 1 T.length (T.map fun t=>encI t.2.2):=by simp [cZ,List.map_map,Function.comp_def]
 rw [e];refine zp3 H hk (by simp) (List.all_eq_true.2 fun v hv => ?_) fun i v v' h1 h2 => ?_
 ·obtain ⟨t,_,rfl⟩:=List.mem_map.1 hv;rfl
 ·rw [List.getElem?_map] at h1 h2;cases ht:T[i]? with
  | none=>rw [ht] at h1;cases h1
  | some t =>
   rw [ht] at h1 h2;cases h1;cases h2
   obtain ⟨r1,r2⟩:=hT t (Zaa ht);exact r1.frz H r2
def lsE (n:Int):Option (List Int)->List (List Int)->Int
 | _,[]=>0
 | p,f::l=>if jP n f≠0 then jP n f else if (p.any fun q => !yS q f)=true then 11 else lsE n (some f) l
def pvL (l:List (List Int)) (i:Nat):Option (List Int):=if i=0 then none else l[i-1]?
theorem zn2 {l:List (List Int)} {i:Nat} (h:i<l.length):pvL l (i+1)=some l[i]:=by simp [pvL,h]
theorem zn3 {n:Int} {l:List (List Int)} {i:Nat} (h:i<l.length):lsE n (pvL l i) (l.drop i)=if jP n l[i]≠0 then jP n l[i] else if ((pvL l i).any fun q => !yS q l[i])=true then 11 else lsE n (pvL l (i+1)) (l.drop (i+1)):=by
 rw [Zaq h,lsE,zn2 h]
theorem zh0 {n:Int}:∀ {l:List (List Int)} {p:Option (List Int)},lsE n p l=0->(∀ f∈l,jP n f=0)/\Ord l/\∀ q,p=some q->∀ f∈l,yS q f=true
 | [],_,_=>⟨by simp,.nil,by simp⟩
 | f::l,p,h=>by
  rw [lsE] at h;by_cases c1:jP n f=0
  case neg=>rw [if_pos c1] at h;exact absurd h c1
  rw [if_neg (by simp [c1])] at h;cases c2:p.any fun q => !yS q f with
  | true=>rw [c2,if_pos rfl] at h;cases h
  | false =>
   rw [c2,if_neg (by simp)] at h;obtain ⟨h1,h2,h3⟩:=zh0 h;have h4:=h3 f rfl;refine ⟨fun x hx => ?_,List.pairwise_cons.2 ⟨h4,h2⟩,fun q hq x hx => ?_⟩
   ·rcases List.mem_cons.1 hx with rfl | hx
    ·exact c1
    ·exact h1 x hx
   ·subst hq;have hqf:yS q f=true:=by simpa using c2
    rcases List.mem_cons.1 hx with rfl | hx
    ·exact hqf
    ·have:=h4 x hx;rw [u5] at hqf this ⊢;exact decide_eq_true (jJ (of_decide_eq_true hqf) (of_decide_eq_true this))
theorem dP {n:Int} {f:List Int} (h:jP n f=0):(f.length:Int)=n/\∀ x∈f, -999999999<=x/\x<=999999999:=by
 rw [jP] at h;by_cases c:(f.length:Int)=n
 ·rw [if_neg (by simp [c])] at h;refine ⟨c,fun x hx => ?_⟩;have hn:f.any outR=false:=by
   cases q:f.any outR with
   | false=>rfl
   | true=>rw [q,if_pos rfl] at h;cases h
  have:=List.any_eq_false.1 hn x hx;simp only [outR,Zcb,decide_eq_true_eq] at this;omega
 ·rw [if_pos c] at h;cases h
def imgB (G:List Sym) (l:List (List Int)):Bool:=l.all fun f=>G.all fun g=>decide (yI g.2 g.1 f∈l)
def vI (G:List Sym) (n:Int) (l:List (List Int)):Int:=if 1024<l.length then 5 else if lsE n none l≠0 then lsE n none l else if imgB G l=false then 7 else 0
theorem zja {a:AV} {l:List AV} {K:AV->OP}:zL 0 (.fp (a::l)) K=K (.fp (a::l)):=nr rfl
def yG (G:List Sym):Int:=if h:0<G.length then ((G[0].1.length:Nat):Int) else 0
def uS (G:List Sym) (l:List (List Int)):Int:=if yL G (yG G)≠0 then yL G (yG G) else vI G (yG G) l
def uY (l:List (List Int)) (g:Sym) (j:Nat):List Int:=(l.take j).map fun f=>((l.idxOf (yI g.2 g.1 f):Nat):Int)
def plT (G:List Sym) (l:List (List Int)):List (List Int):=G.map fun g=>uY l g l.length
theorem zh1 {l:List (List Int)} {g:Sym} {j:Nat} {f:List Int} (h:l[j]? = some f):uY l g (j+1)=uY l g j++[((l.idxOf (yI g.2 g.1 f):Nat):Int)]:=by
 rw [uY,Zar,h,Zbh];rfl
theorem zcr {l:List (List Int)} {g:Sym} {j:Nat} (h:j<=l.length):(uY l g j).length=j:=by simp [uY];omega
theorem Ord.nodup {l:List (List Int)} (h:Ord l):l.Nodup:=h.imp fun hab e=>by rw [e,xC] at hab;cases hab
theorem zjb {l:List (List Int)} {t:List Int} {r:Nat} (ho:Ord l) (h:l[r]? = some t):l.idxOf t=r:=by
 have hm:=Zaa h;have hl:=List.idxOf_lt_length_iff.2 hm;have hg:l[l.idxOf t]? = some t:=by rw [List.getElem?_eq_getElem hl,List.getElem_idxOf]
 obtain ⟨a1,a2⟩:=List.getElem?_eq_some_iff.1 hg;obtain ⟨b1,b2⟩:=List.getElem?_eq_some_iff.1 h;have hp:=List.pairwise_iff_getElem.1 ho.nodup;rcases Nat.lt_trichotomy (l.idxOf t) r with c | c | c
 ·exact absurd (a2.trans b2.symm) (hp _ _ a1 b1 c)
 ·exact c
 ·exact absurd (b2.trans a2.symm) (hp _ _ b1 a1 c)
theorem ztf (op:KW3->OP) (h:T Blk) (nx:Pa) (k:KW3):sGW (.bool true) true op h nx k=op k:=nr rfl
theorem F96.row {N:Nat} {K0:Kw Prop} {E2 E3 K:Ks Prop} {h0 h:T Blk} {nx:Pa} {L:List Ob} {x0 x2 x3 x4 x5 x6 x7 x8 x9 x12 x13 x14 x15 x16 x17 x18 x19 x20 x21 x22 x23 x24 x25 x29 x30:AV} {ab:Pa} {g:Sym} {l:List (List Int)} {n:Int} (hN:100000<N) (hg:gD g.1 n=0) (ho:Ord l) (hf:∀ f∈l,jP n f=0) (hl:l.length<=100000)
  (H:Hp h0 h nx (.arr ab [encI g.1,.bool g.2]::L))
  (hbad:∀ f∈l,yI g.2 g.1 f∉l->∀ h' nx' L',Hp h0 h' nx' L'->K0 (.tup [.zf,I 7]) h' nx'=.ok True)
  (hK:∀ w2 w3 w12 w13 w14 w29 w30 h' nx' o,(∀ f∈l,yI g.2 g.1 f∈l)->Hp h0 h' nx' (.gro o 1 l.length ((uY l g l.length).map I)::.arr ab [encI g.1,.bool g.2]::L) ->
   K (F96.fr x0 (cZ l) w2 w3 x4 x5 x6 x7 x8 x9 (.ptr ab 0) (wz o 1 l.length) w12 w13 w14 x15 x16 x17 x18 x19 x20 x21 x22 x23 x24 x25 (cZ l) (I l.length) (I l.length) w29 w30) h' nx'=.ok True) :
  IR.run F96.b17 (CS Tryz.prog B) N (((fnO F96.res K0).blk 2 E2).blk 3 E3) K (F96.fr x0 (cZ l) x2 x3 x4 x5 x6 x7 x8 x9 (.ptr ab 0) .zf x12 x13 x14 x15 x16 x17 x18 x19 x20 x21 x22 x23 x24 x25 (cZ l) (I l.length) (I 0) x29 x30) h nx=.ok True:=by
 obtain ⟨g1,g2,g3⟩:=uN hg;refine F96.L17 (fun m x11 x28 h' nx'=>∃ (j:Nat) (o:Option Pa),x28=I j/\x11=wz o 1 j/\l.length-j=m/\j<=l.length/\(∀ f∈l.take j,yI g.2 g.1 f∈l)/\Hp h0 h' nx' (.gro o 1 j ((uY l g j).map I)::.arr ab [encI g.1,.bool g.2]::L)) (m:=l.length) (by omega) ⟨0,none,rfl,rfl,rfl,by omega,by simp,H.tV 1⟩ ?_;rintro m z2 z3 z11 z12 z13 z14 z28 z29 z30 h1 nx1 R ⟨j,o,rfl,rfl,rfl,hj,hin,H1⟩ hR;simp only [uq];by_cases hlt:j<l.length
 case neg =>
  simp only [show ¬ (j:Int)<(l.length:Int) by omega,decide_false,zD];obtain rfl:j=l.length:=by omega
  rw [Zca] at hin;exact hK _ _ _ _ _ _ _ _ _ o hin H1
 simp only [show (j:Int)<(l.length:Int) by omega,decide_true,zC];have hx:l[j]? = some l[j]:=List.getElem?_eq_getElem hlt;have hm:=Zah hlt;obtain ⟨f1,f2⟩:=dP (hf _ hm);have hwl:∀ q∈l,q.length<=1000000:=fun q hq=>by have:=(dP (hf q hq)).1;omega
 rw [xk rfl hlt,ldL (getT hx),H1.zi (k:=1) (n:=2) rfl rfl];refine zn0 (g:=g.1) (c:=g.2) (f:=l[j]) (by omega) (by omega) g3 (fun x hx=>by have:=f2 x hx;omega) _ _ _ _ ?_;rintro _ rfl _;have hal:(yI g.2 g.1 l[j]).length=l[j].length:=jY _ _ _ _ _;refine zp2 ho hl hwl (by rw [hal];omega) _ _ _ _ ?_;rintro _ ⟨r,rfl,hr⟩ _;simp only [jD,jG,y5];by_cases c:yI g.2 g.1 l[j]∈l
 case neg =>
  rw [decide_eq_false c];simp only [Zai,zC];exact hbad _ hm c _ _ _ H1
 rw [decide_eq_true c];simp only [Zal,zD];have hidx:=zjb ho (hr c);refine H1.yg (l:=[I (r:Int)]) rfl fun tb h2 nx2 H2 => ?_;refine H2.appN (k:=1) (o:=o) (c:=1) (new:=[I (r:Int)]) rfl (je.rd (l:=[I (r:Int)]) (n:=1) (H2.own _ (Zaj ..)) rfl) rfl rfl (by decide) (by decide) (by omega) fun o' h3 nx3 _ H3 => ?_;rw [qj (by omega)];refine hR _ _ _ _ _ _ _ _ _ _ _ _ (by omega) ⟨j+1,o',rfl,rfl,rfl,by omega,fun f hf' => ?_,?_⟩
 ·rw [Zar,hx] at hf';rcases List.mem_append.1 hf' with q | q
  ·exact hin f q
  ·simp at q;rw [q];exact c
 ·rw [zh1 hx,hidx,Zbh];exact H3.drop
theorem zkp {G:List Sym} {l:List (List Int)} (h140:∀ B n,Pure Tryz.prog B 84 [qo G,I n] (· = I (yL G n))) (hG:G.length<=100000) (hl:l.length<=100000) (hw:∀ q∈l,q.length<=1000000):Pure Tryz.prog B 96 [qo G,cZ l] (· = if uS G l≠0 then .tup [.zf,I (uS G l)] else .tup [cZ (plT G l),I 0]):=by
  refine yM fun h nx K H0 hK=>zN zQ yh 10000000 fun hf => ?_;have bad:∀ (v:Int),v≠0->v=uS G l->∀ h' nx' L',Hp h h' nx' L'->K (.tup [.zf,I v]) h' nx'=.ok True:=fun v h0 hv h' nx' L' H=>by
    subst hv;rw [if_pos h0] at hK;exact hK _ _ _ _ _ H (kE (zJ rfl) (zJ rfl)) rfl
  rw [F96.go];simp only [zG,pz];have k1:∀ x15,IR.run F96.b1 (CS Tryz.prog B) 10000000 (fnO F96.res K) (qw F96.res K) (F96.fr (qo G) (cZ l) .zf (I 0) (I (yG G)) .undef .undef .undef .undef .undef .undef .undef .undef .undef .undef x15 .undef .undef .undef .undef .undef .undef .undef .undef .undef .undef .undef .undef .undef .undef .undef) h nx=.ok True:=by
    intro x15;rw [F96.k1];refine h140 _ _ _ _ _ _ ?_;rintro _ rfl _;simp only [zG,pz];refine mT _ _ _ _ _ _ ?_;rintro _ rfl _;refine H0.yg (l:=[I (yL G (yG G)),I (if decide ((1024:Int)<(l.length:Int))=true then 5 else 0)]) rfl fun tb h1 nx1 H1 => ?_;refine wI (l:=[yL G (yG G),if decide ((1024:Int)<(l.length:Int))=true then 5 else 0]) H1 (k:=0) rfl (fun B=>zi5 (by simp)) (fun v hv=>by rw [hv];exact .int _ _) ?_;rintro _ rfl;by_cases cg:yL G (yG G)=0
    case neg =>
      rw [uC,if_pos cg];simp only [vg,cg,decide_false,Zai,zC];exact bad _ cg (by rw [uS,if_pos cg]) _ _ _ H1
    have e1:uS G l=vI G (yG G) l:=by rw [uS,if_neg (by simp [cg])]
    rw [uC,if_neg (by simp [cg])];by_cases c1:1024<l.length
    · have e2:uC [if decide ((1024:Int)<(l.length:Int))=true then (5:Int) else 0]=5:=by
        rw [if_pos (decide_eq_true (by omega))];rfl
      rw [e2];simp only [vg,show ¬ (5:Int)=0 by decide,decide_false,Zai,zC];exact bad 5 (by decide) (by rw [e1,vI,if_pos c1]) _ _ _ H1
    have e2:uC [if decide ((1024:Int)<(l.length:Int))=true then (5:Int) else 0]=0:=by
      rw [decide_eq_false (show ¬ (1024:Int)<(l.length:Int) by omega)];rfl
    rw [e2];simp only [vg,decide_true,Zal,zD,zG];have e3:uS G l=if lsE (yG G) none l≠0 then lsE (yG G) none l else if imgB G l=false then 7 else 0:=by rw [e1,vI,if_neg c1]
    have hgs:∀ g∈G,gD g.1 (yG G)=0:=by
      have:=cg;rw [yL] at this;split at this
      · cases this
      split at this
      · cases this
      split at this
      · cases this
      by_cases q:jA (yG G) G=0
      · exact qD q
      · rw [if_pos q] at this;exact absurd this q
    refine F96.L3 (fun m x19 h' nx'=>∃ (i:Nat) (L:List Ob),x19=I i/\l.length-i=m/\i<=l.length/\Hp h h' nx' L/\lsE (yG G) none l=lsE (yG G) (pvL l i) (l.drop i)) (m:=l.length) (by omega) ⟨0,_,rfl,rfl,by omega,H1,rfl⟩ ?_;rintro m z2 z3 z6 z7 z8 z19 z20 z21 h2 nx2 R ⟨i,L,rfl,rfl,hi,H2,hs⟩ hR;simp only [uq];by_cases hlt:i<l.length
    · simp only [show (i:Int)<(l.length:Int) by omega,decide_true,zC];have hx:l[i]? = some l[i]:=List.getElem?_eq_getElem hlt;have hwx:=hw _ (Zah hlt);rw [zn3 hlt] at hs;rw [xk rfl hlt,ldL (getT hx)];simp only [zG,vg];refine mT _ _ _ _ _ _ ?_;rintro _ rfl _;refine zki hwx _ _ _ _ ?_;rintro _ rfl _;refine mT _ _ _ _ _ _ ?_;rintro _ rfl _;simp only [pz]
      have tail:∀ b:Bool,b=((pvL l i).any fun q => !yS q l[i])->∀ (Z:Kw Prop),(∀ v h' nx' L',v=(if jP (yG G) l[i]≠0 then jP (yG G) l[i] else if b=true then 11 else 0)->Hp h h' nx' L'->Z (I v) h' nx'=.ok True) ->
          (CS Tryz.prog B).fn 105 (.of 105) [.bool b,I 11] h2 nx2 (fun v27 h28 n29 =>
            yU 1 3 [(I 0)] [(0,1,I (if (!decide ((l[i].length:Int)=yG G))=true then 2 else 0)),(1,1,I (if l[i].any outR=true then 3 else 0)),(2,1,v27)] h28 n29 fun v30 h31 n32 =>
            (CS Tryz.prog B).fn 104 (.of 104) [v30] h31 n32 Z)=.ok True:=by
        intro b hb Z hZ;refine mT _ _ _ _ _ _ ?_;rintro _ rfl _;refine H2.yg (l:=[I (if (!decide ((l[i].length:Int)=yG G))=true then 2 else 0),I (if l[i].any outR=true then 3 else 0),I (if b=true then 11 else 0)]) rfl fun tb h3 nx3 H3 => ?_;refine wI (l:=[if (!decide ((l[i].length:Int)=yG G))=true then 2 else 0,if l[i].any outR=true then 3 else 0,if b=true then 11 else 0]) H3 (k:=0) rfl (fun B=>zi5 (by simp)) (fun v hv=>by rw [hv];exact .int _ _) ?_;rintro _ rfl;refine hZ _ _ _ _ ?_ H3;by_cases d1:(l[i].length:Int)=yG G
        · cases d2:l[i].any outR <;> cases b <;> simp [uC,jP,d1,d2]
        · simp [uC,jP,d1]
      have after:∀ b:Bool,b=((pvL l i).any fun q => !yS q l[i])->∀ v h' nx' L' w2 w3,v=(if jP (yG G) l[i]≠0 then jP (yG G) l[i] else if b=true then 11 else 0)->Hp h h' nx' L' ->
          (zk .neq .int (I v) (I 0) fun v36=>zO v36 (K (.tup [.zf,I v]) h' nx') (zk .add .int (I (i:Int)) (I 1) fun v37=>R (F96.fr (qo G) (cZ l) w2 w3 (I (yG G)) (I 0) (I (i:Int)) (encI l[i]) (I v) .undef .undef .undef .undef .undef .undef x15 (.bool false) (cZ l) (I (l.length:Int)) v37 (.bool true) v36 .undef .undef .undef .undef .undef .undef .undef .undef .undef) h' nx'))=.ok True:=by
        intro b hb v h' nx' L' w2 w3 hv H;rw [<- hb] at hs;simp only [vg];by_cases d:v=0
        · simp only [d,decide_true,Zal,zD];rw [d] at hv;by_cases d1:jP (yG G) l[i]=0
          case neg=>rw [if_pos d1] at hv;exact absurd hv.symm d1
          rw [if_neg (by simp [d1])] at hv hs;cases b with
          | true=>rw [if_pos rfl] at hv;cases hv
          | false =>
            rw [if_neg (by simp)] at hs;rw [qj (by omega)];exact hR _ _ _ _ _ _ _ _ _ _ _ (by omega) ⟨i+1,L',rfl,rfl,by omega,H,hs⟩
        · simp only [d,decide_false,Zai,zC];refine bad v d ?_ _ _ _ H;have:lsE (yG G) none l=v:=by
            rw [hs,hv];by_cases d1:jP (yG G) l[i]=0
            · have d2:¬ (jP (yG G) l[i]≠0):=fun q=>q d1;rw [if_neg d2] at hv;rw [if_neg d2,if_neg d2];cases b with
              | true=>rfl
              | false=>exact absurd hv d
            · rw [if_pos d1,if_pos d1]
          rw [e3,this,if_pos d]
      by_cases ci:0<i
      · simp only [show (0:Int)<(i:Int) by omega,decide_true,y0];have hy:l[i-1]? = some l[i-1]:=List.getElem?_eq_getElem (by omega);have hpv:pvL l i=some l[i-1]:=by rw [pvL,if_neg (by omega),hy]
        rw [rG (by omega),xk (i:=i-1) (by omega) (by omega),ldL (getT hy),ztf];refine vP (hw _ (Zah (show i-1<l.length by omega))) hwx _ _ _ _ ?_;rintro _ rfl _;simp only [fO,zT];have hb:decide (0<=cmpL l[i-1] l[i])=((pvL l i).any fun q => !yS q l[i]):=by
          rw [hpv,Option.any_some];have:=m0 l[i-1] l[i];cases q:yS l[i-1] l[i] with
          | true=>rw [q] at this;exact decide_eq_false (by have:=this.2 rfl;omega)
          | false=>rw [q] at this;exact decide_eq_true (by
                      by_cases r:cmpL l[i-1] l[i]<0
                      · exact absurd (this.1 r) (by simp)
                      · omega)
        exact tail _ hb _ fun v h' nx' L' hv H=>after _ hb v h' nx' L' _ _ hv H
      · obtain rfl:i=0:=by omega
        simp only [show ¬ (0:Int)<((0:Nat):Int) by omega,decide_false,j5,znx,zY];exact tail false rfl _ fun v h' nx' L' hv H=>after false rfl v h' nx' L' _ _ hv H
    simp only [show ¬ (i:Int)<(l.length:Int) by omega,decide_false,zD];rw [Zbu (by omega)] at hs;have hs:lsE (yG G) none l=0:=by rw [hs];cases pvL l i <;> rfl
    rw [if_neg (by simp [hs])] at e3;obtain ⟨ho1,ho2,_⟩:=zh0 hs
    clear hR
    rw [F96.k10];simp only [zG]
    refine F96.L11 (fun m x9 x24 h' nx'=>∃ (k:Nat) (T:List TRow) (o:Option Pa) (L:List Ob),x24=I k/\x9=wz o 1 T.length/\G.length-k=m/\k<=G.length/\T.map (·.2.2)=plT (G.take k) l/\(∀ t∈T,sN t)/\(∀ g∈G.take k,∀ f∈l,yI g.2 g.1 f∈l) /\
      Hp h h' nx' (.gro o 1 T.length (T.map (·.1))::(T.map (·.2.1)++L))) (m:=G.length) (by omega) ⟨0,[],none,L,rfl,rfl,rfl,by omega,rfl,by simp,by simp,H2.tV 1⟩ ?_
    rintro m z2 z3 z9 z10 z11 z12 z13 z14 z24 z25 z26 z27 z28 z29 z30 h4 nx4 R ⟨k,T,o,L,rfl,rfl,rfl,hk,hTl,hT,hin,H4⟩ hR;have hTn:T.length=k:=by have:=congrArg List.length hTl;simp [plT] at this;omega
    simp only [uq];by_cases hkt:k<G.length
    case neg =>
      simp only [show ¬ (k:Int)<(G.length:Int) by omega,decide_false,zD];rw [Zat (by omega)] at hTl hin;rw [F96.k27];have himg:imgB G l=true:=by
        rw [imgB,Zae];intro f hf';rw [Zae];exact fun g hg=>decide_eq_true (hin g hg f hf')
      rw [if_neg (by simp [himg])] at e3;rw [if_neg (by simp [e3]),<- hTl] at hK;exact hK _ _ _ _ _ H4 (kE (zte H4 (k:=0) rfl fun t ht=>⟨hT t ht,Zam _ (Zbj _ (List.mem_map_of_mem ht))⟩) (zJ rfl)) rfl
    simp only [show (k:Int)<(G.length:Int) by omega,decide_true,zC];have hy:G[k]? = some G[k]:=List.getElem?_eq_getElem hkt;rw [xk rfl hkt,yW hkt,u7];refine H4.alloc fun ab h5 nx5 H5 => ?_;refine H5.uw (k:=0) (n:=2) rfl rfl rfl fun h6 H6 => ?_;simp only [zG];refine F96.row (g:=G[k]) (n:=yG G) (by decide) (hgs _ (Zah hkt)) ho2 ho1 hl H6 (fun f hf' hnot h' nx' L' H=>bad 7 (by decide) ?_ _ _ _ H) fun w2 w3 w12 w13 w14 w29 w30 h7 nx7 oR hall H7 => ?_
    · have:imgB G l=false:=by
        cases q:imgB G l with
        | false=>rfl
        | true =>
          rw [imgB,Zae] at q;have q1:=q f hf';rw [Zae] at q1;exact absurd (of_decide_eq_true (q1 _ (Zah hkt))) hnot
      rw [e3,if_pos this]
    rw [F96.k25];refine H7.yg (l:=[wz oR 1 l.length]) (by simp only [j9,qG];rfl) fun tb h8 nx8 H8 => ?_;refine H8.appN (k:=3) (o:=o) (c:=1) (new:=[wz oR 1 l.length]) rfl (je.rd (l:=[wz oR 1 l.length]) (n:=1) (H8.own _ (Zaj ..)) rfl) rfl (by simp [zcp]) (by decide) (by decide) (by omega) fun o' h9 nx9 _ H9 => ?_;rw [F96.k26,qj (by omega)];have hrl:=zcr (g:=G[k]) (Zaf l.length);refine hR _ _ _ _ _ _ _ _ _ _ _ _ _ _ _ _ _ _ (by omega) ⟨k+1,T++[(wz oR 1 l.length,.gro oR 1 l.length ((uY l G[k] l.length).map I),uY l G[k] l.length)],o',.arr ab [encI G[k].1,.bool G[k].2]::L,rfl,by rw [Zan];rfl,rfl,by omega,?_,?_,?_,?_⟩
    · rw [Zbh,hTl,plT,plT,Zar,hy,Zbh];rfl
    · intro t ht;rcases List.mem_append.1 ht with q | q
      · exact hT t q
      · rw [List.mem_singleton.1 q];exact .inr ⟨oR,by simp only [hrl],by simp only [hrl]⟩
    · intro g hg;rw [Zar,hy] at hg;rcases List.mem_append.1 hg with q | q
      · exact hin g q
      · simp at q;rw [q];exact hall
    · rw [Zan,Zbh,Zbh,Zbx];have H10:Hp h h9 nx9 (.gro oR 1 l.length ((uY l G[k] l.length).map I)::.arr ab [encI G[k].1,.bool G[k].2]::.gro o' 1 (T.length+1) (T.map (·.1)++[wz oR 1 l.length])::(T.map (·.2.1)++L)):=H9.drop;refine H10.perm ?_;refine ((List.Perm.swap _ _ _).cons _).trans ((List.Perm.swap _ _ _).trans (List.Perm.cons _ ?_));have e1:(Ob.gro oR 1 l.length ((uY l G[k] l.length).map I)::.arr ab [encI G[k].1,.bool G[k].2]::(T.map (·.2.1)++L)).Perm (Ob.gro oR 1 l.length ((uY l G[k] l.length).map I)::(T.map (·.2.1)++.arr ab [encI G[k].1,.bool G[k].2]::L)):=List.perm_middle.symm.cons _;exact e1.trans List.perm_middle.symm
  by_cases h0:0<G.length
  · simp only [show (0:Int)<(G.length:Int) by omega,decide_true,zC];rw [xk (i:=0) (show (0:Int)=((0:Nat):Int) from rfl) h0,yW h0,zja,zcl];simp only [zG];have:yG G=((G[0].1.length:Nat):Int):=by rw [yG,dif_pos h0]
    rw [<- this];exact k1 _
  · simp only [show ¬ (0:Int)<(G.length:Int) by omega,decide_false,zD];have:yG G=0:=by rw [yG,dif_neg h0]
    have k1':=k1 (.bool false);rw [this] at k1';exact k1'
def yB (p:List (List Int)) (j:Nat):Int:=p.foldl (fun m row=>min m (row.getD j 0)) (j:Int)
def bK (p:List (List Int)) (n i:Nat):Nat:=((List.range n).filter fun j=>decide (yB p j=(i:Int))).length
def szL (p:List (List Int)) (w n:Nat):List Int:=(List.range w).map fun i=>((bK p n i:Nat):Int)
def PlOk (p:List (List Int)) (n:Nat):Prop:=∀ row∈p,row.length=n/\∀ x∈row,0<=x/\x<(n:Int)
theorem zfq {p:List (List Int)} {n:Nat} (hp:PlOk p n) {j:Nat} (hj:j<n):∀ k,0<=(p.take k).foldl (fun m row=>min m (row.getD j 0)) (j:Int)/\(p.take k).foldl (fun m row=>min m (row.getD j 0)) (j:Int)<(n:Int):=by
 have key:∀ (q:List (List Int)) (m:Int),(∀ row∈q,row.length=n/\∀ x∈row,0<=x/\x<(n:Int))->0<=m/\m<(n:Int)->0<=q.foldl (fun m row=>min m (row.getD j 0)) m/\q.foldl (fun m row=>min m (row.getD j 0)) m<(n:Int):=by
  intro q
  induction q with
  | nil=>intro m _ h;exact h
  | cons r q ih =>
   intro m hq hm;rw [Zce];obtain ⟨h1,h2⟩:=hq r (by simp);have hx:r[j]? = some (r.getD j 0):=by rw [Zab,List.getElem?_eq_getElem (by omega)];rfl
   have:=h2 _ (Zaa hx);exact ih _ (fun row hr=>hq row (by simp [hr])) (by omega)
 exact fun k=>key _ _ (fun row hr=>hp row (List.mem_of_mem_take hr)) (by omega)
theorem mU {p:List (List Int)} {w n i:Nat} (h:i<w):(szL p w n)[i]? = some ((bK p n i:Nat):Int):=by
 rw [szL,List.getElem?_map,List.getElem?_range h];rfl
@[simp] theorem zp4 (p:List (List Int)) (w n:Nat):(szL p w n).length=w:=by simp [szL]
theorem zkq (p:List (List Int)) (n i:Nat):bK p (n+1) i=bK p n i+if yB p n=(i:Int) then 1 else 0:=by
 rw [bK,Zcf,List.filter_append,Zan]
 congr 1
 by_cases c:yB p n=(i:Int)
 ·rw [if_pos c,Zaw,if_pos (decide_eq_true c)];rfl
 ·rw [if_neg c,Zaw,if_neg (by simpa using c)];rfl
theorem zp5 (p:List (List Int)) (n i:Nat):bK p n i<=n:=by
 have:=List.length_filter_le (fun j=>decide (yB p j=(i:Int))) (List.range n);rw [List.length_range] at this;exact this
theorem zn4 {p:List (List Int)} {w n c:Nat} (hc:yB p n=(c:Int)) (hw:c<w):szL p w (n+1)=(szL p w n).set c ((bK p n c:Nat)+1:Int):=by
 refine Zaz fun j => ?_;by_cases hj:j<w
 ·rw [mU hj,zkq,List.getElem?_set,mU hj];by_cases e:c=j
  ·subst e;rw [if_pos rfl,if_pos hc,if_pos (by rw [zp4];exact hw)];rfl
  ·rw [if_neg e,if_neg (by rw [hc];omega)];rfl
 ·rw [List.getElem?_eq_none (by simp;omega),List.getElem?_eq_none (by simp;omega)]
abbrev ClsE:=List Int×Nat
def zbp (c:List ClsE):List AV:=c.flatMap fun x=>[encI x.1,I (x.2:Int)]
abbrev encC (c:List ClsE):AV:=.lst 2 c.length (zbp c)
def aY (l:List (List Int)) (p:List (List Int)) (n i:Nat):List ClsE:=((List.range i).filter fun j=>decide (0<bK p n j)).map fun j=>(l.getD j [],bK p n j)
theorem zkr (l p:List (List Int)) (n i:Nat):aY l p n (i+1)=if 0<bK p n i then aY l p n i++[(l.getD i [],bK p n i)] else aY l p n i:=by
 rw [aY,Zcf,List.filter_append,Zbh];by_cases c:0<bK p n i
 ·rw [if_pos c,Zaw,if_pos (decide_eq_true c)];rfl
 ·rw [if_neg c,Zaw,if_neg (by simpa using c)];simp [aY]
theorem zfr (l p:List (List Int)) (n i:Nat):(aY l p n i).length<=i:=by
 rw [aY,Zas];exact Zbp (List.length_filter_le _ _) (by simp)
theorem zh2 {c:List ClsE}:∀ v∈zbp c,fF v=true:=fun v hv=>by
 obtain ⟨x,_,h⟩:=List.mem_flatMap.1 hv;simp only [Zag,List.not_mem_nil,or_false] at h;rcases h with rfl | rfl
 ·exact wO _
 ·rfl
theorem zn5 {G:List Sym} {l:List (List Int)} (hin:∀ g∈G,∀ f∈l,yI g.2 g.1 f∈l):PlOk (plT G l) l.length:=by
 intro row hr;obtain ⟨g,hg,rfl⟩:=List.mem_map.1 hr;refine ⟨zcr (Zaf _),fun x hx => ?_⟩;rw [uY,Zca] at hx;obtain ⟨f,hf,rfl⟩:=List.mem_map.1 hx;have:=List.idxOf_lt_length_iff.2 (hin g hg f hf);omega
theorem zrm {a b:Int} {K:AV->OP}:sMin false (I a) [I b] K=K (I (min a b)):=by
 have e:sMin false (I a) [I b] K=K (.int .i64 (bif ilt b a then b else a)):=rfl;rw [e,xD]
 congr 2
 by_cases c:b<a
 ·simp only [c,decide_true,cond_true];omega
 ·simp only [c,decide_false,cond_false];omega
theorem wW (b:Bool) (e:Int):Pure Tryz.prog B 76 [.bool b,I e] (· = I (if b then e else 0)):=by
 intro p h nx K hK;refine zN zQ yh 9 fun hf => ?_;rw [F76.go];cases b <;> simp (disch:=omega) only [qj,rG,sV,fG,vg,uq,sW,pz,fO,zT,zY,zC,zD,y0,jF,y8,j5,y5,jD,jG,gY,gG,gF,gE,zG,jC,yN,zA,decide_true,decide_false,Zal,Zai,jH] <;> exact hK _ rfl hf
theorem zbq {l:List Int} (hl:l.length<=1000000):Pure Tryz.prog B 72 [encI l] (· = I (uC l)):=by
 intro p h nx K hK;refine zN zQ yh 10000000 fun hf => ?_;rw [F72.go];simp (disch:=omega) only [qj,rG,sV,fG,vg,uq,sW,pz,fO,zT,zY,zC,zD,y0,jF,y8,j5,y5,jD,jG,gY,gG,gF,gE,zG,jC,yN,zA,decide_true,decide_false,Zal,Zai,jH];refine F72.L1 (fun m z5 h' nx'=>∃ i:Nat,z5=I i/\l.length-i=m/\i<=l.length/\h'=h/\nx'=nx/\∀ e∈l.take i,e=0) (m:=l.length) (by omega) ⟨0,rfl,rfl,by omega,rfl,rfl,by simp⟩ ?_;rintro m z1 z2 z5 z6 z7 _ _ R ⟨i,rfl,rfl,hi,rfl,rfl,htk⟩ hR;simp (disch:=omega) only [qj,rG,sV,fG,vg,uq,sW,pz,fO,zT,zY,zC,zD,y0,jF,y8,j5,y5,jD,jG,gY,gG,gF,gE,zG,jC,yN,zA,decide_true,decide_false,Zal,Zai,jH];by_cases hlt:i<l.length
 ·simp only [show (i:Int)<(l.length:Int) by omega,decide_true,zC];have hx:l[i]? = some l[i]:=List.getElem?_eq_getElem hlt;rw [xk rfl hlt,ldL (fP hx)];simp (disch:=omega) only [qj,rG,sV,fG,vg,uq,sW,pz,fO,zT,zY,zC,zD,y0,jF,y8,j5,y5,jD,jG,gY,gG,gF,gE,zG,jC,yN,zA,decide_true,decide_false,Zal,Zai,jH];have hd:l.drop i=l[i]::l.drop (i+1):=Zaq hlt;by_cases h0:l[i]=0
  ·simp only [h0,decide_true,Zal,zD];refine hR _ _ _ _ _ _ _ _ (by omega) ⟨i+1,rfl,rfl,by omega,rfl,rfl,fun e he => ?_⟩;rw [Zar,hx] at he;rcases List.mem_append.1 he with q | q
   ·exact htk e q
   ·simp at q;rw [q];exact h0
  ·simp only [h0,decide_false,Zai,zC];refine hK _ ?_ hf;rw [kF l i htk,hd,uC,if_pos h0]
 ·simp only [show ¬ (i:Int)<(l.length:Int) by omega,decide_false,zD];obtain rfl:i=l.length:=by omega
  rw [F72.k8];refine hK _ ?_ hf;have:=kF l l.length htk;rw [this,List.drop_length];rfl
theorem zfs (n:Int):Pure Tryz.prog B 125 [I n] (· = I (if n<0\/256<n then 3 else 0)):=by
 intro p h nx K hK;refine zN zQ yh 9 fun hf => ?_;rw [aP.go];simp only [uq];by_cases c1:n<0
 ·simp only [c1,decide_true,y8,zT];refine wW _ _ _ _ _ _ ?_;rintro _ rfl hf2;exact hK _ (by rw [if_pos (.inl c1)];rfl) hf2
 ·simp only [c1,decide_false,jF,pz,zY];refine wW _ _ _ _ _ _ ?_;rintro _ rfl hf2;refine hK _ ?_ hf2;by_cases c2:256<n
  ·rw [if_pos (.inr c2),if_pos (decide_eq_true c2)]
  ·rw [if_neg (by omega),if_neg (by simpa using c2)]
theorem zp6 {l:List Int} (hl:l.length<=100000):Pure Tryz.prog B 187 [encI l] (· = I (gJ l)):=by
 refine yM fun h nx K H0 hK=>zN zQ yh 1000000 fun hf => ?_;rw [jc.go];rw [zG];simp only [pz];by_cases c:(256:Int)<(l.length:Int)
 ·simp only [c,decide_true,zC];exact hK _ _ _ _ _ H0 (zJ rfl) (by rw [gJ,if_pos (by omega)])
 have hpe:gJ l=if bf l then 0 else 14:=by rw [gJ,if_neg (by omega)]
 simp only [c,decide_false,zD];rw [zG];refine H0.mk1 l.length rfl rfl (by omega) (by decide) fun tb h1 nx1 H1 => ?_;rw [zG];have e0:List.replicate l.length (AV.bool false)=(aX l.length []).map AV.bool:=by simp [aX]
 rw [e0] at H1
 refine jc.L2 (fun m x3 h' nx'=>∃ i:Nat,x3=I i/\m=l.length-i/\i<=l.length/\(l.take i).Nodup/\(∀ x∈l.take i,0<=x/\x<(l.length:Int))/\Hp h h' nx' [.arr tb ((aX l.length (l.take i)).map AV.bool)]) (m:=l.length) (by omega)
  ⟨0,rfl,by omega,by omega,by simp,by simp,by simpa using H1⟩ ?_
 rintro m z1 z3 z7 z8 z9 h2 nx2 R ⟨i,rfl,rfl,hi,hnd,hrg,H2⟩ hR;simp only [uq];by_cases hlt:i<l.length
 case neg =>
  simp only [show ¬ (i:Int)<(l.length:Int) by omega,decide_false,zD];rw [jc.k10];rw [Zat (by omega)] at hnd hrg;exact hK _ _ _ _ _ H2 (zJ rfl) (by rw [hpe,if_pos ⟨hnd,hrg⟩])
 simp only [show (i:Int)<(l.length:Int) by omega,decide_true,zC];have hx:l[i]? = some l[i]:=List.getElem?_eq_getElem hlt;have bad:¬ bf l->K (I 14) h2 nx2=.ok True:=fun q=>hK _ _ _ _ _ H2 (zJ rfl) (by rw [hpe,if_neg q]);have hrange:bf l->0<=l[i]/\l[i]<(l.length:Int):=fun q=>q.2 _ (Zah hlt);rw [xk rfl hlt,ldL (fP hx)];by_cases c1:l[i]<0
 ·simp only [uq,c1,decide_true,y8,zT,zC];exact bad fun q=>by have:=hrange q;omega
 simp only [uq,c1,decide_false,jF];rw [zG];simp only [fO,zY];by_cases c2:(l.length:Int)<=l[i]
 ·simp only [c2,decide_true,y8,zT,zC];exact bad fun q=>by have:=hrange q;omega
 simp only [c2,decide_false,jF];have hk:(l[i]).toNat<l.length:=by omega
 have hg:((aX l.length (l.take i)).map AV.bool)[(l[i]).toNat]? = some (.bool (decide (l[i]∈l.take i))):=by
  rw [List.getElem?_map,zfk (fun x hx=>(hrg x hx).1) hk,show (((l[i]).toNat:Nat):Int)=l[i] by omega];rfl
 rw [sIx (i:=(l[i]).toNat) (by omega) hk,H2.load (k:=0) rfl hg];simp only [zY];by_cases c3:l[i]∈l.take i
 ·simp only [c3,decide_true,zC];refine bad fun q => ?_;obtain ⟨j,hj⟩:=List.mem_iff_getElem?.1 c3;have hjl:=(List.getElem?_eq_some_iff.1 hj).1;rw [Zbm] at hjl;rw [List.getElem?_take_of_lt (by omega)] at hj;obtain ⟨a1,a2⟩:=List.getElem?_eq_some_iff.1 hj;exact List.pairwise_iff_getElem.1 q.1 j i a1 hlt (by omega) a2
 simp only [c3,decide_false,zD];rw [jc.k8,sIx (i:=(l[i]).toNat) (by omega) hk];refine H2.store (k:=0) rfl (by rw [Zas,mL];exact hk) rfl fun h3 H3 => ?_;rw [jc.k9,qj (by omega)];have htk:l.take (i+1)=l.take i++[l[i]]:=by rw [Zar,hx];rfl
 refine hR _ _ _ _ _ _ _ _ (by omega) ⟨i+1,rfl,rfl,by omega,?_,?_,H3.cast ?_⟩
 ·rw [htk];exact List.nodup_append.2 ⟨hnd,by simp,fun a ha b hb=>by simp at hb;subst hb;rintro rfl;exact c3 ha⟩
 ·intro x hm;rw [htk] at hm;rcases List.mem_append.1 hm with q | q
  ·exact hrg x q
  ·simp at q;subst q;omega
 ·rw [htk,zcm];simp [List.map_set]
theorem zks {l:List Int} (hl:l.length<=100000):Pure Tryz.prog B 126 [encI l] (· = .bool (decide (gJ l=0))):=by
 intro p h nx K hK;refine zN zQ yh 100 fun hf => ?_;rw [aO.go];refine zp6 hl _ _ _ _ ?_;rintro _ rfl hf2;simp only [fG];exact hK _ rfl hf2
theorem ztg {g:List Int} {c:Bool} {n:Int} (hl:g.length<=100000):Pure Tryz.prog B 64 [.agg [encI g,.bool c],I n] (· = I (gD g n)):=by
 refine yM fun h nx K H0 hK=>zN zQ yh 1000 fun hf => ?_;rw [F64.go];refine H0.box (l:=[encI g,.bool c]) rfl fun bx h1 nx1 H1 => ?_;rw [sFx,H1.load (k:=0) (i:=0+0) rfl rfl];simp only [zG,vg];rw [sFx,H1.load (k:=0) (i:=0+0) rfl rfl];refine zfs n _ _ _ _ ?_;rintro _ rfl _;rw [H1.load (k:=0) (i:=0+0) rfl rfl];simp only [zA,sFx,vg,zG];rw [H1.load (k:=0) (i:=0+0) rfl rfl];simp only [zA];refine wW _ _ _ _ _ _ ?_;rintro _ rfl _;rw [H1.load (k:=0) (i:=0+0) rfl rfl];simp only [zA];refine zks hl _ _ _ _ ?_;rintro _ rfl _;simp only [y5];refine wW _ _ _ _ _ _ ?_;rintro _ rfl _;refine H1.yg (l:=[I (if n<0\/256<n then 3 else 0),I (if (!decide ((g.length:Int)=n))=true then 2 else 0),I (if (!decide (gJ g=0))=true then 14 else 0)]) rfl fun id h4 nx4 H4 => ?_;refine wI (l:=[if n<0\/256<n then 3 else 0,if (!decide ((g.length:Int)=n))=true then 2 else 0,if (!decide (gJ g=0))=true then 14 else 0]) H4 (k:=0) rfl (fun B=>zbq (by simp)) (fun v hv=>by rw [hv];exact .int _ _) ?_;rintro _ rfl;refine hK _ _ _ _ _ H4 (zJ rfl) ?_
 congr 1
 rw [gD];by_cases c1:n<0\/256<n
 ·rw [if_pos c1,if_pos c1];rfl
 rw [if_neg c1,if_neg c1];by_cases c2:(g.length:Int)=n
 case neg=>rw [if_pos (show (g.length:Int)≠n from c2),decide_eq_false c2];rfl
 rw [if_neg (show ¬ ((g.length:Int)≠n) from fun q=>q c2),decide_eq_true c2];have:gJ g=if bf g then 0 else 14:=by rw [gJ,if_neg (by omega)]
 rw [this];by_cases c3:bf g
 ·rw [if_pos c3];rfl
 ·rw [if_neg c3];rfl
theorem zft {G:List Sym} {n:Int} (hG:G.length<=100000) (hw:∀ g∈G,g.1.length<=100000):Pure Tryz.prog B 199 [qo G,I n] (· = I (jA n G)):=by
 refine yM fun h nx K H0 hK=>zN zQ yh 1000000 fun hf => ?_;rw [gu.go];simp only [zG];refine gu.L1 (fun m x7 h' nx'=>∃ (i:Nat) (L:List Ob),x7=I i/\G.length-i=m/\i<=G.length/\jA n G=jA n (G.drop i)/\Hp h h' nx' L) (m:=G.length) (by omega) ⟨0,_,rfl,rfl,by omega,rfl,H0⟩ ?_;rintro m z2 z3 z4 z7 z8 z9 h2 nx2 R ⟨i,L,rfl,rfl,hi,hs,H2⟩ hR;simp only [uq];by_cases hlt:i<G.length
 case neg =>
  simp only [show ¬ (i:Int)<(G.length:Int) by omega,decide_false,zD];obtain rfl:i=G.length:=by omega
  rw [gu.k8];exact hK _ _ _ _ _ H2 (zJ rfl) (by rw [hs,List.drop_length];rfl)
 simp only [show (i:Int)<(G.length:Int) by omega,decide_true,zC];rw [xk rfl hlt,yW hlt,u7];refine H2.alloc fun ab h5 nx5 H5 => ?_;refine H5.uw (k:=0) (n:=2) rfl rfl rfl fun h6 H6 => ?_;rw [H6.zi (k:=0) (n:=2) rfl rfl];refine ztg (hw _ (Zah hlt)) _ _ _ _ ?_;rintro _ rfl _;have hs2:=dX hlt (n:=n);simp only [vg];by_cases c:gD G[i].1 n=0
 ·simp only [c,decide_true,Zal,zD];rw [qj (by omega)];exact hR _ _ _ _ _ _ _ _ _ (by omega) ⟨i+1,_,rfl,rfl,by omega,by rw [hs,hs2,if_neg (by simp [c])],H6⟩
 ·simp only [c,decide_false,Zai,zC];exact hK _ _ _ _ _ H6 (zJ rfl) (by rw [hs,hs2,if_pos c])
def cmpS (a b:Sym):Int:=if cmpL a.1 b.1≠0 then cmpL a.1 b.1 else if a.2=b.2 then 0 else if a.2 then 1 else -1
theorem zfu (a b:Sym):cmpS a b<0↔sH a b=true:=by
 rw [cmpS,sH];by_cases c:a.1=b.1
 ·have:=(pJ a.1 b.1).2 c;rw [if_neg (by simp [this]),if_pos c];cases a.2 <;> cases b.2 <;> decide
 ·have:¬ cmpL a.1 b.1=0:=fun q=>c ((pJ a.1 b.1).1 q);rw [if_pos this,if_neg c];exact m0 a.1 b.1
theorem zth {a b:Bool} {K:AV->OP}:zk .eql .bool (.bool a) (.bool b) K=K (.bool (decide (a=b))):=by cases a <;> cases b <;> exact nr rfl
theorem zh3 {a b:Sym} (ha:a.1.length<=1000000) (hb:b.1.length<=1000000):Pure Tryz.prog B 114 [encS a,encS b] (· = I (cmpS a b)):=by
 refine yM fun h nx K H0 hK=>zN zQ yh 1000 fun hf => ?_;rw [bV.go];refine H0.box (l:=[encI a.1,.bool a.2]) rfl fun bx h1 nx1 H1 => ?_;refine H1.box (l:=[encI b.1,.bool b.2]) rfl fun by' h2 nx2 H2 => ?_
 rw [sFx,H2.load (k:=1) (i:=0+0) rfl rfl,sFx,H2.load (k:=0) (i:=0+0) rfl rfl];refine vP ha hb _ _ _ _ ?_;rintro _ rfl _;simp only [vg];by_cases c:cmpL a.1 b.1=0
 case neg =>
  simp only [c,decide_false,Zai,y8,zT,zC];exact hK _ _ _ _ _ H2 (zJ rfl) (by rw [cmpS,if_pos c])
 simp only [c,decide_true,Zal,jF];rw [sFx,H2.load (k:=1) (i:=0+1) rfl rfl,sFx,H2.load (k:=0) (i:=0+1) rfl rfl,zth];simp only [zY];by_cases c2:a.2=b.2
 ·simp only [c2,decide_true,zC];exact hK _ _ _ _ _ H2 (zJ rfl) (by rw [cmpS,if_neg (by simp [c]),if_pos c2])
 simp only [c2,decide_false,zD];rw [bV.k1,sFx,H2.load (k:=1) (i:=0+1) rfl rfl];cases c3:a.2 with
 | true =>
  simp only [zC];exact hK _ _ _ _ _ H2 (zJ rfl) (by rw [cmpS,if_neg (by simp [c]),if_neg c2,c3];rfl)
 | false =>
  simp only [zD];exact hK _ _ _ _ _ H2 (zJ rfl) (by rw [cmpS,if_neg (by simp [c]),if_neg c2,c3];rfl)
theorem zfv {N:Pa->Prop} {O:AV->Prop} {hh:T Blk} {a b a' b':AV} (h1:Frz True N O hh a a') (h2:Frz True N O hh b b') (hs:([a',b']:List AV).all jd=true):Frz True N O hh (.agg [a,b]) (.agg [a',b']):=by
 refine .agg _ _ rfl hs fun i v v' hi hi' => ?_
 match i with
 | 0=>simp at hi hi';subst hi;subst hi';exact h1
 | 1=>simp at hi hi';subst hi;subst hi';exact h2
 | i+2=>simp at hi
def idP (n i:Nat):List Int:=(List.range n).map fun j:Nat=>if j<i then (j:Int) else 0
def idS (n:Nat):Sym:=((List.range n).map fun j:Nat=>(j:Int),false)
@[simp] theorem zwc (n i:Nat):(idP n i).length=n:=by simp [idP]
theorem zp7 {n i:Nat}:(idP n i).set i (i:Int)=idP n (i+1):=by
 refine Zaz fun j => ?_;rw [List.getElem?_set,idP,idP,Zas,List.length_range,List.getElem?_map,List.getElem?_map];by_cases hj:j<n
 ·rw [List.getElem?_range hj];by_cases e:i=j
  ·subst e;simp [hj]
  ·rw [if_neg e];simp only [Zbv]
   congr 1
   by_cases c:j<i
   ·rw [if_pos c,if_pos (by omega)]
   ·rw [if_neg c,if_neg (by omega)]
 ·rw [List.getElem?_eq_none (l:=List.range n) (by simp;omega)];by_cases e:i=j
  ·rw [if_pos e,if_neg (by omega)];rfl
  ·rw [if_neg e];rfl
theorem zfw {a b:AV} (ha:a.cells=some [a]) (hb:b.cells=some [b]) {K:AV->OP}:uH [.zf,.bool false] [(0,1,a),(1,1,b)] K=K (.agg [a,b]):=by
 unfold uH;simp only [j9,ha,hb]
 rfl
theorem zfx {n:Nat} (hn:n<=1000):Pure Tryz.prog B 248 [I n] (· = encS (idS n)):=by
 refine yM fun h nx K H0 hK=>zN zQ yh 1000000 fun hf => ?_;rw [gy.go];refine H0.alloc fun r h1 nx1 H1 => ?_;refine H1.mk1 n rfl rfl (by omega) (by decide) fun tb h2 nx2 H2 => ?_;have e:∀ K:AV->OP,uH [.zf,(.bool false)] [(0,1,.sl tb 0 n (some n) 1)] K=K (.agg [.sl tb 0 n (some n) 1,.bool false]):=fun K=>nr rfl;rw [e];refine H2.alloc fun s h3 nx3 H3 => ?_;refine H3.uw (k:=0) (n:=2) rfl rfl rfl fun h4 H4 => ?_;rw [sFx,H4.load (k:=0) (i:=0+0) rfl rfl,jC];have e0:List.replicate n (I 0)=(idP n 0).map I:=by
  rw [idP,List.map_map];rw [show ((I ∘ fun j:Nat=>if j<0 then (j:Int) else 0):Nat->AV)=fun _=>I 0 from funext fun j=>by simp,List.map_const',List.length_range]
 refine gy.L1 (fun m x5 h' nx'=>∃ i:Nat,x5=I i/\n-i=m/\i<=n/\Hp h h' nx' [.arr s [.sl tb 0 n (some n) 1,.bool false],.arr tb ((idP n i).map I),.arr r [.zf,.bool false]]) (m:=n) (by omega) ⟨0,rfl,rfl,by omega,H4.cast (by rw [e0];rfl)⟩ ?_;rintro m z3 z5 z6 h5 nx5 R ⟨i,rfl,rfl,hi,H5⟩ hR;simp only [uq];by_cases hlt:i<n
 ·simp only [show (i:Int)<(n:Int) by omega,decide_true,zC];rw [sFx,H5.load (k:=0) (i:=0+0) rfl rfl,sIx (i:=i) rfl hlt];refine H5.store (k:=1) rfl (by simpa using hlt) rfl fun h6 H6 => ?_;rw [qj (by omega)];refine hR _ _ _ _ _ _ (by omega) ⟨i+1,rfl,rfl,by omega,H6.cast ?_⟩;rw [<- zp7,List.map_set];rfl
 ·simp only [show ¬ (i:Int)<(n:Int) by omega,decide_false,zD];obtain rfl:i=n:=by omega
  rw [gy.k8,H5.zi (k:=0) (n:=2) rfl rfl];refine H5.uw (k:=2) (n:=2) rfl rfl rfl fun h6 H6 => ?_;rw [H6.zi (k:=2) (n:=2) rfl rfl];have e1:idP i i=(idS i).1:=Zch fun j hj=>by rw [if_pos (List.mem_range.1 hj)]
  have e2:(idS i).1.length=i:=by simp [idS]
  refine hK _ _ _ _ (encS (idS i)) H6 ?_ rfl;refine zfv ?_ (zJ rfl) rfl;have:=H6.zba (k:=1) (cap:=some i) (e:=1) (n:=i) rfl (Zaf _) (by simp) (fun v hv=>by obtain ⟨x,_,rfl⟩:=List.mem_map.1 hv;rfl);rw [e1] at this;have e3:encI (idS i).1=.lst 1 i ((idS i).1.map I):=by rw [encI,e2]
  rw [e3];exact this
def xY (p q:List Int) (i:Nat):List Int:=uZ p (q.take i)++List.replicate (q.length-i) 0
theorem uP (p q:List Int):(uZ p q).length=q.length:=by simp [uZ]
theorem zcs {p q:List Int} {i:Nat} (hi:i<=q.length):(xY p q i).length=q.length:=by simp [xY,uP];omega
theorem zkt {p q:List Int} {i:Nat} {x:Int} (h:q[i]? = some x):(xY p q i).set i (p.getD x.toNat 0)=xY p q (i+1):=by
 have hi:=(List.getElem?_eq_some_iff.1 h).1;have hl:(uZ p (q.take i)).length=i:=by rw [uP,Zbm];omega
 rw [xY,xY,zbm h,List.set_append_right _ _ (by omega),hl];rw [show q.length-i=(q.length-(i+1))+1 by omega,List.replicate_succ,Nat.sub_self,List.set_cons_zero];simp
theorem zn6 {a b:Sym} (hq:∀ x∈b.1,0<=x/\x<(a.1.length:Int)) (hl:b.1.length<=1000):Pure Tryz.prog B 250 [encS a,encS b] (· = encS (yK a b)):=by
 refine yM fun h nx K H0 hK=>zN zQ yh 1000000 fun hf => ?_;rw [uf.go];refine H0.box (l:=[encI a.1,.bool a.2]) rfl fun ba h1 nx1 H1 => ?_;refine H1.box (l:=[encI b.1,.bool b.2]) rfl fun bb h2 nx2 H2 => ?_;refine H2.alloc fun r h3 nx3 H3 => ?_;have hch:(mkSl 8 (I (b.1.length:Int)) (I (b.1.length:Int))&&true)=true:=by
  have:mkSl 8 (I (b.1.length:Int)) (I (b.1.length:Int))=(Nat.ble b.1.length b.1.length&&Nat.ble b.1.length 1000000&&Nat.ble (8*b.1.length) 281474976710656):=rfl;rw [this,Zac (Zaf _),Zac (by omega),Zac (by omega)];rfl
 rw [show (true&&true)=true from rfl,jH,sFx,H3.load (k:=1) (i:=0+0) rfl rfl,zG,hch,jH,sFx,H3.load (k:=2) (i:=0+1) rfl rfl,sFx,H3.load (k:=1) (i:=0+1) rfl rfl,zfl];refine H3.mk1 b.1.length rfl rfl (by omega) (by decide) fun tb h4 nx4 H4 => ?_;rw [zfl,zA,H4.load (k:=2) (i:=0+1) rfl rfl,zA,sFx,zA,H4.load (k:=3) (i:=0+1) rfl rfl,zA,sFx,zA,zG,zA,H4.load (k:=2) (i:=0+0) rfl rfl,zA,sFx,zA,zfw rfl rfl];refine H4.alloc fun s h5 nx5 H5 => ?_;rw [zfw rfl rfl,zA,zfl,zA,H5.load (k:=3) (i:=0+1) rfl rfl,zA,sFx,zA,H5.load (k:=4) (i:=0+1) rfl rfl,zA,sFx,zA,zG,zA,H5.load (k:=3) (i:=0+0) rfl rfl,zA,sFx,zA];refine H5.uw (k:=0) (n:=2) rfl rfl rfl fun h6 H6 => ?_;rw [sFx,H6.load (k:=3) (i:=0+0) rfl rfl,zG];have e0:List.replicate b.1.length (I 0)=(xY a.1 b.1 0).map I:=by simp [xY,uZ]
 refine uf.L1 (fun m x10 h' nx'=>∃ i:Nat,x10=I i/\b.1.length-i=m/\i<=b.1.length/\Hp h h' nx' [.arr s [.sl tb 0 b.1.length (some b.1.length) 1,.bool (a.2 != b.2)],.arr tb ((xY a.1 b.1 i).map I),.arr r [.zf,.bool false],.arr bb [encI b.1,.bool b.2],.arr ba [encI a.1,.bool a.2]]) (m:=b.1.length) (by omega) ⟨0,rfl,rfl,by omega,H6.cast (by rw [e0];rfl)⟩ ?_;rintro m z6 z7 z10 z11 h7 nx7 R ⟨i,rfl,rfl,hi,H7⟩ hR;simp only [uq];by_cases hlt:i<b.1.length
 ·simp only [show (i:Int)<(b.1.length:Int) by omega,decide_true,zC];have hx:b.1[i]? = some b.1[i]:=List.getElem?_eq_getElem hlt;obtain ⟨q1,q2⟩:=hq _ (Zah hlt);have hy:a.1[b.1[i].toNat]? = some (a.1.getD b.1[i].toNat 0):=by rw [Zab,List.getElem?_eq_getElem (by omega)];rfl
  rw [xk rfl hlt,ldL (fP hx),sFx,H7.load (k:=0) (i:=0+0) rfl rfl,sFx,H7.load (k:=4) (i:=0+0) rfl rfl,xk (i:=b.1[i].toNat) (by omega) (by omega),ldL (fP hy),sIx (i:=i) rfl hlt];refine H7.store (k:=1) rfl (by rw [Zas,zcs hi];exact hlt) rfl fun h8 H8 => ?_;rw [qj (by omega)];refine hR _ _ _ _ _ _ _ (by omega) ⟨i+1,rfl,rfl,by omega,H8.cast ?_⟩;rw [<- zkt hx,List.map_set];rfl
 ·simp only [show ¬ (i:Int)<(b.1.length:Int) by omega,decide_false,zD];obtain rfl:i=b.1.length:=by omega
  rw [uf.k8,H7.zi (k:=0) (n:=2) rfl rfl];refine H7.uw (k:=2) (n:=2) rfl rfl rfl fun h8 H8 => ?_;rw [H8.zi (k:=2) (n:=2) rfl rfl];have e1:xY a.1 b.1 b.1.length=(yK a b).1:=by simp [xY,yK]
  have e2:(yK a b).1.length=b.1.length:=uP _ _;refine hK _ _ _ _ (encS (yK a b)) H8 ?_ rfl;refine zfv ?_ (zJ rfl) rfl;have:=H8.zba (k:=1) (cap:=some b.1.length) (e:=1) (n:=b.1.length) rfl (Zaf _) (by rw [Zas,zcs (Zaf _)];omega) (fun v hv=>by obtain ⟨x,_,rfl⟩:=List.mem_map.1 hv;rfl);rw [e1] at this;have e3:encI (yK a b).1=.lst 1 b.1.length ((yK a b).1.map I):=by rw [encI,e2]
  rw [e3];exact this
def keyN (a:Sym):List Nat:=a.1.map Int.toNat++(if a.2 then [1] else [])
def fA (a:Sym):List UInt8:=(keyN a).map UInt8.ofNat
def DS (n:Nat) (a:Sym):Prop:=a.1.length=n/\∀ x∈a.1,0<=x/\x<(n:Int)
theorem zn7 {n:Nat} (hn:n<=256) {a b:Sym} (ha:DS n a) (hb:DS n b) (h:fA a=fA b):a=b:=by
 have hlt:∀ {c:Sym},DS n c->∀ x∈keyN c,x<256:=fun {c} hc x hx=>by
  rcases List.mem_append.1 hx with q | q
  ·obtain ⟨y,hy,rfl⟩:=List.mem_map.1 q;have:=hc.2 y hy;omega
  ·by_cases c2:c.2=true
   ·rw [if_pos c2] at q;simp at q;omega
   ·rw [if_neg c2] at q;cases q
 have hid:∀ {c:Sym},DS n c->(fA c).map UInt8.toNat=keyN c:=fun {c} hc=>by
  rw [fA,List.map_map]
  conv=>rhs;rw [<- List.map_id (keyN c)]
  exact Zch fun x hx=>by
   show (UInt8.ofNat x).toNat=x;rw [UInt8.toNat_ofNat'];exact Nat.mod_eq_of_lt (hlt hc x hx)
 have e:keyN a=keyN b:=by rw [<- hid ha,<- hid hb,h]
 have hl:(a.1.map Int.toNat).length=(b.1.map Int.toNat).length:=by simp [ha.1,hb.1]
 obtain ⟨e1,e2⟩:=List.append_inj e hl;have back:∀ {c:Sym},DS n c->(c.1.map Int.toNat).map Int.ofNat=c.1:=fun {c} hc=>by
  rw [List.map_map]
  conv=>rhs;rw [<- List.map_id c.1]
  exact Zch fun x hx=>by
   have:=hc.2 x hx;show ((x.toNat:Nat):Int)=x;omega
 have e3:a.1=b.1:=by rw [<- back ha,<- back hb,e1]
 refine Prod.ext e3 ?_;cases h1:a.2 <;> cases h2:b.2 <;> rw [h1,h2] at e2 <;> first | rfl | simp at e2
theorem Hp.zjc {K:AV->T Blk->Pa->OP} {h0 h:T Blk} {nx:Pa} {L:List Ob} {k n c bytes:Nat} {id:Pa} {l:List AV} {v x:AV} (H:Hp h0 h nx L) (hk:L[k]? = some (.arr id l)) (hl:l.length=c) (hn:n<c) (hx:∀ (no:OP) (K':List AV->Nat->OP),uI x h no K'=K' [v] 1) (hs:Go.Ev.jd v=true) (hb:bytes*1000000<=70368744177664) (hc:c<=1000000)
  (hK:∀ h',Hp h0 h' nx (L.set k (.arr id (l.set n v)))->K (.sl id 0 (n+1) (some c) 1) h' nx=.ok True):sZ 1 bytes (.sl id 0 n (some c) 1) x h nx K=.ok True:=by
 have hcc:(Nat.ble (bytes*1000000) 70368744177664&&Nat.beq [v].length (1*1)&&Nat.ble 1 1&&[v].all Go.Ev.jd)=true:=by
  rw [Zac hb];simp [hs]
 unfold sZ eH;rw [hx,hcc,cond_true];obtain ⟨op,t,h1,h2⟩:je h id l:=H.own _ (Zaa hk);show (bif Nat.beq 1 1&&Nat.ble (n+1) 1000000 then jf (T.get .no id h) _ (.no 35) else .no 36)=_;rw [h1,Zac (by omega)];show (bif Nat.ble (0+n*1) l.length then (bif Nat.ble (n+1) c then (bif Nat.ble (0+(n+1)*1) l.length then kM id 0 n (some c) 1 op l.length t [v] 1 h nx K else .no 32) else uW 0 n 1 t [v] 1 h nx K) else .no 34)=_;rw [Zac (by omega),Zac (show n+1<=c by omega),Zac (by omega),cond_true,cond_true,cond_true];unfold kM;rw [yP,T.yj,zX];refine hK _ (H.upd hk (by simp [Ob.names]) rfl ?_);have:=je.set (v:=v) h1 h2 (show n<l.length by omega);rw [Nat.mul_one,Zax];exact this
theorem zn8:∀ l:List Nat,o9 (l.map u8)=some (l.map UInt8.ofNat)
 | []=>rfl
 | x::l=>by
  show (match o9 (l.map u8) with
   | some s=>some (UInt8.ofNat ((x:Int)).toNat::s)
   | none=>none)=_
  rw [zn8 l];rfl
theorem Hp.b2s {h0 h:T Blk} {nx:Pa} {L:List Ob} {k n:Nat} {id:Pa} {cap:Option Nat} {l:List AV} {y:List Nat} {op:AV->OP} (H:Hp h0 h nx L) (hk:L[k]? = some (.arr id l)) (hn:n<=l.length) (hy:l.take n=y.map u8):sB2s (.sl id 0 n cap 1) h op=op (.str (y.map UInt8.ofNat)):=by
  obtain ⟨o,t,h1,h2⟩:je h id l:=H.own _ (Zaa hk);show jf (T.get .no id h) _ _=_;rw [h1]
  show (bif Nat.ble (0+n) l.length then (match o9 (yA t 0 n) with
          | some s=>op (.str s)
          | none=>.no 21) else .no 21)=_
  have e:yA t 0 n=l.take n:=by
    refine Zaz fun i => ?_;by_cases hi:i<n
    · rw [zV _ _ _ _ hi,List.getElem?_take_of_lt hi]
      conv=>rhs;rw [<- h2]
      rw [zV _ _ _ _ (by omega)]
    · rw [List.getElem?_eq_none (by simp;omega),List.getElem?_eq_none (by simp;omega)]
  rw [Zac (by omega),cond_true,e,hy,zn8]
def padN (y:List Nat) (c:Nat):List AV:=y.map u8++List.replicate (c-y.length) (.int .u8 0)
theorem d7 {y:List Nat} {c:Nat} (h:y.length<=c):(padN y c).length=c:=by simp [padN];omega
theorem zfy {y:List Nat} {c x:Nat} (h:y.length<c):(padN y c).set y.length (u8 x)=padN (y++[x]) c:=by
 rw [padN,padN,List.set_append_right _ _ (by simp),Zas,Nat.sub_self,show c-y.length=(c-(y++[x]).length)+1 by simp;omega,List.replicate_succ,List.set_cons_zero];simp
theorem zd8 {a:Sym} (ha:∀ x∈a.1,0<=x/\x<256) (hl:a.1.length<=1000):Pure Tryz.prog B 112 [encS a] (· = .str (fA a)):=by
 refine yM fun h nx K H0 hK=>zN zQ yh 1000000 fun hf => ?_;rw [jq.go];refine H0.box (l:=[encI a.1,.bool a.2]) rfl fun ba h1 nx1 H1 => ?_;rw [sFx,H1.load (k:=0) (i:=0+0) rfl rfl,zG,qj (by omega)];refine H1.mkN (n:=0) (c:=a.1.length+1) rfl (by omega) (by omega) (by omega) (by omega) fun tb h2 nx2 H2 => ?_;rw [sFx,H2.load (k:=1) (i:=0+0) rfl rfl,zG];have e0:bM (a.1.length+1) [AV.int .u8 0]=padN [] (a.1.length+1):=by rw [ze7];rfl
 refine jq.L1 (fun m x3 x7 h' nx'=>∃ i:Nat,x7=I i/\x3=.sl tb 0 i (some (a.1.length+1)) 1/\a.1.length-i=m/\i<=a.1.length/\Hp h h' nx' [.arr tb (padN ((a.1.take i).map Int.toNat) (a.1.length+1)),.arr ba [encI a.1,.bool a.2]]) (m:=a.1.length) (by omega) ⟨0,rfl,rfl,rfl,by omega,H2.cast (by rw [e0];rfl)⟩ ?_;rintro m z3 z4 z7 z8 h3 nx3 R ⟨i,rfl,rfl,rfl,hi,H3⟩ hR;simp only [uq];have hlen:((a.1.take i).map Int.toNat).length=i:=by simp;omega
 by_cases hlt:i<a.1.length
 ·simp only [show (i:Int)<(a.1.length:Int) by omega,decide_true,zC];have hx:a.1[i]? = some a.1[i]:=List.getElem?_eq_getElem hlt;obtain ⟨q1,q2⟩:=ha _ (Zah hlt);obtain ⟨c,hc⟩:∃ c:Nat,a.1[i]=(c:Int):=⟨a.1[i].toNat,by omega⟩;rw [xk rfl hlt,ldL (fP hx),hc,zn1,Nat.mod_eq_of_lt (by omega)];refine H3.yg (l:=[u8 c]) rfl fun t1 h4 nx4 H4 => ?_;refine H4.zjc (k:=1) (n:=i) (v:=u8 c) rfl (d7 (by omega)) (by omega) (je.rd (l:=[u8 c]) (n:=1) (H4.own _ (Zaj ..)) rfl) rfl (by decide) (by omega) fun h5 H5 => ?_;rw [qj (by omega)];refine hR _ _ _ _ _ _ _ (by omega) ⟨i+1,rfl,rfl,rfl,by omega,H5.drop.cast ?_⟩;have e1:(a.1.take (i+1)).map Int.toNat=(a.1.take i).map Int.toNat++[c]:=by
   rw [Zar,hx,Zbh,hc];rfl
  have:=zfy (y:=(a.1.take i).map Int.toNat) (c:=a.1.length+1) (x:=c) (by omega);rw [hlen] at this;rw [e1,<- this];rfl
 ·simp only [show ¬ (i:Int)<(a.1.length:Int) by omega,decide_false,zD];obtain rfl:i=a.1.length:=by omega
  rw [Zca] at H3 hlen;rw [jq.k8,sFx,H3.load (k:=1) (i:=0+1) rfl rfl];cases h2:a.2 with
  | false =>
   simp only [zD];rw [H3.b2s (k:=0) (y:=a.1.map Int.toNat) rfl (by rw [d7 (by omega)];omega) (by rw [padN,List.take_left' (by simp)])];exact hK _ _ _ _ _ H3 (zJ rfl) (by rw [fA,keyN,h2];simp)
  | true =>
   simp only [zC];refine H3.yg (l:=[u8 1]) rfl fun t1 h4 nx4 H4 => ?_;refine H4.zjc (k:=1) (n:=a.1.length) (v:=u8 1) rfl (d7 (by omega)) (by omega) (je.rd (l:=[u8 1]) (n:=1) (H4.own _ (Zaj ..)) rfl) rfl (by decide) (by omega) fun h5 H5 => ?_;have:=zfy (y:=a.1.map Int.toNat) (c:=a.1.length+1) (x:=1) (by omega);rw [hlen] at this;have H6:=H5.drop;rw [this] at H6;rw [H6.b2s (k:=0) (y:=a.1.map Int.toNat++[1]) rfl (by rw [d7 (by simp)];exact Zaf _) (by rw [padN,List.take_left' (by simp)])];exact hK _ _ _ _ _ H6 (zJ rfl) (by rw [fA,keyN,h2];simp)
def pq (ks:List Sym):List (AV×AV):=ks.map fun b=>(.str (fA b),encS b)
theorem zn9 {n:Nat} (hn:n<=256) {a:Sym} (ha:DS n a):∀ (ks:List Sym) (i:Nat),(∀ b∈ks,DS n b)->(a∈ks->∃ j,qU .str (.str (fA a)) (pq ks) i=some (some (j,encS a)))/\(a∉ks->qU .str (.str (fA a)) (pq ks) i=some none)
 | [],i,_=>⟨fun h=>absurd h (by simp),fun _=>rfl⟩
 | b::ks,i,h=>by
  obtain ⟨r1,r2⟩:=zn9 hn ha ks (i+1) fun c hc=>h c (by simp [hc])
  have e:qU .str (.str (fA a)) (pq (b::ks)) i=(match some (jV (fA a) (fA b)) with
   | some true=>some (some (i,encS b))
   | some false=>qU .str (.str (fA a)) (pq ks) (i+1)
   | none=>none):=rfl
  rw [e];by_cases c:a=b
  ·subst c;rw [xw.2 rfl];exact ⟨fun _=>⟨i,rfl⟩,fun q=>absurd (by simp) q⟩
  ·have hb:jV (fA a) (fA b)=false:=by
    cases q:jV (fA a) (fA b) with
    | false=>rfl
    | true=>exact absurd (zn7 hn ha (h b (by simp)) (xw.1 q)) c
   rw [hb]
   exact ⟨fun q=>r1 (by
    rcases List.mem_cons.1 q with q | q
    ·exact absurd q c
    ·exact q),fun q=>r2 fun q2=>q (by simp [q2])⟩
theorem zv2 {n:Nat} (hn:n<=256) {a:Sym} (ha:DS n a) {ks:List Sym} (hks:∀ b∈ks,DS n b) {h:T Blk} {id:Pa} {z:AV} {op:AV->OP} (own:T.get .no id h=.map (pq ks).length (pq ks)):zlc .str z true (.map id) (.str (fA a)) h op=op (.tup [if a∈ks then encS a else z,.bool (decide (a∈ks))]):=by
 obtain ⟨r1,r2⟩:=zn9 hn ha ks 0 hks;show dw (T.get .no id h) _ _=_;rw [own]
 show (match uK .str (.str (fA a)) (pq ks) with
    | some (some (_,v))=>op (bif true then .tup [v,.bool true] else v)
    | some none=>op (bif true then .tup [z,.bool false] else z)
    | none=>.no 20)=_
 rw [show uK .str (.str (fA a)) (pq ks)=qU .str (.str (fA a)) (pq ks) 0 from rfl];by_cases c:a∈ks
 ·obtain ⟨j,hj⟩:=r1 c;rw [hj,if_pos c,decide_eq_true c];rfl
 ·rw [r2 c,if_neg c,decide_eq_false c];rfl
theorem zoa {n:Nat} (hn:n<=256) {a:Sym} (ha:DS n a) {ks:List Sym} (hks:∀ b∈ks,DS n b) {h0 h:T Blk} {nx p id:Pa} {L:List Ob} {k:Nat} {K:Kw Prop} (H:Hp h0 h nx L) (hk:L[k]? = some (.map id (pq ks)))
  (hK:K (.bool (decide (a∈ks))) h nx=.ok True):(CS Tryz.prog B).fn 249 p [.map id,encS a] h nx K=.ok True:=by
 refine zdx (Q:=(· = .bool (decide (a∈ks)))) (fun hfr K hK=>zN zQ yh 100 fun _ => ?_) (fun v hv _=>by rw [hv];exact hK);rw [aN.go];have own:T.get .no id h=.map (pq ks).length (pq ks):=H.own _ (Zaa hk);have Hb:=Hp.init hfr;refine Hb.box (l:=[encI a.1,.bool a.2]) rfl fun bx h1 nx1 H1 => ?_;rw [H1.zi (k:=0) (n:=2) rfl rfl];refine zd8 (fun x hx=>by have:=ha.2 x hx;omega) (by have:=ha.1;omega) _ _ _ _ ?_;rintro _ rfl _;have own1:T.get .no id h1=.map (pq ks).length (pq ks):=by rw [<- own];exact H1.keep id (by rw [own];intro q;cases q)
 rw [zv2 hn ha hks own1,jD,jG];refine H1.alloc fun r h2 nx2 H2 => ?_;have hst:∃ l2:List AV,(if a∈ks then encS a else .agg [.zf,.bool false])=.agg l2/\l2.length=2:=by
  by_cases c:a∈ks
  ·exact ⟨_,if_pos c,rfl⟩
  ·exact ⟨_,if_neg c,rfl⟩
 obtain ⟨l2,e2,hl2⟩:=hst;rw [e2];refine H2.uw (k:=0) (n:=2) rfl rfl hl2 fun h3 H3 => ?_;exact hK _ _ _ H3.fr H3.keep ⟨_,zJ rfl,rfl⟩
theorem Hp.putS {n:Nat} (hn:n<=256) {a:Sym} (ha:DS n a) {ks:List Sym} (hks:∀ b∈ks,DS n b) (hna:a∉ks) {K:AV->T Blk->Pa->OP} {h0 h:T Blk} {nx:Pa} {L:List Ob} {k:Nat} {id:Pa} (H:Hp h0 h nx L) (hk:L[k]? = some (.map id (pq ks)))
  (hK:∀ h',Hp h0 h' nx (L.set k (.map id (pq (ks++[a]))))->K .undef h' nx=.ok True):oZ .str (.map id) (.str (fA a)) (encS a) h nx K=.ok True:=by
 have own:T.get .no id h=.map _ _:=H.own _ (Zaa hk);obtain ⟨_,r2⟩:=zn9 hn ha ks 0 hks;show dw (T.get .no id h) _ _=_;rw [own]
 show (match uK .str (.str (fA a)) (pq ks) with
    | some (some (i,_))=>T.qy (β:=OP) Blk.no (Blk.map (pq ks).length ((pq ks).modify i fun e=>(e.1,encS a))) id h fun h'=>K .undef h' nx
    | some none=>qg ((pq ks).length+1) fun n=>T.qy (β:=OP) Blk.no (Blk.map n (pq ks++[(AV.str (fA a),encS a)])) id h fun h'=>K .undef h' nx
    | none=>Out.no 45)=_
 rw [show uK .str (.str (fA a)) (pq ks)=qU .str (.str (fA a)) (pq ks) 0 from rfl,r2 hna];simp only [zX,T.yj];refine hK _ (H.upd hk (by simp [Ob.names]) rfl ?_);show T.get Blk.no id _=Blk.map _ _;rw [T.get_set_same];simp [pq]
theorem Hp.zrn {h0 h:T Blk} {nx:Pa} {L:List Ob} {k:Nat} {id:Pa} {ks:List Sym} {op:AV->OP} (H:Hp h0 h nx L) (hk:L[k]? = some (.map id (pq ks))):zif (.map id) h op=op (I ks.length):=by
 have own:T.get .no id h=.map _ _:=H.own _ (Zaa hk);show dw (T.get .no id h) _ _=_;rw [own];show qg (pq ks).length (fun n=>op (.int .i64 (.ofNat n)))=_;rw [zX,pq,Zas];rfl
inductive QV:AV->Ob->List Sym->Prop
 | cap (id:Pa) (off:Nat) (l:List AV) (q:List Sym):off+q.length*2<=l.length->(l.drop off).take (q.length*2)=yR q->QV (.sl id off q.length (some q.length) 2) (.arr id l) q
 | opn (id:Pa) (off m:Nat) (l:List AV) (q:List Sym):off+q.length*2=m*2->l.length=m*2->l.drop off=yR q->QV (.sl id off q.length none 2) (.gro (some id) 2 m l) q
 | esl (id:Pa) (m:Nat) (l:List AV):QV .esl (.gro (some id) 2 m l) []
theorem kW (q:List Sym):(yR q).length=q.length*2:=by
 induction q with
 | nil=>rfl
 | cons a q ih=>rw [yR,Zbi,Zan,<- yR,ih];simp;omega
theorem QV.len {v:AV} {o:Ob} {q:List Sym} (h:QV v o q) {op:AV->OP}:sLen v op=op (I q.length):=by
 cases h <;> exact nr rfl
theorem QV.names {v:AV} {o:Ob} {q:List Sym} (h:QV v o q):∃ id,o.names=[id]:=by
 cases h <;> exact ⟨_,rfl⟩
theorem QV.cells {v:AV} {o:Ob} {a:Sym} {q:List Sym} (h:QV v o (a::q)):∃ id off cap l,v=.sl id off (a::q).length cap 2/\off+(a::q).length*2<=l.length/\(l.drop off).take ((a::q).length*2)=yR (a::q)/\∀ hh,o.holds hh->∃ op t,T.get .no id hh=.cells op l.length t/\yA t 0 l.length=l:=by
 cases h with
 | cap id off l _ h1 h2=>exact ⟨id,off,_,l,rfl,h1,h2,fun hh ho=>ho⟩
 | opn id off m l _ h1 h2 h3 =>
  refine ⟨id,off,_,l,rfl,by omega,by rw [h3,Zat (by rw [kW];exact Zaf _)],fun hh ho => ?_⟩;obtain ⟨t,g1,g2,g3⟩:=ho;exact ⟨true,t,by rw [g1,h2],by rw [h2];exact g3⟩
theorem QV.first {v:AV} {o:Ob} {a:Sym} {q:List Sym} (h:QV v o (a::q)):∃ id off,(∀ op:AV->OP,zK 2 v (I 0) op=op (.ptr id off))/\∀ {h0 hh:T Blk} {nx:Pa} {L:List Ob} {k:Nat},Hp h0 hh nx L->L[k]? = some o->∀ op:AV->OP,zI 2 (.ptr id off) hh op=op (encS a):=by
 obtain ⟨id,off,cap,l,rfl,g3,g4,g⟩:=h.cells;refine ⟨id,off,fun op => ?_,fun {h0 hh nx L k} H hk op => ?_⟩
 ·have:=wF (id:=id) (off:=off) (n:=(a::q).length) (cap:=cap) (e:=2) (e':=2) (i:=0) (k:=.i64) (K:=op) (by simp);simpa using this
 ·obtain ⟨op',t,g1,g2⟩:=g hh (H.own _ (Zaa hk));show jf (T.get .no id hh) _ _=_;rw [g1];show (bif Nat.ble (off+2) l.length then op (.agg (yA t off 2)) else .no 8)=_;have hl:(a::q).length=q.length+1:=rfl;rw [hl] at g3 g4;rw [Zac (by omega),cond_true];have e:∀ i,i<l.length->T.get .undef (.of i) t=l.getD i .undef:=fun i hi=>by
   have:=zV t 0 l.length i hi;rw [g2,Zax] at this;rw [Zab,this];rfl
  have d:∀ i,i<2->l.getD (off+i) .undef=(yR (a::q)).getD i .undef:=fun i hi=>by
   rw [<- g4,Zab,Zab,List.getElem?_take_of_lt (by omega),List.getElem?_drop]
  have e2:yA t off 2=[T.get .undef (.of off) t,T.get .undef (.of (off+1)) t]:=rfl;rw [e2,e off (by omega),e (off+1) (by omega),d 1 (by omega)];have:=d 0 (by omega);rw [Nat.add_zero] at this;rw [this];rfl
theorem QV.rest {v:AV} {o:Ob} {a:Sym} {q:List Sym} (h:QV v o (a::q)):∃ v',(∀ op:AV->OP,zda 2 v (some (I 1)) none none op=op v')/\QV v' o q:=by
 have hl:(a::q).length=q.length+1:=rfl;cases h with
 | cap id off l _ h1 h2 =>
  rw [hl] at h1 h2 ⊢
  have e0:∀ op:AV->OP,zda 2 (.sl id off (q.length+1) (some (q.length+1)) 2) (some (I 1)) none none op =
    (bif Nat.beq (q.length+1) 1 then op (.sl id off (q.length+1-1) (some 0) 2) else qg (off+1*2) fun off=>qg (q.length+1-1) fun h=>qg (q.length+1-1) fun m=>op (.sl id off h (some m) 2)):=fun op=>by
   show (match (bif Nat.ble 1 (q.length+1) then some 1 else none:Option Nat) with
    | none=>Out.no 17
    | some l=>bif Nat.beq (q.length+1) l then op (.sl id off (q.length+1-l) (some 0) 2)
     else qg (off+l*2) fun off=>qg (q.length+1-l) fun h=>qg (q.length+1-l) fun m=>op (.sl id off h (some m) 2))=_
   rw [Zac (by omega)];rfl
  cases q with
  | nil=>exact ⟨.sl id off 0 (some 0) 2,fun op=>by rw [e0];rfl,.cap id off l [] (by simp at h1 ⊢;omega) (by simp [yR])⟩
  | cons b q =>
   refine ⟨.sl id (off+2) (b::q).length (some (b::q).length) 2,fun op => ?_,.cap id (off+2) l (b::q) (by simp only [Zbn] at h1 ⊢;omega) ?_⟩
   ·rw [e0,sF (by simp)];simp only [zX,cond_false,Nat.one_mul,Nat.add_sub_cancel]
   ·have e1:yR (b::q)=(yR (a::b::q)).drop 2:=rfl;rw [e1,<- h2,List.drop_take,List.drop_drop]
    congr 1
    omega
 | opn id off m l _ h1 h2 h3 =>
  rw [hl] at h1 ⊢
  have e0:∀ op:AV->OP,zda 2 (.sl id off (q.length+1) none 2) (some (I 1)) none none op =
    (bif Nat.ble 2 (q.length+1) then qg (off+1*2) fun off=>qg (q.length+1-1) fun h=>op (.sl id off h none 2) else op .esl):=fun op=>by
   show (match (bif Nat.ble 1 (q.length+1) then some 1 else none:Option Nat) with
    | none=>Out.no 17
    | some l=>bif Nat.beq l 0 then op (.sl id off (q.length+1) none 2) else bif Nat.ble (l+1) (q.length+1) then qg (off+l*2) fun off=>qg (q.length+1-l) fun h=>op (.sl id off h none 2) else op .esl)=_
   rw [Zac (by omega)];rfl
  cases q with
  | nil=>exact ⟨.esl,fun op=>by rw [e0];rfl,.esl id m l⟩
  | cons b q =>
   refine ⟨.sl id (off+2) (b::q).length none 2,fun op => ?_,.opn id (off+2) m l (b::q) (by omega) h2 ?_⟩
   ·rw [e0,Zac (by simp)];simp only [zX,cond_true,Nat.one_mul,Nat.add_sub_cancel]
   ·rw [<- List.drop_drop,h3];rfl
theorem QV.app {v:AV} {o:Ob} {c:Sym} {q:List Sym} (h:QV v o q) (hq:q≠[]) {h0 hh:T Blk} {nx:Pa} {L:List Ob} {k:Nat} {x:AV} {K:AV->T Blk->Pa->OP} (H:Hp h0 hh nx L) (hk:L[k]? = some o) (hx:∀ (no:OP) (K':List AV->Nat->OP),uI x hh no K'=K' [encI c.1,.bool c.2] 1) (hlim:q.length+1<=100000)
  (hK:∀ v' o' h' nx',QV v' o' (q++[c])->Hp h0 h' nx' (L.set k o')->K v' h' nx'=.ok True):vW (CS Tryz.prog B) 2 32 v x hh nx K=.ok True:=by
 have hfl:yR (q++[c])=yR q++[encI c.1,.bool c.2]:=by simp [yR]
 have hln:(q++[c]).length=q.length+1:=by simp
 have hcc:(Nat.ble (32*1000000) 70368744177664&&Nat.beq [encI c.1,AV.bool c.2].length (1*2)&&Nat.ble 1 2&&[encI c.1,AV.bool c.2].all Go.Ev.jd)=true:=rfl;have new:∀ (id:Pa) (off:Nat) (op:Bool) (l:List AV) (t:T AV),yA t 0 l.length=l->off+q.length*2<=l.length->(l.drop off).take (q.length*2)=yR q->uW off q.length 2 t [encI c.1,.bool c.2] 1 hh nx K=.ok True:=fun id off op l t g2 g3 g4=>by
  unfold uW;rw [yC,zX];have e:yA t off (q.length*2)=yR q:=by
   rw [<- g4];refine Zaz fun i => ?_;by_cases hi:i<q.length*2
   ·rw [zV _ _ _ _ hi,List.getElem?_take_of_lt hi,List.getElem?_drop]
    conv=>rhs;rw [<- g2]
    rw [zV _ _ _ _ (by omega),Zax]
   ·rw [List.getElem?_eq_none (by simp;omega),List.getElem?_eq_none (by rw [Zbm];omega)]
  rw [e,<- hfl];have hlen:=kW (q++[c]);refine hK _ (.gro (some nx) 2 (q.length+1) (yR (q++[c]))) _ _ ?_ (Hp.back hk (Hp.new (x:=.gro (some nx) 2 (q.length+1) (yR (q++[c]))) (H.front hk).drop rfl fun h' e=>⟨_,by rw [e,hlen,hln],by rw [hlen,hln],?_⟩))
  ·have:=QV.opn nx 0 (q.length+1) (yR (q++[c])) (q++[c]) (by rw [hln];omega) (by rw [hlen,hln]) rfl;rw [hln] at this;exact this
  ·have:=qA (yR (q++[c]));rw [hlen,hln] at this;exact this
 cases h with
 | cap id off l _ h1 h2 =>
  obtain ⟨op,t,g1,g2⟩:=H.own _ (Zaa hk);show eH 2 32 (.sl id off q.length (some q.length) 2) x hh nx K=_;unfold eH;rw [hx,hcc,cond_true];show (bif Nat.beq 2 2&&Nat.ble (q.length+1) 1000000 then jf (T.get .no id hh) _ (.no 35) else .no 36)=_;rw [g1,Zac (by omega)];show (bif Nat.ble (off+q.length*2) l.length then (bif Nat.ble (q.length+1) q.length then _ else uW off q.length 2 t [encI c.1,.bool c.2] 1 hh nx K) else .no 34)=_;rw [Zac h1,bleF (by omega),cond_true,cond_false];exact new id off op l t g2 h1 h2
 | opn id off m l _ h1 h2 h3 =>
  obtain ⟨t,g1,g2,g3⟩:=H.own _ (Zaa hk);by_cases h0':off=0
  ·subst h0';obtain rfl:m=q.length:=by omega
   rw [List.drop_zero] at h3;subst h3;have e:(AV.sl id 0 q.length none 2)=wz (some id) 2 q.length:=rfl;show eH 2 32 (.sl id 0 q.length none 2) x hh nx K=_;refine H.appN (k:=k) (o:=some id) (c:=1) (esz:=2) (bytes:=32) (new:=[encI c.1,.bool c.2]) hk hx rfl rfl (by decide) (by decide) (by omega) fun o' h' nx' ho H' => ?_;cases o' with
   | none=>exact absurd rfl (ho (.inl (by simp)))
   | some id' =>
    rw [<- hfl] at H';have hlen:=kW (q++[c]);have:=QV.opn id' 0 (q.length+1) (yR (q++[c])) (q++[c]) (by rw [hln];omega) (by rw [hlen,hln]) rfl;rw [hln] at this;exact hK _ _ _ _ this H'
  ·have hb0:Nat.beq off 0=false:=sF h0';show (bif Nat.beq off 0 then _ else m7 (CS Tryz.prog B) id off q.length 2 2 32 x hh nx K)=_;rw [hb0,cond_false];unfold m7;rw [hx,hcc,cond_true];show (bif Nat.beq 2 2&&Nat.ble (q.length+1) 1000000 then jf (T.get .no id hh) _ (.no 35) else .no 36)=_;rw [g1,Zac (by omega)];show (bif Nat.ble (off+q.length*2) (m*2) then (bif Nat.ble (off+(q.length+1)*2) (m*2) then _ else bif true&&Nat.beq (off+q.length*2) (m*2) then _ else _) else _)=_;rw [Zac (by omega),bleF (by omega),aT (by omega),cond_true,cond_false];show (CS Tryz.prog B).pk [0,1] _=_;refine zmp.2 ⟨fun i hi => ?_,rfl⟩;simp only [Zag,List.not_mem_nil,or_false] at hi;rcases hi with rfl | rfl
   ·show zae id off q.length 2 (m*2) t [encI c.1,.bool c.2] 1 hh nx K=_;unfold zae;rw [yP,zX,T.yj,zX];have hwr:=kS t l [encI c.1,.bool c.2] (m*2) (by rw [<- h2] at g3 ⊢;exact g3);have hq2:=QV.opn id off (m+1) (l++[encI c.1,.bool c.2]) (q++[c]) (by rw [hln];omega) (by rw [Zan,h2];simp;omega) (by rw [List.drop_append_of_le_length (by omega),h3,hfl]);rw [hln] at hq2;refine hK _ _ _ _ hq2 (H.upd hk (by simp [Ob.names]) rfl ⟨_,by rw [T.get_set_same,show (m+1)*2=m*2+1*2 by omega],by rw [Zan,h2];simp;omega,?_⟩);rw [show (m+1)*2=m*2+[encI c.1,AV.bool c.2].length by simp;omega];exact hwr
   ·show uW off q.length 2 t [encI c.1,.bool c.2] 1 hh nx K=_;exact new id off true l t (by rw [h2];exact g3) (by omega) (by rw [h3,Zat (by rw [kW];exact Zaf _)])
 | esl id m l=>exact absurd rfl hq
theorem zfz {G:List Sym} {l:List (List Int)} (h:uS G l=0):yL G (yG G)=0/\l.length<=1024/\lsE (yG G) none l=0/\∀ g∈G,∀ f∈l,yI g.2 g.1 f∈l:=by
 rw [uS] at h;by_cases c1:yL G (yG G)=0
 case neg=>rw [if_pos c1] at h;exact absurd h c1
 rw [if_neg (fun q=>q c1),vI] at h;by_cases c2:1024<l.length
 ·rw [if_pos c2] at h;cases h
 rw [if_neg c2] at h;by_cases c3:lsE (yG G) none l=0
 case neg=>rw [if_pos c3] at h;exact absurd h c3
 rw [if_neg (fun q=>q c3)] at h;refine ⟨c1,by omega,c3,fun g hg f hf => ?_⟩;cases q:imgB G l with
 | false=>rw [if_pos q] at h;cases h
 | true =>
  rw [imgB,Zae] at q;have q1:=q f hf;rw [Zae] at q1;exact of_decide_eq_true (q1 g hg)
theorem F39.least {N:Nat} {K0:Kw Prop} {E0 E1 K:Ks Prop} {h:T Blk} {nx:Pa} {x0 x1 x2 x3 x4 x5 x6 x9 x10 x11 x12 x13 x14 x16 x20 x21 x22 x23 x24 x25:AV} {p:List (List Int)} {n i:Nat} (hN:100000<N) (hp:PlOk p n) (hi:i<n) (hn:n<=100000) (hpl:p.length<=10000)
  (hK:∀ w9 w20,K (F39.fr x0 x1 x2 x3 x4 x5 x6 (I (i:Int)) (I (yB p i)) w9 x10 x11 x12 x13 x14 (I (i:Int)) x16 (cZ p) (I p.length) (I p.length) w20 x21 x22 x23 x24 x25) h nx=.ok True) :
  IR.run F39.b8 (CS Tryz.prog B) N (((fnO F39.res K0).blk 0 E0).blk 1 E1) K (F39.fr x0 x1 x2 x3 x4 x5 x6 (I (i:Int)) (I (i:Int)) x9 x10 x11 x12 x13 x14 (I (i:Int)) x16 (cZ p) (I p.length) (I 0) x20 x21 x22 x23 x24 x25) h nx=.ok True:=by
 refine F39.L8 (fun m x8 x19 h' nx'=>∃ k:Nat,x19=I k/\x8=I ((p.take k).foldl (fun m row=>min m (row.getD i 0)) (i:Int))/\p.length-k=m/\k<=p.length/\h'=h/\nx'=nx) (m:=p.length) (by omega) ⟨0,rfl,rfl,rfl,by omega,rfl,rfl⟩ ?_;rintro m z8 z9 z19 z20 h nx R ⟨k,rfl,rfl,rfl,hk,rfl,rfl⟩ hR;simp only [uq];by_cases hlt:k<p.length
 ·simp only [show (k:Int)<(p.length:Int) by omega,decide_true,zC];have hx:p[k]? = some p[k]:=List.getElem?_eq_getElem hlt;obtain ⟨r1,r2⟩:=hp _ (Zah hlt);have hy:p[k][i]? = some (p[k].getD i 0):=by rw [Zab,List.getElem?_eq_getElem (by omega)];rfl
  rw [xk rfl hlt,ldL (getT hx),xk (i:=i) rfl (by omega),ldL (fP hy),zrm,qj (by omega)];refine hR _ _ _ _ _ _ _ (by omega) ⟨k+1,rfl,?_,rfl,by omega,rfl,rfl⟩;rw [Zar,hx,List.foldl_append];rfl
 ·simp only [show ¬ (k:Int)<(p.length:Int) by omega,decide_false,zD];obtain rfl:k=p.length:=by omega
  rw [Zca];exact hK _ _
theorem aA {C:Calls Prop} {esz bytes e n:Nat} {o:Option Pa} {x:AV} {h:T Blk} {nx:Pa} {K:KW3}:vW C esz bytes (wz o e n) x h nx K=sZ esz bytes (wz o e n) x h nx K:=by cases o <;> exact nr rfl
theorem zku (a b:List ClsE):zbp (a++b)=zbp a++zbp b:=by simp [zbp]
set_option maxRecDepth 100000 in
theorem zkv {G:List Sym} {l:List (List Int)} (hcl:∀ B f,f.length<=1000->Pure Tryz.prog B 48 [encI f] (· = encI f)) (h140:∀ B n,Pure Tryz.prog B 84 [qo G,I n] (· = I (yL G n))) (hG:G.length<=10000) (hl:l.length<=100000) (hw:∀ q∈l,q.length<=1000):Pure Tryz.prog B 39 [qo G,cZ l] (· = if uS G l≠0 then .tup [.zf,I (uS G l)] else .tup [encC (aY l (plT G l) l.length l.length),I 0]):=by
 refine yM fun h nx K H0 hK=>zN zQ yh 10000000 fun hf => ?_;rw [F39.go];refine zkp h140 (by omega) hl (fun q hq=>by have:=hw q hq;omega) _ _ _ _ ?_;rintro _ rfl _;by_cases c:uS G l=0
 case neg =>
  rw [if_pos c] at hK ⊢;simp only [jD,jG,vg,c,decide_false,Zai,zC];exact hK _ _ _ _ _ H0 (kE (zJ rfl) (zJ rfl)) rfl
 rw [if_neg (fun q=>q c)] at hK ⊢;obtain ⟨e1,e2,e3,e4⟩:=zfz c;have hp:=zn5 e4;have hpl:(plT G l).length=G.length:=by simp [plT]
 generalize plT G l=p at hK hp hpl ⊢
 simp only [jD,jG,vg,decide_true,Zal,zD];rw [zG];refine H0.mk1 l.length rfl rfl (by omega) (by decide) fun sz h1 nx1 H1 => ?_;rw [zG];have e0:List.replicate l.length (I 0)=(szL p l.length 0).map I:=by
  rw [szL,List.map_map];rw [show (I ∘ fun i=>((bK p 0 i:Nat):Int))=fun _=>I 0 from rfl,List.map_const',List.length_range]
 refine F39.L2 (fun m x15 h' nx'=>∃ i:Nat,x15=I i/\l.length-i=m/\i<=l.length/\Hp h h' nx' [.arr sz ((szL p l.length i).map I)]) (m:=l.length) (by omega) ⟨0,rfl,rfl,by omega,H1.cast (by rw [e0])⟩ ?_;rintro m z7 z8 z9 z15 z16 z17 z18 z19 z20 h2 nx2 R ⟨i,rfl,rfl,hi,H2⟩ hR;simp only [uq];by_cases hlt:i<l.length
 ·simp only [show (i:Int)<(l.length:Int) by omega,decide_true,zC,zG];refine F39.least (by omega) hp hlt hl (by omega) fun w9 w20 => ?_;rw [F39.k15];have hb:0<=yB p i/\yB p i<(l.length:Int):=by
   have:=zfq hp hlt p.length;rw [Zca] at this;exact this
  obtain ⟨d,hd⟩:∃ d:Nat,yB p i=(d:Int):=⟨(yB p i).toNat,by omega⟩;have hdl:d<l.length:=by omega
  have hsl:=zp5 p i d;have hg:((szL p l.length i).map I)[d]? = some (I ((bK p i d:Nat):Int)):=by rw [List.getElem?_map,mU hdl];rfl
  rw [hd,sIx (i:=d) rfl hdl,H2.load (k:=0) rfl hg,qj (by omega),sIx (i:=d) rfl hdl];refine H2.store (k:=0) rfl (by simpa using hdl) rfl fun h3 H3 => ?_;rw [F39.k16,qj (by omega)];refine hR _ _ _ _ _ _ _ _ _ _ _ _ (by omega) ⟨i+1,rfl,rfl,by omega,H3.cast ?_⟩;rw [zn4 hd hdl,List.map_set];rfl
 simp only [show ¬ (i:Int)<(l.length:Int) by omega,decide_false,zD];obtain rfl:i=l.length:=by omega
 clear hR
 rw [F39.k17];simp only [jC];refine F39.L18 (fun m x10 x23 h' nx'=>∃ (i:Nat) (o:Option Pa),x23=I i/\x10=wz o 2 (aY l p l.length i).length/\l.length-i=m/\i<=l.length/\Hp h h' nx' [.gro o 2 (aY l p l.length i).length (zbp (aY l p l.length i)),.arr sz ((szL p l.length l.length).map I)]) (m:=l.length) (by omega) ⟨0,none,rfl,rfl,rfl,by omega,H2.tV 2⟩ ?_;rintro m z10 z11 z12 z23 z24 z25 h3 nx3 R ⟨i,o,rfl,rfl,rfl,hi,H3⟩ hR;simp only [uq];by_cases hlt:i<l.length
 case neg =>
  simp only [show ¬ (i:Int)<(l.length:Int) by omega,decide_false,zD];obtain rfl:i=l.length:=by omega
  rw [F39.k25];exact hK _ _ _ _ _ H3 (kE (H3.zd0 (k:=0) rfl zh2) (zJ rfl)) rfl
 simp only [show (i:Int)<(l.length:Int) by omega,decide_true,zC];have hg:((szL p l.length l.length).map I)[i]? = some (I ((bK p l.length i:Nat):Int)):=by rw [List.getElem?_map,mU hlt];rfl
 have hcs:=zkr l p l.length i;have hcl':=zfr l p l.length i;rw [sIx (i:=i) rfl hlt,H3.load (k:=1) rfl hg];simp only [pz];by_cases cz:0<bK p l.length i
 ·rw [if_pos cz] at hcs;simp only [show (0:Int)<((bK p l.length i:Nat):Int) by omega,decide_true,zC];have hx:l[i]? = some l[i]:=List.getElem?_eq_getElem hlt;have hgd:l.getD i []=l[i]:=by rw [Zab,hx];rfl
  rw [hgd] at hcs;rw [xk rfl hlt,ldL (getT hx)];refine hcl _ l[i] (hw _ (Zah hlt)) _ _ _ _ ?_;rintro _ rfl _;have eb:∀ K:AV->OP,uH [.zf,(I 0)] [(0,1,encI l[i]),(1,1,I ((bK p l.length i:Nat):Int))] K=K (.agg [encI l[i],I ((bK p l.length i:Nat):Int)]):=fun K=>nr rfl;rw [eb];refine H3.yg (l:=[encI l[i],I ((bK p l.length i:Nat):Int)]) rfl fun tb h4 nx4 H4 => ?_;rw [aA];refine H4.appN (k:=1) (o:=o) (c:=1) (esz:=2) (new:=[encI l[i],I ((bK p l.length i:Nat):Int)]) rfl (je.rd (l:=[encI l[i],I ((bK p l.length i:Nat):Int)]) (n:=1) (e:=2) (H4.own _ (Zaj ..)) rfl) rfl rfl (by decide) (by decide) (by omega) fun o' h5 nx5 _ H5 => ?_;rw [qj (by omega)];refine hR _ _ _ _ _ _ _ _ _ (by omega) ⟨i+1,o',rfl,by rw [hcs,Zan];rfl,rfl,by omega,?_⟩;rw [hcs,Zan,zku];exact H5.drop
 ·rw [if_neg cz] at hcs;simp only [show ¬ (0:Int)<((bK p l.length i:Nat):Int) by omega,decide_false,zD];rw [qj (by omega)];exact hR _ _ _ _ _ _ _ _ _ (by omega) ⟨i+1,o,rfl,by rw [hcs],rfl,by omega,by rw [hcs];exact H3⟩
theorem zd9 {G:List Sym} {l:List (List Int)} (hcl:∀ B f,f.length<=1000->Pure Tryz.prog B 48 [encI f] (· = encI f)) (h140:∀ B n,Pure Tryz.prog B 84 [qo G,I n] (· = I (yL G n))) (hG:G.length<=10000) (hl:l.length<=100000) (hw:∀ q∈l,q.length<=1000):Pure Tryz.prog B 33 [qo G,cZ l] (· = if uS G l≠0 then .tup [I 0,I (uS G l)] else .tup [I ((aY l (plT G l) l.length l.length).length:Int),I 0]):=by
 refine yM fun h nx K H0 hK=>zN zQ yh 1000 fun hf => ?_;rw [F33.go];refine zkv hcl h140 hG hl hw _ _ _ _ ?_;rintro _ rfl _;by_cases c:uS G l=0
 ·rw [if_neg (fun q=>q c)] at hK ⊢;simp only [jD,jG,zG];exact hK _ _ _ _ _ H0 (kE (zJ rfl) (zJ rfl)) rfl
 ·rw [if_pos c] at hK ⊢;simp only [jD,jG,yN];exact hK _ _ _ _ _ H0 (kE (zJ rfl) (zJ rfl)) rfl
end Go.Ev
set_option linter.unusedSectionVars false
namespace Go.Ev
section
variable {G:Type} [DecidableEq G] (mul:G->G->G) (e:G) (D:G->Prop)
structure aZ:Prop where
 de:D e
 dm:∀ a b,D a->D b->D (mul a b)
 assoc:∀ a b c,D a->D b->D c->mul (mul a b) c=mul a (mul b c)
 el:∀ a,D a->mul e a=a
 er:∀ a,D a->mul a e=a
 cl:∀ a b c,D a->D b->D c->mul a b=mul a c->b=c
def qY (l:List G):Prop:=∀ a∈l,∀ b∈l,mul a b∈l
structure Clo (u g:List G):Prop where
 one:e∈g
 clo:∀ x∈g,∀ b∈u,mul b x∈g
 ind:∀ T:G->Prop,T e->(∀ x,T x->∀ b∈u,T (mul b x))->∀ x∈g,T x
variable {mul e D}
theorem subG:∀ (l r:List G),l.Nodup->(∀ x∈l,x∈r)->∃ s,r.Perm (l++s)
 | [],r,_,_=>⟨r,.refl _⟩
 | a::l,r,hn,hs=>by
  obtain ⟨h1,h2⟩:=List.nodup_cons.1 hn;have ha:=hs a (by simp);obtain ⟨s,hp⟩:=subG l (r.erase a) h2 fun x hx=>(List.mem_erase_of_ne (by rintro rfl;exact h1 hx)).2 (hs x (by simp [hx]));exact ⟨s,(List.perm_cons_erase ha).trans (.cons a hp)⟩
theorem lenG {l r:List G} (h1:l.Nodup) (h2:∀ x∈l,x∈r):l.length<=r.length:=by
 obtain ⟨s,hs⟩:=subG l r h1 h2;rw [hs.length_eq,Zan];omega
theorem allG {l r:List G} (h1:l.Nodup) (h2:∀ x∈l,x∈r) (h3:r.length<=l.length):∀ x∈r,x∈l:=by
 obtain ⟨s,hs⟩:=subG l r h1 h2;have hl:=hs.length_eq;obtain rfl:s=[]:=Zbc (by rw [Zan] at hl;omega);intro x hx;simpa using hs.mem_iff.1 hx
theorem Clo.dom {u g:List G} (L:aZ mul e D) (C:Clo mul e u g) (hu:∀ b∈u,D b):∀ x∈g,D x :=
 C.ind D L.de fun x hx b hb=>L.dm b x (hu b hb) hx
theorem Clo.mono {u u' g g':List G} (C:Clo mul e u g) (C':Clo mul e u' g') (h:∀ b∈u,b∈u'):∀ x∈g,x∈g' :=
 C.ind (· ∈ g') C'.one fun x hx b hb=>C'.clo x hx b (h b hb)
theorem Clo.sub {u g l:List G} (C:Clo mul e u g) (h1:e∈l) (h2:qY mul l) (hu:∀ b∈u,b∈l):∀ x∈g,x∈l :=
 C.ind (· ∈ l) h1 fun x hx b hb=>h2 b (hu b hb) x hx
theorem Clo.prod {u g:List G} (L:aZ mul e D) (C:Clo mul e u g) (hu:∀ b∈u,D b):qY mul g:=by
 intro a ha b hb;have hd:=C.dom L hu
 have key:∀ x∈g,D x/\mul x b∈g:=C.ind (fun x=>D x/\mul x b∈g) ⟨L.de,by rw [L.el b (hd b hb)];exact hb⟩ fun x hx c hc=>⟨L.dm c x (hu c hc) hx.1,by
  rw [L.assoc c x b (hu c hc) hx.1 (hd b hb)];exact C.clo _ hx.2 c hc⟩
 exact (key a ha).2
theorem dQ {l:List G} (L:aZ mul e D) (hd:∀ a∈l,D a) (hn:l.Nodup) (h0:l≠[]) (hc:qY mul l):e∈l:=by
 obtain ⟨a,ha⟩:=List.exists_mem_of_ne_nil l h0;have nd:(l.map (mul a)).Nodup:=by
  rw [List.Nodup,Zbr];refine (List.Pairwise.and_mem.1 hn).imp ?_;rintro x y ⟨hx,hy,hxy⟩ q;exact hxy (L.cl a x y (hd a ha) (hd x hx) (hd y hy) q)
 have:=allG nd (fun x hx=>by obtain ⟨y,hy,rfl⟩:=List.mem_map.1 hx;exact hc a ha y hy) (by simp) a ha;obtain ⟨x,hx,q⟩:=List.mem_map.1 this;have:x=e:=L.cl a x e (hd a ha) (hd x hx) L.de (by rw [q,L.er a (hd a ha)]);exact this ▸ hx
theorem zh4 {l:List G} (L:aZ mul e D) (hd:∀ a∈l,D a) (hn:l.Nodup) (hc:qY mul l) (he:e∈l):∀ a∈l,∃ b∈l,mul a b=e:=by
 intro a ha;have nd:(l.map (mul a)).Nodup:=by
  rw [List.Nodup,Zbr];refine (List.Pairwise.and_mem.1 hn).imp ?_;rintro x y ⟨hx,hy,hxy⟩ q;exact hxy (L.cl a x y (hd a ha) (hd x hx) (hd y hy) q)
 have:=allG nd (fun x hx=>by obtain ⟨y,hy,rfl⟩:=List.mem_map.1 hx;exact hc a ha y hy) (by simp) e he;obtain ⟨x,hx,q⟩:=List.mem_map.1 this;exact ⟨x,hx,q⟩
structure Bfs (u:List G) (q:List G) (i:Nat):Prop where
 nd:q.Nodup
 hd:q[0]? = some e
 clo:∀ j x,j<i->q[j]? = some x->∀ b∈u,mul b x∈q
 ind:∀ T:G->Prop,T e->(∀ x,T x->∀ b∈u,T (mul b x))->∀ x∈q,T x
theorem Bfs.start (u:List G):Bfs (mul:=mul) (e:=e) u [e] 0:=⟨by simp,rfl,fun j x h=>by omega,fun T h1 _ x hx=>by rw [List.mem_singleton.1 hx];exact h1⟩
theorem Bfs.done {u q:List G} (B:Bfs (mul:=mul) (e:=e) u q q.length):Clo mul e u q :=
 ⟨Zaa B.hd,fun x hx b hb=>by
  obtain ⟨j,hj⟩:=List.mem_iff_getElem?.1 hx;exact B.clo j x (List.getElem?_eq_some_iff.1 hj).1 hj b hb,B.ind⟩
structure sO (u:List G) (q:List G) (i:Nat) (x:G) (k:Nat):Prop where
 nd:q.Nodup
 hd:q[0]? = some e
 at':q[i]? = some x
 clo:∀ j y,j<i->q[j]? = some y->∀ b∈u,mul b y∈q
 clk:∀ b∈u.take k,mul b x∈q
 ind:∀ T:G->Prop,T e->(∀ x,T x->∀ b∈u,T (mul b x))->∀ x∈q,T x
theorem Bfs.at {u q:List G} {i:Nat} {x:G} (B:Bfs (mul:=mul) (e:=e) u q i) (h:q[i]? = some x):sO (mul:=mul) (e:=e) u q i x 0:=⟨B.nd,B.hd,h,B.clo,by simp,B.ind⟩
theorem sO.had {u q:List G} {i k:Nat} {x b:G} (B:sO (mul:=mul) (e:=e) u q i x k) (hb:u[k]? = some b) (h:mul b x∈q):sO (mul:=mul) (e:=e) u q i x (k+1) :=
 ⟨B.nd,B.hd,B.at',B.clo,fun c hc=>by
  rw [Zar,hb] at hc;rcases List.mem_append.1 hc with q | q
  ·exact B.clk c q
  ·simp at q;rw [q];exact h,B.ind⟩
theorem sO.new {u q:List G} {i k:Nat} {x b:G} (B:sO (mul:=mul) (e:=e) u q i x k) (hb:u[k]? = some b) (h:mul b x∉q):sO (mul:=mul) (e:=e) u (q++[mul b x]) i x (k+1):=by
 have hget:∀ {j:Nat} {y:G},q[j]? = some y->(q++[mul b x])[j]? = some y:=fun {j y} hj=>by
  rw [List.getElem?_append_left (List.getElem?_eq_some_iff.1 hj).1];exact hj
 have hback:∀ {j:Nat} {y:G},j<i->(q++[mul b x])[j]? = some y->q[j]? = some y:=fun {j y} hj hy=>by
  have:=(List.getElem?_eq_some_iff.1 B.at').1;rw [List.getElem?_append_left (by omega)] at hy;exact hy
 refine ⟨?_,hget B.hd,hget B.at',fun j y hj hy c hc=>Zbj _ (B.clo j y hj (hback hj hy) c hc),fun c hc => ?_,fun T h1 h2 y hy => ?_⟩
 ·rw [Zau];refine ⟨B.nd,by simp,?_⟩;rintro a ha c hc rfl;rw [List.mem_singleton.1 hc] at ha;exact h ha
 ·rw [Zar,hb] at hc;rcases List.mem_append.1 hc with r | r
  ·exact Zbj _ (B.clk c r)
  ·simp at r;rw [r];simp
 ·rcases List.mem_append.1 hy with r | r
  ·exact B.ind T h1 h2 y r
  ·rw [List.mem_singleton.1 r];exact h2 x (B.ind T h1 h2 x (Zaa B.at')) b (Zaa hb)
theorem sO.next {u q:List G} {i:Nat} {x:G} (B:sO (mul:=mul) (e:=e) u q i x u.length):Bfs (mul:=mul) (e:=e) u q (i+1) :=
 ⟨B.nd,B.hd,fun j y hj hy b hb=>by
  by_cases c:j<i
  ·exact B.clo j y c hy b hb
  ·obtain rfl:j=i:=by omega
   rw [B.at'] at hy;rw [<- Option.some.inj hy];exact B.clk b (by rw [Zca];exact hb),B.ind⟩
theorem sO.many {u q l:List G} {i k:Nat} {x b:G} (L:aZ mul e D) (B:sO (mul:=mul) (e:=e) u q i x k) (hb:u[k]? = some b) (h:mul b x∉q) (hq:q.length=l.length) (hd:∀ a∈l,D a) (hn:l.Nodup) (h0:l≠[]) (hu:∀ b∈u,b∈l):¬ qY mul l:=by
 intro hc;have h1:=dQ L hd hn h0 hc;have B':=B.new hb h;have:=lenG B'.nd (B'.ind (· ∈ l) h1 fun y hy c hc'=>hc c (hu c hc') y hy);rw [Zan,List.length_singleton] at this;omega
theorem zkw {u g l:List G} (L:aZ mul e D) (C:Clo mul e u g) (hg:g.Nodup) (hd:∀ a∈l,D a) (hn:l.Nodup) (h0:l≠[]) (hu:∀ b∈u,b∈l) (hl:∀ a∈l,a∈g):g.length=l.length↔qY mul l:=by
 have hud:∀ b∈u,D b:=fun b hb=>hd b (hu b hb);constructor
 ·intro h a ha b hb;have hgl:=allG hn hl (by omega);exact hgl _ (C.prod L hud a (hl a ha) b (hl b hb))
 ·intro hc;have h1:=dQ L hd hn h0 hc;have:=lenG hg (C.sub h1 hc hu);have:=lenG hn hl;omega
end
end Go.Ev
namespace Go.Ev
open Go Go.Proofs
variable {B:Nat}
theorem zct (l:List Sym):fF (qo l)=true:=pE fun v hv=>by
 obtain ⟨x,_,hx⟩:=List.mem_flatMap.1 hv;simp only [Zag,List.not_mem_nil,or_false] at hx;rcases hx with rfl | rfl
 ·exact wO _
 ·rfl
theorem zh5 {l:List Sym}:Pure Tryz.prog B 86 [qo l] (· = .fn 144 (.of 144) [.fp [qo l]]):=by
 refine yM fun h nx K H0 hK=>zN zQ yh 10000000 fun hf => ?_;rw [F86.go];refine H0.box (l:=[qo l]) rfl fun bx h1 nx1 H1 => ?_;obtain ⟨op,t,g1,g2⟩:je h1 bx [qo l]:=H1.own _ (Zaj ..);have hfx:fF (qo l)=true:=zct l;refine hK _ _ _ _ (.fn 144 (.of 144) [.fp [qo l]]) H1 (.fn _ _ _ _ rfl fun i v v' h2 h3 => ?_) rfl
 match i with
 | 0 =>
  simp only [List.getElem?_cons_zero,Option.some.injEq] at h2 h3;subst h2 h3;refine .ptr _ _ op _ t _ (H1.off bx (by simp [Ob.names])) g1 (by simp) (by simp [jd]) fun i v hv => ?_
  match i with
  | 0 =>
   simp only [List.getElem?_cons_zero,Option.some.injEq] at hv;subst hv;have:=zV t 0 1 0 (by omega);have g2:yA t 0 1=[qo l]:=g2;rw [g2] at this;simp only [List.getElem?_cons_zero,Option.some.injEq] at this;rw [<- this];exact zJ hfx
  | i+1=>simp at hv
 | i+1=>simp at h2
theorem zea {h0 h:T Blk} {nx p id:Pa} {l:List Sym} {L:List Ob} {K:Kw Prop} (J:Nat->List Ob->Prop) (X:List Ob->Prop) (hl:l.length<=1000000) (hJ:J 0 L) (H:Hp h0 h nx L)
  (step:∀ (i:Nat) (a:Sym) (h:T Blk) (nx:Pa) (L:List Ob) (K:Kw Prop),l[i]? = some a->J i L->Hp h0 h nx L->(∀ h' nx' L',J (i+1) L'->Hp h0 h' nx' L'->K (.bool true) h' nx'=.ok True)->(∀ h' nx' L',X L'->Hp h0 h' nx' L'->K (.bool false) h' nx'=.ok True)->(CS Tryz.prog B).yld id [I i,encS a] h nx K=.ok True)
  (hK:∀ h' nx' L',(J l.length L'\/X L')->Hp h0 h' nx' L'->K (.tup []) h' nx'=.ok True):(CS Tryz.prog B).fn 144 p [.yld id,.fp [qo l]] h nx K=.ok True:=by
 refine gS (p:=.of 144) (K:=K) (zN zQ yh 10000000 fun hf => ?_) fun _ _ _ _ q=>q;rw [ku.go,zcl,zG];refine ku.L1 (fun m z6 h' nx'=>∃ (i:Nat) (L':List Ob),z6=I i/\l.length-i=m/\i<=l.length/\J i L'/\Hp h0 h' nx' L') (m:=l.length) (by omega) ⟨0,L,rfl,rfl,by omega,hJ,H⟩ ?_;rintro m z2 z3 z6 z7 z8 h1 nx1 R ⟨i,L1,rfl,rfl,hi,hJ1,H1⟩ hR;simp only [uq];by_cases hlt:i<l.length
 ·simp only [show (i:Int)<(l.length:Int) by omega,decide_true,zC];have hx:l[i]? = some l[i]:=List.getElem?_eq_getElem hlt;rw [xk rfl hlt,yW hlt,u7];refine H1.alloc fun ab h5 nx5 H5 => ?_;refine H5.uw (k:=0) (n:=2) rfl rfl rfl fun h6 H6 => ?_;rw [H6.zi (k:=0) (n:=2) rfl rfl,zkj];refine step i _ _ _ _ _ hx hJ1 H6.drop (fun h7 nx7 L7 hJ7 H7 => ?_) (fun h7 nx7 L7 hX H7 => ?_)
  ·simp only [y5,Zal,zD];rw [qj (by omega)];exact hR _ _ _ _ _ _ _ _ (by omega) ⟨i+1,L7,rfl,rfl,by omega,hJ7,H7⟩
  ·simp only [y5,Zai,zC];exact hK _ _ _ (.inr hX) H7
 ·simp only [show ¬ (i:Int)<(l.length:Int) by omega,decide_false,zD];obtain rfl:i=l.length:=by omega
  exact hK _ _ _ (.inl hJ1) H1
theorem zti {h0 h:T Blk} {nx:Pa} {L:List Ob} {k j n:Nat} {o:Option Pa} {u:List Sym} {c:Sym} (H:Hp h0 h nx L) (hk:L[k]? = some (.gro o 2 n (yR u))) (hj:u[j]? = some c):∃ id off,(∀ op:AV->OP,zK 2 (wz o 2 n) (I (j:Int)) op=op (.ptr id off))/\∀ op:AV->OP,zI 2 (.ptr id off) h op=op (encS c):=by
 have own:=H.own _ (Zaa hk);have hjl:=(List.getElem?_eq_some_iff.1 hj).1;have hlen:=kW u;cases o with
 | none =>
  obtain ⟨q,_⟩:=own;rw [q] at hlen;simp at hlen;omega
 | some id =>
  obtain ⟨t,h1,h2,h3⟩:=own;have hn:n=u.length:=by omega
  subst hn;refine ⟨id,j*2,fun op=>by rw [wz,wF hjl,Zax],fun op => ?_⟩;show jf (T.get .no id h) _ _=_;rw [h1];show (bif Nat.ble (j*2+2) (u.length*2) then op (.agg (yA t (j*2) 2)) else .no 8)=_;rw [Zac (by omega),cond_true];have e:∀ i,i<u.length*2->T.get .undef (.of i) t=(yR u).getD i .undef:=fun i hi=>by
   have:=zV t 0 (u.length*2) i hi;rw [h3,Zax] at this;rw [Zab,this];rfl
  have d:∀ i,(yR u).getD (j*2+i) .undef=((yR u).drop (j*2)).getD i .undef:=fun i=>by
   rw [Zab,Zab,List.getElem?_drop]
  have e2:yA t (j*2) 2=[T.get .undef (.of (j*2)) t,T.get .undef (.of (j*2+1)) t]:=rfl;have d0:=d 0;rw [Nat.add_zero] at d0;obtain rfl:u[j]=c:=by rw [List.getElem?_eq_getElem hjl] at hj;exact Option.some.inj hj
  rw [e2,e _ (by omega),e _ (by omega),d 1,d0,yW hjl]
  rfl
theorem DS.comp {n:Nat} {a b:Sym} (ha:DS n a) (hb:DS n b):DS n (yK a b):=by
 refine ⟨by rw [yK,uP];exact hb.1,fun x hx => ?_⟩;obtain ⟨c,hc,rfl⟩:=List.mem_map.1 hx;have h1:=hb.2 c hc;have h2:=ha.1;rw [Zab,List.getElem?_eq_getElem (by omega)];exact ha.2 _ (Zah _)
theorem DS.id (n:Nat):DS n (idS n):=by
 refine ⟨by simp [idS],fun x hx => ?_⟩;obtain ⟨j,hj,rfl⟩:=List.mem_map.1 hx;have:=List.mem_range.1 hj;omega
abbrev CloS (n:Nat) (u g:List Sym):Prop:=Clo yK (idS n) u g
abbrev BfsS (n:Nat) (u q:List Sym) (i:Nat):Prop:=Bfs (mul:=yK) (e:=idS n) u q i
abbrev mH (n:Nat) (u q:List Sym) (i:Nat) (x:Sym) (k:Nat):Prop:=sO (mul:=yK) (e:=idS n) u q i x k
def zjd (n limit:Nat) (l:List Sym):Prop:=∃ u q i x k b,(∀ c∈u,c∈l)/\mH n u q i x k/\u[k]? = some b/\yK b x∉q/\q.length=limit
theorem BfsS.ds {n:Nat} {u q:List Sym} (hu:∀ b∈u,DS n b) (h:∀ T:Sym->Prop,T (idS n)->(∀ x,T x->∀ b∈u,T (yK b x))->∀ x∈q,T x):∀ x∈q,DS n x :=
 h (DS n) (DS.id n) fun _ hx b hb=>DS.comp (hu b hb) hx
noncomputable abbrev zu.tm (n limit:Nat) (l:List Sym) (b3 b4 b5 b6 b7 b8 b9:Pa):T AV:=zu.fr (qo l) (I n) (I limit) (.ptr b3 0) (.ptr b4 0) (.ptr b5 0) (.ptr b6 0) (.ptr b7 0) (.ptr b8 0) (.ptr b9 0) .undef .undef .undef .undef (.fn 144 (.of 144) [.fp [qo l]]) .undef .undef .undef .undef .undef .undef .undef .undef .undef .undef
theorem zu.prods {N:Nat} {K0:Kw Prop} {E1 E2 E3 K:Ks Prop} {h0 h:T Blk} {nx id b3 b4 b5 b6 b8 g1:Pa} {x0 x1 x2 x7 x9 x10 x12 x13 x14 x15 x16 x17 x18 x22 x23 x24 v:AV} {o:Option Pa} {ob:Ob} {X:List Ob} {n limit i:Nat} {u q:List Sym} {x:Sym}
  (hN:100000<N) (hn:n<=256) (hlim:limit<=2000) (hu:∀ b∈u,DS n b) (hul:u.length<=2000)
  (k3:X[11]? = some (.arr b3 [I limit])) (k4:X[10]? = some (.arr b4 [.qc])) (k5:X[9]? = some (.arr b5 [.zf])) (k6:X[8]? = some (.arr b6 [.bool false])) (k8:X[4]? = some (.arr b8 [.map g1])) (kg:X[6]? = some (.gro o 2 u.length (yR u)))
  (hB:mH n u q i x 0) (hql:q.length<=limit) (hv:QV v ob (q.drop i)) (H:Hp h0 h nx (ob::.map g1 (pq q)::X))
  (hbad:∀ k b q' h' nx' O1 O2,mH n u q' i x k->u[k]? = some b->yK b x∉q'->q'.length=limit->Hp h0 h' nx' (O1::O2::X)->yO id K0 .ret false .e h' nx'=.ok True)
  (hK:∀ q' v' ob' w12 w13 w22 w23 w24 h' nx',mH n u q' i x u.length->q'.length<=limit->QV v' ob' (q'.drop i)->Hp h0 h' nx' (ob'::.map g1 (pq q')::X) ->
   K (zu.fr x0 x1 x2 (.ptr b3 0) (.ptr b4 0) (.ptr b5 0) (.ptr b6 0) x7 (.ptr b8 0) x9 x10 v' w12 w13 x14 x15 x16 x17 x18 (wz o 2 u.length) (I u.length) (I u.length) w22 w23 w24) h' nx'=.ok True) :
  IR.run zu.b13 (CS Tryz.prog B) N ((((rO id K0).blk 1 E1).blk 2 E2).blk 3 E3) K (zu.fr x0 x1 x2 (.ptr b3 0) (.ptr b4 0) (.ptr b5 0) (.ptr b6 0) x7 (.ptr b8 0) x9 x10 v x12 x13 x14 x15 x16 x17 x18 (wz o 2 u.length) (I u.length) (I 0) x22 x23 x24) h nx=.ok True:=by
 refine zu.L13 (fun m x11 x21 h' nx'=>∃ (k:Nat) (q:List Sym) (ob:Ob),x21=I k/\u.length-k=m/\k<=u.length/\mH n u q i x k/\q.length<=limit/\QV x11 ob (q.drop i)/\Hp h0 h' nx' (ob::.map g1 (pq q)::X)) (m:=u.length) (by omega) ⟨0,q,ob,rfl,rfl,by omega,hB,hql,hv,H⟩ ?_
 clear hB hql hv H v ob q
 rintro m v z12 z13 z21 z22 z23 z24 h1 nx1 R ⟨k,q,ob,rfl,rfl,hk,hB,hql,hv,H1⟩ hR;simp only [uq];by_cases hlt:k<u.length
 case neg =>
  simp only [show ¬ (k:Int)<(u.length:Int) by omega,decide_false,zD];obtain rfl:k=u.length:=by omega
  exact hK _ _ _ _ _ _ _ _ _ _ hB hql hv H1
 simp only [show (k:Int)<(u.length:Int) by omega,decide_true,zC];have hb:u[k]? = some u[k]:=List.getElem?_eq_getElem hlt;have hqd:∀ y∈q,DS n y:=BfsS.ds hu hB.ind;have hdb:=hu _ (Zah hlt);have hil:=(List.getElem?_eq_some_iff.1 hB.at').1;have hxq:q[i]=x:=by have:=hB.at';rw [List.getElem?_eq_getElem hil] at this;exact Option.some.inj this
 have hdx:DS n x:=hqd x (hxq ▸ Zah hil);have hdr:q.drop i=x::q.drop (i+1):=by rw [Zaq hil,hxq]
 have hdc:=DS.comp hdb hdx;obtain ⟨iu,ou,e1,e2⟩:=zti (k:=8) H1 kg hb;rw [e1,e2];refine H1.alloc fun c12 h2 nx2 H2 => ?_;refine H2.uw (k:=0) (n:=2) rfl rfl rfl fun h3 H3 => ?_;rw [show (true&&true)=true from rfl,jH,H3.zi (k:=0) (n:=2) rfl rfl];rw [hdr] at hv;obtain ⟨iq,oq,f1,f2⟩:=hv.first
 rw [f1,f2 H3 (k:=1) rfl];have hdb2:=hdb.1;have hdx2:=hdx.1;refine zn6 (fun y hy=>by have:=hdx.2 y hy;omega) (by omega) _ _ _ _ ?_;rintro _ rfl _;rw [f2 H3 (k:=1) rfl,zA,f1,zA,zA,H3.zi (k:=0) (n:=2) rfl rfl,zA];refine H3.alloc fun c13 h4 nx4 H4 => ?_;rw [f2 H4 (k:=2) rfl,zA,f1,zA,zA,H4.zi (k:=1) (n:=2) rfl rfl,zA];refine H4.uw (k:=0) (n:=2) rfl rfl rfl fun h5 H5 => ?_;rw [H5.load (k:=8) (i:=0) k8 rfl,H5.zi (k:=0) (n:=2) rfl rfl];refine zoa hn hdc hqd H5 (k:=3) rfl ?_;by_cases c:yK u[k] x∈q
 ·simp only [c,decide_true,zC];rw [qj (by omega)];exact hR _ _ _ _ _ _ _ _ _ _ (by omega) ⟨k+1,q,ob,rfl,rfl,by omega,hB.had hb c,hql,hdr ▸ hv,H5.drop.drop⟩
 simp only [c,decide_false,zD];rw [H5.load (k:=8) (i:=0) k8 rfl,H5.zrn (k:=3) rfl,H5.load (k:=15) (i:=0) k3 rfl];simp only [fG];by_cases c2:q.length=limit
 ·simp only [show (q.length:Int)=(limit:Int) by omega,decide_true,zC];refine H5.store (k:=14) k4 (by simp) rfl fun h6 H6 => ?_;refine H6.store (k:=13) (l:=[.zf]) (by rw [List.getElem?_set_ne (by decide)];exact k5) (by simp) rfl fun h7 H7 => ?_;refine H7.store (k:=12) (l:=[.bool false]) (by rw [List.getElem?_set_ne (by decide),List.getElem?_set_ne (by decide)];exact k6) (by simp) rfl fun h8 H8 => ?_;have ew:∀ {j:Nat} {y:Ob} (hj:X[j]? = some y),X.set j y=X:=fun {j y} hj=>by
   refine Zaz fun p => ?_;rw [List.getElem?_set];by_cases e:j=p
   ·subst e;rw [if_pos rfl,if_pos (List.getElem?_eq_some_iff.1 hj).1,hj]
   ·rw [if_neg e]
  refine hbad k _ q _ _ ob (.map g1 (pq q)) hB hb c c2 (H8.drop.drop.cast ?_);show ob::.map g1 (pq q)::((X.set 10 (.arr b4 ([AV.qc].set 0 .qc))).set 9 (.arr b5 ([AV.zf].set 0 .zf))).set 8 (.arr b6 ([AV.bool false].set 0 (.bool false)))=_;rw [show [AV.qc].set 0 .qc=[.qc] from rfl,show [AV.zf].set 0 .zf=[.zf] from rfl,show [AV.bool false].set 0 (.bool false)=[.bool false] from rfl,ew k4,ew k5,ew k6]
 simp only [show ¬ (q.length:Int)=(limit:Int) by omega,decide_false,zD];rw [H5.load (k:=8) (i:=0) k8 rfl,H5.zi (k:=0) (n:=2) rfl rfl,H5.zi (k:=0) (n:=2) rfl rfl];have hdc2:=hdc.1;refine zd8 (fun y hy=>by have:=hdc.2 y hy;omega) (by omega) _ _ _ _ ?_;rintro _ rfl _;rw [H5.zi (k:=0) (n:=2) rfl rfl,zA,H5.load (k:=8) (i:=0) k8 rfl,zA];refine H5.putS hn hdc hqd c (k:=3) rfl fun h6 H6 => ?_;rw [H6.zi (k:=0) (n:=2) rfl rfl];refine H6.yg (l:=[encI (yK u[k] x).1,.bool (yK u[k] x).2]) rfl fun tb h7 nx7 H7 => ?_;refine hv.app (c:=yK u[k] x) (by simp) H7 (k:=3) rfl (je.rd (l:=[encI (yK u[k] x).1,.bool (yK u[k] x).2]) (n:=1) (e:=2) (H7.own _ (Zaj ..)) rfl) ?_ fun v' ob' h8 nx8 hv' H8 => ?_
 ·rw [<- hdr,List.length_drop];omega
 rw [qj (by omega)];refine hR _ _ _ _ _ _ _ _ _ _ (by omega) ⟨k+1,q++[yK u[k] x],ob',rfl,rfl,by omega,hB.new hb c,by rw [Zan,List.length_singleton];omega,?_,H8.drop.drop.drop⟩;rw [List.drop_append_of_le_length (by omega),hdr];exact hv'
theorem comp_id {n:Nat} {b:Sym} (hb:DS n b):yK b (idS n)=b:=by
 have h1:=hb.1;refine Prod.ext ?_ (by show (b.2 != false)=b.2;cases b.2 <;> rfl);show uZ b.1 ((List.range n).map fun j:Nat=>(j:Int))=b.1;refine Zaz fun i => ?_;rw [uZ,List.map_map,List.getElem?_map];by_cases hi:i<n
 ·rw [List.getElem?_range hi,List.getElem?_eq_getElem (by omega)];show some (b.1.getD ((i:Nat):Int).toNat 0)=_;rw [Zab,Int.toNat_natCast,List.getElem?_eq_getElem (by omega)];rfl
 ·rw [List.getElem?_eq_none (by simp;omega),List.getElem?_eq_none (by omega)];rfl
theorem zu.bfs {N:Nat} {K0:Kw Prop} {E1 K:Ks Prop} {h0 h:T Blk} {nx id b3 b4 b5 b6 b8 b9 g1:Pa} {x0 x1 x2 x7 x10 x12 x13 x14 x15 x16 x17 x18 x19 x20 x21 x22 x23 x24 v:AV} {o:Option Pa} {ob:Ob} {X:List Ob} {n limit:Nat} {u q:List Sym}
  (hN:100000<N) (hn:n<=256) (hlim:limit<=2000) (hu:∀ b∈u,DS n b) (hul:u.length<=2000)
  (k3:X[11]? = some (.arr b3 [I limit])) (k4:X[10]? = some (.arr b4 [.qc])) (k5:X[9]? = some (.arr b5 [.zf])) (k6:X[8]? = some (.arr b6 [.bool false])) (k8:X[4]? = some (.arr b8 [.map g1])) (kg:X[6]? = some (.gro o 2 u.length (yR u))) (k9:X[3]? = some (.arr b9 [wz o 2 u.length]))
  (hB:BfsS n u q 0) (hql:q.length<=limit) (hv:QV v ob q) (H:Hp h0 h nx (ob::.map g1 (pq q)::X))
  (hbad:∀ i x k b q' h' nx' O1 O2,mH n u q' i x k->u[k]? = some b->yK b x∉q'->q'.length=limit->Hp h0 h' nx' (O1::O2::X)->yO id K0 .ret false .e h' nx'=.ok True)
  (hK:∀ q' ob' tm h' nx',CloS n u q'->q'.Nodup->q'.length<=limit->Hp h0 h' nx' (ob'::.map g1 (pq q')::X)->K tm h' nx'=.ok True) :
  IR.run zu.b7 (CS Tryz.prog B) N ((rO id K0).blk 1 E1) K (zu.fr x0 x1 x2 (.ptr b3 0) (.ptr b4 0) (.ptr b5 0) (.ptr b6 0) x7 (.ptr b8 0) (.ptr b9 0) x10 v x12 x13 x14 x15 x16 x17 x18 x19 x20 x21 x22 x23 x24) h nx=.ok True:=by
 refine zu.L7 (fun m x11 h' nx'=>∃ (i:Nat) (q:List Sym) (ob:Ob),limit-i=m/\i<=q.length/\BfsS n u q i/\q.length<=limit/\QV x11 ob (q.drop i)/\Hp h0 h' nx' (ob::.map g1 (pq q)::X)) (m:=limit) (by omega) ⟨0,q,ob,rfl,by omega,hB,hql,hv,H⟩ ?_
 clear hB hql hv H v ob q
 rintro m v z12 z13 z18 z19 z20 z21 z22 z23 z24 h1 nx1 R ⟨i,q,ob,rfl,hi,hB,hql,hv,H1⟩ hR;rw [hv.len];simp only [pz];by_cases hlt:i<q.length
 case neg =>
  rw [List.length_drop];simp only [show ¬ (0:Int)<((q.length-i:Nat):Int) by omega,decide_false,zD];obtain rfl:i=q.length:=by omega
  exact hK _ _ _ _ _ hB.done hB.nd hql H1
 rw [List.length_drop];simp only [show (0:Int)<((q.length-i:Nat):Int) by omega,decide_true,zC];rw [H1.load (k:=5) (i:=0) k9 rfl,H1.zd1 (k:=8) kg];refine zu.prods (x:=q[i]) hN hn hlim hu hul k3 k4 k5 k6 k8 kg (hB.at (List.getElem?_eq_getElem hlt)) hql hv H1 (fun k b q' h' nx' O1 O2 a1 a2 a3 a4 a5=>hbad i _ k b q' h' nx' O1 O2 a1 a2 a3 a4 a5) fun q' v' ob' w12 w13 w22 w23 w24 h2 nx2 hB2 hql2 hv2 H2 => ?_;have hil:=(List.getElem?_eq_some_iff.1 hB2.at').1;rw [Zaq hil] at hv2;obtain ⟨v3,e3,hv3⟩:=hv2.rest;rw [zu.k22,e3];exact hR _ _ _ _ _ _ _ _ _ _ _ _ _ (by omega) ⟨i+1,q',ob',rfl,by omega,hB2.next,hql2,hv3,H2⟩
def zu.J (n limit:Nat) (l:List Sym) (id b3 b4 b5 b6 b7 b8 b9:Pa) (L:List Ob) (i:Nat) (L':List Ob):Prop :=
 ∃ (u q:List Sym) (o:Option Pa) (g:Pa),(∀ c∈u,c∈l)/\u.length<=i/\(∀ a∈l.take i,a∈q)/\q.Nodup/\CloS n u q/\q.length<=limit /\
  L'=.raw id (.loop .ready .none (zu.tm n limit l b3 b4 b5 b6 b7 b8 b9) [.of 15,.of 16] zu.b3 zu.b4)::.arr b9 [wz o 2 u.length]::.arr b8 [.map g]::.map g (pq q)::.gro o 2 u.length (yR u)::.arr b7 [encI (idS n).1,.bool (idS n).2]::.arr b6 [.bool false]::.arr b5 [.zf]::.arr b4 [.qc]::.arr b3 [I limit]::L
def zu.X (n limit:Nat) (l:List Sym) (id b3 b4 b5 b6 b7 b8 b9:Pa) (L:List Ob) (L':List Ob):Prop :=
 zjd n limit l/\∃ O1 O2 O3 O4 O5 O6 O7 O8 O9,L'=O1::O2::O3::O4::.raw id (.loop .done .ret (zu.tm n limit l b3 b4 b5 b6 b7 b8 b9) [.of 15,.of 16] zu.b3 zu.b4)::O5::O6::O7::O8::O9::.arr b6 [.bool false]::.arr b5 [.zf]::.arr b4 [.qc]::.arr b3 [I limit]::L
theorem Hp.tidy {h0 h:T Blk} {nx:Pa} {A M T' B' R B9 B8 G:Ob} {L:List Ob} (H:Hp h0 h nx (A::M::T'::B'::R::B9::B8::G::L)):Hp h0 h nx (R::B9::B8::M::L):=by
 have e1:(M::T'::B'::R::B9::B8::G::L).Perm (T'::B'::R::B9::B8::M::G::L):=(Zbo (l₁:=[T',B',R,B9,B8]) (a:=M) (l₂:=G::L)).symm;have H1:=H.drop.perm e1;have e2:(R::B9::B8::M::G::L).Perm (G::R::B9::B8::M::L):=Zbo (l₁:=[R,B9,B8,M]) (a:=G) (l₂:=L);exact (H1.drop.drop.perm e2).drop
theorem Hp.zv3 {h0 h:T Blk} {nx:Pa} {A1 A2 M G B1 B2 B3 B4 B5:Ob} {L:List Ob} (H:Hp h0 h nx (A1::A2::M::G::B1::B2::B3::B4::B5::L)):Hp h0 h nx (M::G::L):=by
 have e1:(M::G::B1::B2::B3::B4::B5::L).Perm (M::B1::B2::B3::B4::B5::G::L):=.cons _ (Zbo (l₁:=[B1,B2,B3,B4,B5]) (a:=G) (l₂:=L)).symm;have e2:(M::B1::B2::B3::B4::B5::G::L).Perm (B1::B2::B3::B4::B5::M::G::L):=(Zbo (l₁:=[B1,B2,B3,B4,B5]) (a:=M) (l₂:=G::L)).symm;exact (H.drop.drop.perm (e1.trans e2)).drop.drop.drop.drop.drop
theorem zu.round {h0 h:T Blk} {nx id b3 b4 b5 b6 b7 b8 b9:Pa} {K:Kw Prop} {L L':List Ob} {n limit i:Nat} {l:List Sym} {a:Sym} (hn:n<=256) (hl1:1<=limit) (hlim:limit<=2000) (hl:∀ a∈l,DS n a) (hll:l.length<=2000) (hx:l[i]? = some a)
  (hJ:zu.J n limit l id b3 b4 b5 b6 b7 b8 b9 L i L') (H:Hp h0 h nx L')
  (hj:∀ h' nx' L',zu.J n limit l id b3 b4 b5 b6 b7 b8 b9 L (i+1) L'->Hp h0 h' nx' L'->K (.bool true) h' nx'=.ok True)
  (hs:∀ h' nx' L',zu.X n limit l id b3 b4 b5 b6 b7 b8 b9 L L'->Hp h0 h' nx' L'->K (.bool false) h' nx'=.ok True):(CS Tryz.prog B).yld id [I i,encS a] h nx K=.ok True:=by
 obtain ⟨u,q,o,g,hu,hul,hin,hnd,hC,hql,rfl⟩:=hJ;have hi:=(List.getElem?_eq_some_iff.1 hx).1;have ham:=Zaa hx;have hda:=hl a ham;have hqd:∀ y∈q,DS n y:=BfsS.ds (fun b hb=>hl b (hu b hb)) hC.ind;have htk:∀ c∈l.take (i+1),c∈l.take i\/c=a:=fun c hc=>by
  rw [Zar,hx] at hc;rcases List.mem_append.1 hc with r | r
  ·exact .inl r
  ·exact .inr (by simpa using r)
 refine za6 (fns:=tbl) yh 10000000 fun hf => ?_;rw [zu.p4 (vL H (k:=0) rfl)];refine H.alloc fun b10 h1 nx1 H1 => ?_;refine H1.uw (k:=0) (n:=2) rfl rfl rfl fun h2 H2 => ?_;rw [zd2 (vL H2 (k:=1) rfl)];have H3:=H2.zhu (k:=1) rfl (b':=.loop .busy .none (zu.tm n limit l b3 b4 b5 b6 b7 b8 b9) [.of 15,.of 16] zu.b3 zu.b4) (by intro e;cases e);rw [zu.y4,H3.load (k:=3) (i:=0) rfl rfl,H3.zi (k:=0) (n:=2) rfl rfl];refine zoa hn hda hqd H3 (k:=4) rfl ?_;by_cases c:a∈q
 ·simp only [c,decide_true,zC];refine H3.rend (k:=1) rfl fun h4 H4 => ?_;exact hj _ _ _ ⟨u,q,o,g,hu,by omega,fun d hd=>(htk d hd).elim (hin d) (fun e=>e ▸ c),hnd,hC,hql,rfl⟩ H4.drop
 simp only [c,decide_false,zD];rw [H3.load (k:=2) (i:=0) rfl rfl,H3.zi (k:=0) (n:=2) rfl rfl];refine H3.yg (l:=[encI a.1,.bool a.2]) rfl fun tb h4 nx4 H4 => ?_;rw [aA];refine H4.appN (k:=6) (o:=o) (c:=1) (esz:=2) (new:=[encI a.1,.bool a.2]) rfl (je.rd (l:=[encI a.1,.bool a.2]) (n:=1) (e:=2) (H4.own _ (Zaj ..)) rfl) rfl rfl (by decide) (by decide) (by omega) fun o' h5 nx5 _ H5 => ?_;refine H5.store (k:=3) rfl (by simp) (qG _ _ _) fun h6 H6 => ?_;rw [show (true&&true)=true from rfl,jH,H6.zi (k:=7) (n:=2) rfl rfl,H6.zi (k:=7) (n:=2) rfl rfl];have hid:=DS.id n;have hid1:=hid.1;refine zd8 (a:=idS n) (fun y hy=>by have:=hid.2 y hy;omega) (by omega) _ _ _ _ ?_;rintro _ rfl _;rw [H6.zi (k:=7) (n:=2) rfl rfl,zA,H6.zi (k:=7) (n:=2) rfl rfl,zA];refine H6.rQ fun g1 h7 nx7 H7 => ?_;rw [H7.zi (k:=8) (n:=2) rfl rfl,zA,H7.zi (k:=8) (n:=2) rfl rfl,zA];refine H7.putS hn hid (ks:=[]) (by simp) (by simp) (k:=0) rfl fun h8 H8 => ?_;refine H8.store (k:=5) rfl (by simp) rfl fun h9 H9 => ?_;rw [H9.zi (k:=8) (n:=2) rfl rfl];refine H9.yg (l:=[encI (idS n).1,.bool (idS n).2]) rfl fun qb h10 nx10 H10 => ?_;have eu:u.length+1=(u++[a]).length:=by simp
 have ef:yR u++[encI a.1,.bool a.2]=yR (u++[a]):=by simp [yR]
 have hu':∀ b∈u++[a],b∈l:=fun b hb=>by
  rcases List.mem_append.1 hb with r | r
  ·exact hu b r
  ·rw [List.mem_singleton.1 r];exact ham
 rw [eu,ef] at H10;refine zu.bfs (o:=o') (ob:=.arr qb [encI (idS n).1,.bool (idS n).2]) (u:=u++[a]) (q:=[idS n]) (limit:=limit) (by decide) hn hlim (fun b hb=>hl b (hu' b hb)) (by simp;omega) rfl rfl rfl rfl rfl rfl rfl (Bfs.start _) (by simpa using hl1) (.cap qb 0 _ [idS n] (by simp) rfl) H10 (fun j x k b q' h' nx' O1 O2 a1 a2 a3 a4 H' => ?_) fun q' ob' tm h' nx' hC' hnd' hql' H' => ?_
 ·refine H'.rend (k:=4) rfl fun h11 H11 => ?_;exact hs _ _ _ ⟨⟨u++[a],q',j,x,k,b,hu',a1,a2,a3,a4⟩,_,_,_,_,_,_,_,_,_,rfl⟩ H11
 ·refine H'.rend (k:=4) rfl fun h11 H11 => ?_;refine hj _ _ _ ⟨u++[a],q',o',g1,hu',by simp;omega,fun d hd => ?_,hnd',hC',hql',rfl⟩ (Hp.tidy H11);rcases htk d hd with r | rfl
  ·exact Clo.mono hC hC' (fun b hb=>Zbj _ hb) d (hin d r)
  ·have:=hC'.clo _ hC'.one d (by simp)
   rwa [comp_id hda] at this
theorem zh6 {h0 h:T Blk} {nx p:Pa} {K:Kw Prop} {L:List Ob} {n limit:Nat} {l:List Sym} (hn:n<=256) (hl1:1<=limit) (hlim:limit<=2000) (hl:∀ a∈l,DS n a) (hll:l.length<=2000) (H:Hp h0 h nx L)
  (hno:∀ h' nx',zjd n limit l->Hp h0 h' nx' L->K (.tup [.qc,.zf,.bool false]) h' nx'=.ok True)
  (hyes:∀ (u q:List Sym) g o h' nx',(∀ c∈u,c∈l)->(∀ a∈l,a∈q)->q.Nodup->CloS n u q->q.length<=limit->Hp h0 h' nx' (.map g (pq q)::.gro o 2 u.length (yR u)::L)->K (.tup [.map g,wz o 2 u.length,.bool true]) h' nx'=.ok True) :
  (CS Tryz.prog B).fn 200 p [qo l,I n,I limit] h nx K=.ok True:=by
 refine gS (p:=.of 200) (K:=K) (zN zQ yh 10000000 fun hf => ?_) fun _ _ _ _ q=>q;have hid:=DS.id n;have hid1:=hid.1;rw [zu.go];refine H.box (l:=[I limit]) rfl fun b3 h1 nx1 H1 => ?_;refine H1.alloc fun b4 h2 nx2 H2 => ?_;refine H2.alloc fun b5 h3 nx3 H3 => ?_;refine H3.alloc fun b6 h4 nx4 H4 => ?_;refine zfx (by omega) _ _ _ _ ?_;rintro _ rfl _;refine H4.alloc fun b7 h5 nx5 H5 => ?_;refine H5.uw (k:=0) (n:=2) rfl rfl rfl fun h6 H6 => ?_;rw [show (true&&(true&&true))=true from rfl,jH,H6.zi (k:=0) (n:=2) rfl rfl,H6.zi (k:=0) (n:=2) rfl rfl];refine zd8 (a:=idS n) (fun y hy=>by have:=hid.2 y hy;omega) (by omega) _ _ _ _ ?_;rintro _ rfl _;rw [H6.zi (k:=0) (n:=2) rfl rfl,zA,H6.zi (k:=0) (n:=2) rfl rfl,zA];refine H6.rQ fun g h7 nx7 H7 => ?_;rw [H7.zi (k:=1) (n:=2) rfl rfl,zA,H7.zi (k:=1) (n:=2) rfl rfl,zA];refine H7.putS hn hid (ks:=[]) (by simp) (by simp) (k:=0) rfl fun h8 H8 => ?_;rw [H8.zi (k:=1) (n:=2) rfl rfl,zA,H8.zi (k:=1) (n:=2) rfl rfl,zA];refine H8.alloc fun b8 h9 nx9 H9 => ?_;rw [zA,H9.zi (k:=2) (n:=2) rfl rfl,zA,H9.zi (k:=2) (n:=2) rfl rfl,zA];refine H9.store (k:=0) rfl (by simp) rfl fun h10 H10 => ?_;refine H10.alloc fun b9 h11 nx11 H11 => ?_;refine zh5 _ _ _ _ ?_;rintro _ rfl _;have H12:=H11.tV 2;have H13:Hp h0 h11 nx11 (.arr b9 [wz none 2 0]::.arr b8 [.map g]::.map g (pq [idS n])::.gro none 2 0 []::.arr b7 [encI (idS n).1,.bool (idS n).2]::.arr b6 [.bool false]::.arr b5 [.zf]::.arr b4 [.qc]::.arr b3 [I limit]::L):=by
  have e:=(Zbo (l₁:=[.arr b9 [wz none 2 0],.arr b8 [.map g],.map g (pq [idS n])]) (a:=Ob.gro none 2 0 []) (l₂:=.arr b7 [encI (idS n).1,.bool (idS n).2]::.arr b6 [.bool false]::.arr b5 [.zf]::.arr b4 [.qc]::.arr b3 [I limit]::L)).symm;exact H12.perm e
 refine H13.rf (g:=144) (p:=.of 144) (cap:=[.fp [qo l]]) rfl fun id h14 nx14 H14 => ?_;refine zea (zu.J n limit l id b3 b4 b5 b6 b7 b8 b9 L) (zu.X n limit l id b3 b4 b5 b6 b7 b8 b9 L) (by omega) ⟨[],[idS n],none,g,by simp,by simp,by simp,by simp,?_,by simpa using hl1,rfl⟩ H14 (fun i a h' nx' L' K' hx hJ H' hj hs=>zu.round hn hl1 hlim hl hll hx hJ H' hj hs) fun h' nx' L' hJX H' => ?_
 ·exact ⟨by simp,fun x _ b hb=>absurd hb (by simp),(Bfs.start (mul:=yK) (e:=idS n) []).ind⟩
 rcases hJX with ⟨u,q,o,g',hu,hul,hin,hnd,hC,hql,rfl⟩ | ⟨hT,O1,O2,O3,O4,O5,O6,O7,O8,O9,rfl⟩
 ·refine H'.fV fun h15 H15 => ?_;rw [zbd,zu.k23,H15.load (k:=1) (i:=0) rfl rfl,H15.load (k:=0) (i:=0) rfl rfl];refine H15.store (k:=7) rfl (by simp) rfl fun h16 H16 => ?_;rw [H16.load (k:=0) (i:=0) rfl rfl,zA];refine H16.store (k:=6) rfl (by simp) (qG _ _ _) fun h17 H17 => ?_;refine H17.store (k:=5) rfl (by simp) rfl fun h18 H18 => ?_;rw [H18.load (k:=7) (i:=0) rfl rfl,H18.load (k:=6) (i:=0) rfl rfl,H18.load (k:=5) (i:=0) rfl rfl];rw [Zca] at hin;exact hyes u q g' o _ _ hu hin hnd hC hql (Hp.zv3 H18)
 ·have Q:=H'.front (k:=4) rfl;refine Q.fV fun h15 H15 => ?_;show Ev.fV _ _ .done .ret _ h15 nx'=_;rw [pX];have e:∀ E0,(((fnO zu.res K).blk 0 E0).rt (zu.tm n limit l b3 b4 b5 b6 b7 b8 b9) h15 nx')=(zF (.ptr b4 0) h15 fun v1=>zF (.ptr b5 0) h15 fun v2=>zF (.ptr b6 0) h15 fun v3=>K (.tup [v1,v2,v3]) h15 nx'):=fun E0=>by kernel_rfl
  rw [e,H15.load (k:=11) (i:=0) rfl rfl,H15.load (k:=10) (i:=0) rfl rfl,H15.load (k:=9) (i:=0) rfl rfl];exact hno _ _ hT H15.drop.drop.drop.drop.drop.drop.drop.drop.drop.drop.drop.drop.drop
end Go.Ev
namespace Go.Ev
open Go Go.Proofs
def DP (n:Nat) (a:Sym):Prop:=DS n a/\a.1.Nodup
theorem DP.perm {n:Nat} {a:Sym} (h:DP n a):bf a.1:=⟨h.2,by rw [h.1.1];exact h.1.2⟩
theorem DP.of {n:Nat} {a:Sym} (h:bf a.1) (hl:a.1.length=n):DP n a:=⟨⟨hl,by have:=h.2;rw [hl] at this;exact this⟩,h.1⟩
theorem uO {n:Nat} {a b:Sym} (hb:DS n b) {i:Nat} (hi:i<n):(yK a b).1[i]? = some (a.1.getD (b.1.getD i 0).toNat 0):=by
 have h1:=hb.1;show (b.1.map fun c=>a.1.getD c.toNat 0)[i]? = _;rw [List.getElem?_map,Zab (l:=b.1),List.getElem?_eq_getElem (by omega)]
 rfl
theorem DS.get {n:Nat} {b:Sym} (hb:DS n b) {i:Nat} (hi:i<n):b.1[i]? = some (b.1.getD i 0)/\0<=b.1.getD i 0/\b.1.getD i 0<(n:Int):=by
 have h1:=hb.1;have e:b.1[i]? = some (b.1.getD i 0):=by rw [Zab,List.getElem?_eq_getElem (by omega)];rfl
 exact ⟨e,hb.2 _ (Zaa e)⟩
theorem DP.inj {n:Nat} {a:Sym} (ha:DP n a) {i j:Nat} (hi:i<n) (hj:j<n) (h:a.1.getD i 0=a.1.getD j 0):i=j:=by
 obtain ⟨e1,_⟩:=ha.1.get hi;obtain ⟨e2,_⟩:=ha.1.get hj;rw [h] at e1;obtain ⟨p1,q1⟩:=List.getElem?_eq_some_iff.1 e1;obtain ⟨p2,q2⟩:=List.getElem?_eq_some_iff.1 e2;exact (List.getElem_inj (h₀:=p1) (h₁:=p2) ha.2).1 (q1.trans q2.symm)
theorem wP {n:Nat} {p q:List Int} (hp:p.length=n) (hq:q.length=n) (h:∀ i,i<n->p[i]? = q[i]?):p=q:=by
 refine Zaz fun i => ?_;by_cases hi:i<n
 ·exact h i hi
 ·rw [List.getElem?_eq_none (by omega),List.getElem?_eq_none (by omega)]
theorem xV (n:Nat):aZ yK (idS n) (DP n):={
 de:=⟨DS.id n,by
  show ((List.range n).map fun j:Nat=>(j:Int)).Nodup;rw [List.Nodup,Zbr];exact List.nodup_range.imp fun h q=>h (by omega)⟩
 dm a b ha hb:=⟨DS.comp ha.1 hb.1,by
  show (b.1.map fun c=>a.1.getD c.toNat 0).Nodup;rw [List.Nodup,Zbr];refine (List.Pairwise.and_mem.1 hb.2).imp ?_;rintro x y ⟨hx,hy,hxy⟩ q;have h1:=hb.1.2 x hx;have h2:=hb.1.2 y hy;have:=ha.inj (i:=x.toNat) (j:=y.toNat) (by omega) (by omega) q;exact hxy (by omega)⟩
 assoc a b c ha hb hc:=by
  refine Prod.ext ?_ (by show ((a.2 != b.2) != c.2)=(a.2 != (b.2 != c.2));cases a.2 <;> cases b.2 <;> cases c.2 <;> rfl);refine wP (n:=n) (by rw [yK,uP];exact hc.1.1) (by rw [yK,uP,yK,uP];exact hc.1.1) fun i hi => ?_;obtain ⟨e1,h1,h2⟩:=hc.1.get hi;have hk:(c.1.getD i 0).toNat<n:=by omega
  rw [uO hc.1 hi,uO (DS.comp hb.1 hc.1) hi];have q1:=uO (a:=a) hb.1 hk;have q2:=uO (a:=b) hc.1 hi;rw [Zab (l:=(yK a b).1),q1,Zab (l:=(yK b c).1),q2]
  rfl
 el a ha:=by
  refine Prod.ext ?_ (by show (false != a.2)=a.2;cases a.2 <;> rfl);refine wP (n:=n) (by rw [yK,uP];exact ha.1.1) ha.1.1 fun i hi => ?_;obtain ⟨e1,h1,h2⟩:=ha.1.get hi;rw [uO ha.1 hi,e1];show some (((List.range n).map fun j:Nat=>(j:Int)).getD (a.1.getD i 0).toNat 0)=_;rw [Zab (l:=List.map _ _),List.getElem?_map,List.getElem?_range (by omega)];show some (((a.1.getD i 0).toNat:Nat):Int)=_
  congr 1;omega
 er a ha:=comp_id ha.1
 cl a b c ha hb hc h:=by
  refine Prod.ext ?_ ?_
  ·refine wP (n:=n) hb.1.1 hc.1.1 fun i hi => ?_;obtain ⟨e1,h1,h2⟩:=hb.1.get hi;obtain ⟨e2,h3,h4⟩:=hc.1.get hi;have q:(yK a b).1[i]? = (yK a c).1[i]? := by rw [h]
   rw [uO hb.1 hi,uO hc.1 hi] at q;have:=ha.inj (by omega) (by omega) (Option.some.inj q);rw [e1,e2];congr 1;omega
  ·have q:(a.2 != b.2)=(a.2 != c.2):=congrArg Prod.snd h;cases h1:a.2 <;> cases h2:b.2 <;> cases h3:c.2 <;> rw [h1,h2,h3] at q <;> first | rfl | cases q }
theorem oU {G:List Sym}:clG G=true↔qY yK G:=by
 rw [clG,Zae];constructor
 ·intro h a ha b hb;have:=h a ha;rw [Zae] at this;exact of_decide_eq_true (this b hb)
 ·intro h a ha;rw [Zae];exact fun b hb=>decide_eq_true (h a ha b hb)
theorem zf0 {a b c:List Int} (h1:yS a b=true) (h2:yS b c=true):yS a c=true:=by
 rw [u5,decide_eq_true_eq] at h1 h2 ⊢;exact jJ h1 h2
theorem zh7 {a b c:Sym} (h1:sH a b=true) (h2:sH b c=true):sH a c=true:=by
 rw [sH] at h1 h2 ⊢;by_cases c1:a.1=b.1
 ·rw [if_pos c1] at h1;by_cases c2:b.1=c.1
  ·rw [if_pos c2] at h2;rw [if_pos (c1.trans c2)];cases h3:a.2 <;> cases h4:b.2 <;> cases h5:c.2 <;> simp_all
  ·rw [if_neg c2] at h2;rw [if_neg (by rw [c1];exact c2),c1];exact h2
 ·rw [if_neg c1] at h1;by_cases c2:b.1=c.1
  ·rw [if_neg (by rw [<- c2];exact c1),<- c2];exact h1
  ·rw [if_neg c2] at h2;have:=zf0 h1 h2;rw [if_neg (fun e=>by rw [e,xC] at this;cases this)];exact this
theorem zf1 (a:Sym):sH a a=false:=by rw [sH,if_pos rfl];cases a.2 <;> rfl
theorem zje:∀ {G:List Sym},rJ G=true->G.Pairwise fun a b=>sH a b=true
 | [],_=>.nil
 | [a],_=>by simp
 | a::b::G,h=>by
  have e:rJ (a::b::G)=(sH a b&&rJ (b::G)):=rfl;rw [e,Zad] at h;have ih:=zje h.2;refine List.pairwise_cons.2 ⟨fun c hc => ?_,ih⟩;rcases List.mem_cons.1 hc with rfl | hc
  ·exact h.1
  ·exact zh7 h.1 ((List.pairwise_cons.1 ih).1 c hc)
theorem dI {G:List Sym} (h:rJ G=true):G.Nodup:=(zje h).imp fun hab e=>by rw [e,zf1] at hab;cases hab
structure oH (G:List Sym) (n:Nat):Prop where
 n256:n<=256
 ne:G≠[]
 len:G.length<=1536
 dp:∀ g∈G,DP n g
 ord:rJ G=true
 cl:qY yK G
theorem oH.nd {G:List Sym} {n:Nat} (h:oH G n):G.Nodup:=dI h.ord
theorem oH.one {G:List Sym} {n:Nat} (h:oH G n):idS n∈G:=dQ (xV n) h.dp h.nd h.ne h.cl
theorem oH.inv {G:List Sym} {n:Nat} (h:oH G n):∀ a∈G,∃ b∈G,yK a b=idS n:=zh4 (xV n) h.dp h.nd h.cl h.one
theorem vK {G:List Sym} {z:Int} (h:yL G z=0):∃ n:Nat,z=(n:Int)/\oH G n:=by
 rw [yL] at h;by_cases c1:z<0\/256<z
 ·rw [if_pos c1] at h;cases h
 rw [if_neg c1] at h;by_cases c2:G.length=0
 ·rw [if_pos c2] at h;cases h
 rw [if_neg c2] at h;by_cases c3:1536<G.length
 ·rw [if_pos c3] at h;cases h
 rw [if_neg c3] at h;by_cases c4:jA z G=0
 case neg=>rw [if_pos c4] at h;exact absurd h c4
 rw [if_neg (by simp [c4])] at h;by_cases c5:rJ G=false
 ·rw [if_pos c5] at h;cases h
 rw [if_neg c5] at h;by_cases c6:clG G=false
 ·rw [if_pos c6] at h;cases h
 refine ⟨z.toNat,by omega,by omega,by rintro rfl;exact c2 rfl,by omega,fun g hg => ?_,by simpa using c5,oU.1 (by simpa using c6)⟩;obtain ⟨_,h2,h3⟩:=uN (qD c4 g hg);exact DP.of h3 (by omega)
end Go.Ev
namespace Go.Ev
open Go Go.Proofs
variable {B:Nat}
theorem zp8 (op:KW3->OP) (h:T Blk) (nx:Pa) (k:KW3):sGW (.bool false) true op h nx k=k .undef h nx:=nr rfl
theorem zp9 (op:KW3->OP) (h:T Blk) (nx:Pa) (k:KW3):sGW (.bool true) true op h nx k=op k:=nr rfl
noncomputable abbrev yu.tm (n:Int) (l:List Sym) (b2 b3 b4 b5:Pa):T AV:=yu.fr (qo l) (I n) (.ptr b2 0) (.ptr b3 0) (.ptr b4 0) (.ptr b5 0) (I 0) (I 0) .undef .undef .undef .undef .undef (.bool false) (.bool false) (.fn 144 (.of 144) [.fp [qo l]]) .undef .undef .undef .undef
def yu.J (n:Int) (l:List Sym) (id b2 b3 b4 b5:Pa) (L:List Ob) (i:Nat) (L':List Ob):Prop :=
 rJ l=rJ (l.drop (i-1))/\L'=.raw id (.loop .ready .none (yu.tm n l b2 b3 b4 b5) [.of 16,.of 17] yu.b5 yu.b6)::.arr b5 [I 0]::.arr b4 [.zf]::.arr b3 [.qc]::.arr b2 [qo l]::L
def yu.X (n:Int) (l:List Sym) (id b2 b3 b4 b5:Pa) (L:List Ob) (L':List Ob):Prop :=
 rJ l=false/\∃ O1,L'=O1::.raw id (.loop .done .ret (yu.tm n l b2 b3 b4 b5) [.of 16,.of 17] yu.b5 yu.b6)::.arr b5 [I 11]::.arr b4 [.zf]::.arr b3 [.qc]::.arr b2 [qo l]::L
theorem yu.round {h0 h:T Blk} {nx id b2 b3 b4 b5:Pa} {K:Kw Prop} {L L':List Ob} {i:Nat} {n:Int} {l:List Sym} {a:Sym} (hll:l.length<=2000) (hw:∀ g∈l,g.1.length<=1000000) (hx:l[i]? = some a)
  (hJ:yu.J n l id b2 b3 b4 b5 L i L') (H:Hp h0 h nx L')
  (hj:∀ h' nx' L',yu.J n l id b2 b3 b4 b5 L (i+1) L'->Hp h0 h' nx' L'->K (.bool true) h' nx'=.ok True)
  (hs:∀ h' nx' L',yu.X n l id b2 b3 b4 b5 L L'->Hp h0 h' nx' L'->K (.bool false) h' nx'=.ok True):(CS Tryz.prog B).yld id [I i,encS a] h nx K=.ok True:=by
 obtain ⟨ho,rfl⟩:=hJ;have hi:=(List.getElem?_eq_some_iff.1 hx).1;refine za6 (fns:=tbl) yh 10000 fun hf => ?_;rw [yu.p6 (vL H (k:=0) rfl)];refine H.alloc fun b10 h1 nx1 H1 => ?_;refine H1.uw (k:=0) (n:=2) rfl rfl rfl fun h2 H2 => ?_;rw [zd2 (vL H2 (k:=1) rfl)];have H3:=H2.zhu (k:=1) rfl (b':=.loop .busy .none (yu.tm n l b2 b3 b4 b5) [.of 16,.of 17] yu.b5 yu.b6) (by intro e;cases e);rw [yu.y6];simp only [pz];by_cases c0:i=0
 ·subst c0;simp only [show ¬ (0:Int)<((0:Nat):Int) by decide,decide_false,j5,zp8,zY,zD];refine H3.rend (k:=1) rfl fun h4 H4 => ?_;exact hj _ _ _ ⟨ho,rfl⟩ H4.drop
 simp only [show (0:Int)<(i:Int) by omega,decide_true,y0,zp9];have hi1:i-1<l.length:=by omega
 have hai:l[i]=a:=by rw [List.getElem?_eq_getElem hi] at hx;exact Option.some.inj hx
 rw [H3.load (k:=5) (i:=0) rfl rfl,rG (by omega),xk (i:=i-1) (by omega) hi1,yW hi1,u7,H3.zi (k:=0) (n:=2) rfl rfl];refine zh3 (a:=l[i-1]) (b:=a) (hw _ (Zah hi1)) (hw _ (Zaa hx)) _ _ _ _ ?_;rintro _ rfl _;rw [fO,zT];have hd:rJ (l.drop (i-1))=(sH l[i-1] a&&rJ (l.drop i)):=by
  have e:=zcn (G:=l) (i:=i-1) (by omega);simp only [show i-1+1=i by omega,hai] at e;exact e
 cases c:sH l[i-1] a with
 | true =>
  have:=(zfu l[i-1] a).2 c;rw [decide_eq_false (show ¬ (0:Int)<=cmpS l[i-1] a by omega),zD];refine H3.rend (k:=1) rfl fun h4 H4 => ?_;exact hj _ _ _ ⟨by rw [ho,hd,c];simp,rfl⟩ H4.drop
 | false =>
  have:¬ cmpS l[i-1] a<0:=fun q=>by rw [(zfu _ _).1 q] at c;cases c
  rw [decide_eq_true (show (0:Int)<=cmpS l[i-1] a by omega),zC];refine H3.store (k:=4) rfl (by simp) rfl fun h4 H4 => ?_;refine H4.store (k:=3) rfl (by simp) rfl fun h5 H5 => ?_;refine H5.store (k:=2) rfl (by simp) rfl fun h6 H6 => ?_;refine H6.rend (k:=1) rfl fun h7 H7 => ?_;exact hs _ _ _ ⟨by rw [ho,hd,c];rfl,_,rfl⟩ H7
theorem zqa {h0 h:T Blk} {nx p:Pa} {K:Kw Prop} {L:List Ob} {n:Int} {G:List Sym} (hG:G.length<=100000) (hw:∀ g∈G,g.1.length<=100000) (H:Hp h0 h nx L)
  (hbad:∀ h' nx',yL G n≠0->Hp h0 h' nx' L->K (.tup [.qc,.zf,I (yL G n)]) h' nx'=.ok True)
  (hok:∀ (n':Nat) (u q:List Sym) g o h' nx',n=n'->oH G n'->yL G n=0->(∀ c∈u,c∈G)->CloS n' u q->q.Nodup->(∀ a,a∈q↔a∈G)->Hp h0 h' nx' (.map g (pq q)::.gro o 2 u.length (yR u)::L)->K (.tup [.map g,wz o 2 u.length,I 0]) h' nx'=.ok True) :
  (CS Tryz.prog B).fn 143 p [qo G,I n] h nx K=.ok True:=by
 refine gS (p:=.of 143) (K:=K) (zN zQ yh 10000000 fun hf => ?_) fun _ _ _ _ q=>q;rw [yu.go];refine H.box (l:=[qo G]) rfl fun b2 h1 nx1 H1 => ?_;refine H1.alloc fun b3 h2 nx2 H2 => ?_;refine H2.alloc fun b4 h3 nx3 H3 => ?_;refine H3.alloc fun b5 h4 nx4 H4 => ?_
 have bad:∀ (v:Int) h' nx' X,v≠0->yL G n=v->Hp h0 h' nx' (X::.arr b5 [I 0]::.arr b4 [.zf]::.arr b3 [.qc]::.arr b2 [qo G]::L) ->
   (zM 1 (.ptr b3 0) .qc h' nx' fun _ h36 n37=>zM 1 (.ptr b4 0) .zf h36 n37 fun _ h39 n40=>zM 1 (.ptr b5 0) (I v) h39 n40 fun _ h42 n43=>zF (.ptr b3 0) h42 fun v44=>zF (.ptr b4 0) h42 fun v45=>zF (.ptr b5 0) h42 fun v46=>K (.tup [v44,v45,v46]) h42 n43)=.ok True:=by
  intro v h' nx' X hv hg H';refine H'.store (k:=3) rfl (by simp) rfl fun h6 H6 => ?_;refine H6.store (k:=2) rfl (by simp) rfl fun h7 H7 => ?_;refine H7.store (k:=1) rfl (by simp) rfl fun h8 H8 => ?_;rw [H8.load (k:=3) (i:=0) rfl rfl,H8.load (k:=2) (i:=0) rfl rfl,H8.load (k:=1) (i:=0) rfl rfl];have:=hbad _ _ (by rw [hg];exact hv) H8.drop.drop.drop.drop.drop;rw [hg] at this;exact this
 rw [H4.load (k:=3) (i:=0) rfl rfl,zG,fG,H4.load (k:=3) (i:=0) rfl rfl,zG,pz];refine zfs n _ _ _ _ ?_;rintro _ rfl _;rw [pz,zA,zG,zA,H4.load (k:=3) (i:=0) rfl rfl,zA,fG,zA,zG,zA,H4.load (k:=3) (i:=0) rfl rfl,zA];refine wW _ _ _ _ _ _ ?_;rintro _ rfl _;rw [pz,zA,zG,zA,H4.load (k:=3) (i:=0) rfl rfl,zA];refine wW _ _ _ _ _ _ ?_;rintro _ rfl _;refine H4.yg (l:=[I (if n<0\/256<n then 3 else 0),I (if decide ((G.length:Int)=0)=true then 12 else 0),I (if decide ((1536:Int)<(G.length:Int))=true then 5 else 0)]) rfl fun tb h5 nx5 H5 => ?_;refine wI (l:=[if n<0\/256<n then 3 else 0,if decide ((G.length:Int)=0)=true then 12 else 0,if decide ((1536:Int)<(G.length:Int))=true then 5 else 0]) H5 (k:=0) rfl (fun B=>zbq (by simp)) (fun v hv=>by rw [hv];exact .int _ _) ?_;rintro _ rfl;have fE:uC [if n<0\/256<n then (3:Int) else 0,if decide ((G.length:Int)=0)=true then 12 else 0,if decide ((1536:Int)<(G.length:Int))=true then 5 else 0]=if n<0\/256<n then 3 else if G.length=0 then 12 else if 1536<G.length then 5 else 0:=by
  by_cases c1:n<0\/256<n
  ·rw [if_pos c1,if_pos c1];rfl
  rw [if_neg c1,if_neg c1];by_cases c2:G.length=0
  ·rw [decide_eq_true (show (G.length:Int)=0 by omega),if_pos c2];rfl
  rw [decide_eq_false (show ¬ (G.length:Int)=0 by omega),if_neg c2];by_cases c3:1536<G.length
  ·rw [decide_eq_true (show (1536:Int)<(G.length:Int) by omega),if_pos c3];rfl
  ·rw [decide_eq_false (show ¬ (1536:Int)<(G.length:Int) by omega),if_neg c3];rfl
 rw [fE,vg];by_cases c1:n<0\/256<n
 ·rw [if_pos c1];simp only [show ¬ (3:Int)=0 by decide,decide_false,Zai,zC];exact bad 3 _ _ _ (by decide) (by rw [yL,if_pos c1]) H5
 rw [if_neg c1];by_cases c2:G.length=0
 ·rw [if_pos c2];simp only [show ¬ (12:Int)=0 by decide,decide_false,Zai,zC];exact bad 12 _ _ _ (by decide) (by rw [yL,if_neg c1,if_pos c2]) H5
 rw [if_neg c2];by_cases c3:1536<G.length
 ·rw [if_pos c3];simp only [show ¬ (5:Int)=0 by decide,decide_false,Zai,zC];exact bad 5 _ _ _ (by decide) (by rw [yL,if_neg c1,if_neg c2,if_pos c3]) H5
 rw [if_neg c3];have e0:yL G n=if jA n G≠0 then jA n G else if rJ G=false then 11 else if clG G=false then 28 else 0:=by rw [yL,if_neg c1,if_neg c2,if_neg c3]
 simp only [decide_true,Zal,zD];rw [H5.load (k:=4) (i:=0) rfl rfl];refine zft hG hw _ _ _ _ ?_;rintro _ rfl _;rw [vg];by_cases c4:jA n G=0
 case neg =>
  simp only [c4,decide_false,Zai,zC];exact bad _ _ _ _ c4 (by rw [e0,if_pos c4]) H5
 rw [if_neg (by simp [c4])] at e0;simp only [c4,decide_true,Zal,zD];have hsy:=qD c4;obtain ⟨n',rfl⟩:∃ n':Nat,n=(n':Int):=⟨n.toNat,by omega⟩;have hdp:∀ g∈G,DP n' g:=fun g hg=>by
  obtain ⟨_,q2,q3⟩:=uN (hsy g hg);exact DP.of q3 (by omega)
 rw [H5.load (k:=4) (i:=0) rfl rfl];refine zh5 _ _ _ _ ?_;rintro _ rfl _;refine H5.drop.rf (g:=144) (p:=.of 144) (cap:=[.fp [qo G]]) rfl fun id h6 nx6 H6 => ?_;refine zea (yu.J n' G id b2 b3 b4 b5 L) (yu.X n' G id b2 b3 b4 b5 L) (by omega) ⟨by simp,rfl⟩ H6 (fun i a h' nx' L' K' hx hJ H' hj hs=>yu.round (by omega) (fun g hg=>by have:=hw g hg;omega) hx hJ H' hj hs) fun h' nx' L' hJX H' => ?_;rcases hJX with ⟨ho,rfl⟩ | ⟨ho,O1,rfl⟩
 case inr =>
  have Q:=H'.front (k:=1) rfl;refine Q.fV fun h15 H15 => ?_;show Ev.fV _ _ .done .ret _ h15 nx'=_;rw [pX];have e:∀ E0,(((fnO yu.res K).blk 0 E0).rt (yu.tm n' G b2 b3 b4 b5) h15 nx')=(zF (.ptr b3 0) h15 fun v1=>zF (.ptr b4 0) h15 fun v2=>zF (.ptr b5 0) h15 fun v3=>K (.tup [v1,v2,v3]) h15 nx'):=fun E0=>by kernel_rfl
  rw [e,H15.load (k:=3) (i:=0) rfl rfl,H15.load (k:=2) (i:=0) rfl rfl,H15.load (k:=1) (i:=0) rfl rfl];have hg:yL G n'=11:=by rw [e0,if_pos ho]
  have:=hbad _ _ (by rw [hg];decide) H15.drop.drop.drop.drop.drop;rw [hg] at this;exact this
 have hord:rJ G=true:=by rw [ho];exact zfm (by omega)
 rw [if_neg (by simp [hord])] at e0;have hnd:=dI hord;have hG0:G≠[]:=by rintro rfl;exact c2 rfl
 refine H'.fV fun h15 H15 => ?_;rw [zbd,yu.k8,H15.load (k:=3) (i:=0) rfl rfl,H15.load (k:=3) (i:=0) rfl rfl,zG];refine zh6 (n:=n') (limit:=G.length) (by omega) (by omega) (by omega) (fun g hg=>(hdp g hg).1) (by omega) H15 (fun h16 nx16 hT H16 => ?_) fun u q g o h16 nx16 hu hin hqn hC hql H16 => ?_
 ·obtain ⟨u,q,i,x,k,b,hu,hB,hb,hnot,hq⟩:=hT;have hnc:=hB.many (xV n') hb hnot hq hdp hnd hG0 hu;have hcl:clG G=false:=by
   cases c:clG G with
   | false=>rfl
   | true=>exact absurd (oU.1 c) hnc
  rw [jD,jG,gY,y5];simp only [Zai,y8,zT,zC];refine H16.store (k:=2) rfl (by simp) rfl fun h7 H7 => ?_;refine H7.store (k:=1) rfl (by simp) rfl fun h8 H8 => ?_;refine H8.store (k:=0) rfl (by simp) rfl fun h9 H9 => ?_;rw [H9.load (k:=2) (i:=0) rfl rfl,H9.load (k:=1) (i:=0) rfl rfl,H9.load (k:=0) (i:=0) rfl rfl];have hg:yL G n'=28:=by rw [e0,if_pos hcl]
  have:=hbad _ _ (by rw [hg];decide) H9.drop.drop.drop.drop;rw [hg] at this;exact this
 ·rw [jD,jG,gY,y5];simp only [Zal,jF];rw [H16.zrn (k:=0) rfl,H16.load (k:=5) (i:=0) rfl rfl,zG,vg,zY];have hiff:=zkw (xV n') hC hqn hdp hnd hG0 hu hin;by_cases c:q.length=G.length
  case neg =>
   have hcl:clG G=false:=by
    cases c':clG G with
    | false=>rfl
    | true=>exact absurd (hiff.2 (oU.1 c')) c
   simp only [show ¬ (q.length:Int)=(G.length:Int) by omega,decide_false,Zai,zC];refine H16.store (k:=4) rfl (by simp) rfl fun h7 H7 => ?_;refine H7.store (k:=3) rfl (by simp) rfl fun h8 H8 => ?_;refine H8.store (k:=2) rfl (by simp) rfl fun h9 H9 => ?_;rw [H9.load (k:=4) (i:=0) rfl rfl,H9.load (k:=3) (i:=0) rfl rfl,H9.load (k:=2) (i:=0) rfl rfl];have hg:yL G n'=28:=by rw [e0,if_pos hcl]
   have:=hbad _ _ (by rw [hg];decide) H9.drop.drop.drop.drop.drop.drop;rw [hg] at this;exact this
  ·have hcl:=oU.2 (hiff.1 c);have hg:yL G n'=0:=by rw [e0,hcl];rfl
   simp only [show (q.length:Int)=(G.length:Int) by omega,decide_true,Zal,zD];rw [yu.k9];refine H16.store (k:=4) rfl (by simp) rfl fun h7 H7 => ?_;refine H7.store (k:=3) rfl (by simp) (qG _ _ _) fun h8 H8 => ?_;refine H8.store (k:=2) rfl (by simp) rfl fun h9 H9 => ?_;rw [H9.load (k:=4) (i:=0) rfl rfl,H9.load (k:=3) (i:=0) rfl rfl,H9.load (k:=2) (i:=0) rfl rfl];have hok':oH G n':=⟨by omega,hG0,by omega,hdp,hord,hiff.1 c⟩;have hsub:∀ x∈q,x∈G:=hC.sub hok'.one hok'.cl hu;have P:Hp h0 h9 nx16 (.map g (pq q)::.gro o 2 u.length (yR u)::L):=by
    have e1:∀ (A M B1 B2 B3 B4:Ob),(A::M::B1::B2::B3::B4::L).Perm (B1::B2::B3::B4::A::M::L):=fun A M B1 B2 B3 B4 =>
     (List.Perm.cons A (Zbo (l₁:=[B1,B2,B3,B4]) (a:=M) (l₂:=L)).symm).trans (Zbo (l₁:=[B1,B2,B3,B4]) (a:=A) (l₂:=M::L)).symm
    exact (H9.perm (e1 _ _ _ _ _ _)).drop.drop.drop.drop
   exact hok n' u q g o _ _ rfl hok' hg hu hC hqn (fun a=>⟨hsub a,hin a⟩) P
theorem wA {G:List Sym} {n:Int} (hG:G.length<=100000) (hw:∀ g∈G,g.1.length<=100000):Pure Tryz.prog B 84 [qo G,I n] (· = I (yL G n)):=by
 refine yM fun h nx K H0 hK=>zN zQ yh 1000 fun hf => ?_;rw [F84.go];refine zqa hG hw H0 (fun h' nx' hg H' => ?_) fun n' u q g o h' nx' hn hok hg hu hC hqn hq H' => ?_
 ·rw [jD,jG,gY];exact hK _ _ _ _ _ H' (zJ rfl) rfl
 ·rw [jD,jG,gY];exact hK _ _ _ _ _ H' (zJ rfl) (by rw [hg])
end Go.Ev
namespace Go.Ev
open Go Go.Proofs Go.RowKit Go.Sort
def tX (h:T Blk) (id0:Pa) (a:AV) (l:List Int):Prop :=
 a=encI l\/∃ id off o op m t,id≠id0/\a=.sl id off l.length o 1/\T.get .no id h=.cells op m t/\off+l.length<=m/\yA t off l.length=l.map I
theorem tX.jd {h:T Blk} {id0:Pa} {a:AV} {l:List Int} (R:tX h id0 a l):jd a=true:=by
 rcases R with rfl | ⟨_,_,_,_,_,_,_,rfl,_⟩ <;> rfl
theorem tX.set {h:T Blk} {id0:Pa} {a:AV} {l:List Int} {b:Blk} (R:tX h id0 a l):tX (T.set .no b id0 h) id0 a l:=by
 rcases R with rfl | ⟨id,off,o,op,m,t,h1,h2,h3,h4,h5⟩
 ·exact .inl rfl
 ·exact .inr ⟨id,off,o,op,m,t,h1,h2,by rw [T.zx (h:=h1)];exact h3,h4,h5⟩
theorem tX.cells {P:Program} {B:Nat} {E:Env} {h:T Blk} {nx:Pa} {w:World} {id0:Pa} {a:AV} {l:List Int} {v:Value} (H:HR P B E h nx w) (R:tX h id0 a l) (hv:VR E a v) :
  ∃ p c,v=.slice p l.length c/\(l.length=0\/∃ b o,p=some ⟨b,o,none⟩/\∀ j,j<l.length->w.cell? ⟨b,o+j,none⟩=some (.int .i64 l[j]!)):=by
 rcases R with rfl | ⟨id,off,o,op,m,t,h1,rfl,h3,h4,h5⟩
 ·obtain ⟨_,_,p,c,rfl,hh⟩:=hv.ak;refine ⟨p,c,rfl,?_⟩;rcases hh with h0 | ⟨b,off,rfl,_,hf⟩
  ·exact .inl h0
  ·refine .inr ⟨b,off,rfl,fun j hj => ?_⟩;obtain ⟨v,hv1,hv2⟩:=VRF.get hf (i:=j) (a:=I l[j]) (by rw [List.getElem?_map,List.getElem?_eq_getElem hj];rfl);simp only [VR] at hv2;subst hv2;obtain ⟨⟨c,ty,fr,q1,q2⟩,_⟩:=H.frz _ _ _ hv1;rw [getElem!_pos l j hj];simp [World.cell?,q1,q2]
 ·obtain ⟨b,n,c,hE,rfl,hcap⟩:=hv.fU;refine ⟨_,c,rfl,.inr ⟨b,off,rfl,fun j hj => ?_⟩⟩;obtain ⟨b',n',ob,q1,q2,q3⟩:=H.blk id (by rw [h3];intro e;cases e);rw [hE] at q1;cases q1;rw [h3] at q3;obtain ⟨cs,ty,fr,rfl,g1,g2,g3,g4,hc⟩:=q3;obtain ⟨_,v',k1,k2⟩:=hc (off+j) (by omega);have he:T.get .undef (.of (off+j)) t=I l[j]:=by
   have e1:=zV t off l.length j (by omega);rw [h5,List.getElem?_map,List.getElem?_eq_getElem hj] at e1;exact (Option.some.inj e1).symm
  rw [he] at k2;simp only [VR] at k2;subst k2;rw [getElem!_pos l j hj];simp [World.cell?,q2,k1]
theorem kL {β γ:Type} {f:β->γ}:∀ {l:List β},(l.map f).Nodup->∀ {a b:β},a∈l->b∈l->f a=f b->a=b
 | [],_,_,_,h,_,_=>by cases h
 | x::l,hn,a,b,ha,hb,e=>by
  rw [List.map_cons,Zbt] at hn;rcases List.mem_cons.1 ha with ea | ha'
  ·rcases List.mem_cons.1 hb with eb | hb'
   ·exact ea.trans eb.symm
   ·exact (hn.1 (List.mem_map.2 ⟨b,hb',(ea ▸ e).symm⟩)).elim
  ·rcases List.mem_cons.1 hb with eb | hb'
   ·exact (hn.1 (List.mem_map.2 ⟨a,ha',(eb ▸ e)⟩)).elim
   ·exact kL hn.2 ha' hb' e
end Go.Ev
namespace Go.Proofs
open Go.Shelf Go.Lib Go.RowKit Go.Sort
def bZ (a b:List Int×Bool):Int:=if uh a.1 b.1≠0\/a.2=b.2 then uh a.1 b.1 else if a.2 then 1 else -1
theorem drew_grow (w:World) (X Y:Obj) (q:Nat):((w.alloc X).alloc Y).drewN q=grow (w.drewN q) #[X,Y]:=by
 have e:(w.heap.push X).push Y=w.heap ++ #[X,Y]:=by apply Array.ext';simp
 unfold World.drewN World.alloc grow
 dsimp only
 rw [e]
theorem xG {w:World} {X:Obj} {a:Addr} {v:Value} (h:w.cell? a=some v):(w.alloc X).cell? a=some v:=by
 unfold World.cell? World.alloc at *
 cases e:w.heap[a.block]? with
 | none=>rw [e] at h;cases h
 | some o =>
  have hl:a.block<w.heap.size:=(Array.getElem?_eq_some_iff.1 e).1;have:(w.heap.push X)[a.block]? = w.heap[a.block]? := by rw [Array.getElem?_push,if_neg (by omega)]
  simp only [this,e] at *
  exact h
set_option maxHeartbeats 2000000 in
set_option maxRecDepth 100000 in
theorem zf2 (p1 p2:Option Addr) (n c m d:Nat) (xs ys:List Int) (a b:Bool) (w:World) (hn:n=xs.length) (hm:m=ys.length) (hbig:n<=1000000) (hbig2:m<=1000000)
  (hc1:n=0\/∃ b1 o1,p1=some ⟨b1,o1,none⟩/\∀ j,j<n->w.cell? ⟨b1,o1+j,none⟩=some (.int .i64 xs[j]!)) (hc2:m=0\/∃ b2 o2,p2=some ⟨b2,o2,none⟩/\∀ j,j<m->w.cell? ⟨b2,o2+j,none⟩=some (.int .i64 ys[j]!)) :
  Calls Tryz.prog 114 #[.agg #[.slice p1 n c,.bool a],.agg #[.slice p2 m d,.bool b]] w fun e w'=>e=.returned (.int .i64 (bZ (xs,a) (ys,b)))/\∃ q os',w'=grow (w.drewN q) os':=by
 have H1:Aside (n=0\/∃ b1 o1,p1=some ⟨b1,o1,none⟩/\∀ j,j<n->w.cell? ⟨b1,o1+j,none⟩=some (.int .i64 xs[j]!)):=hc1;have H2:Aside (m=0\/∃ b2 o2,p2=some ⟨b2,o2,none⟩/\∀ j,j<m->w.cell? ⟨b2,o2+j,none⟩=some (.int .i64 ys[j]!)):=hc2
 clear hc1 hc2
 have mixed:Tryz.prog.follows .mixedOrders=true:=by kernel_rfl
 have t0:=Tryz.underlying0;have a0:=Tryz.isAgg0;have z0:=Tryz.sizeOf0;have v0:=Tryz.zeroValue0;have t3:=Tryz.underlying3;have a3:=Tryz.isAgg3;have z3:=Tryz.sizeOf3;have v3:=Tryz.zeroValue3;have t4:=Tryz.underlying4;have a4:=Tryz.isAgg4;have z4:=Tryz.sizeOf4;have v4:=Tryz.zeroValue4;have t35:=Tryz.underlying38;have a35:=Tryz.isAgg38;have z35:=Tryz.sizeOf38;have v35:=Tryz.zeroValue38;have t112:=Tryz.underlying115;have a112:=Tryz.isAgg115;have z112:=Tryz.sizeOf115;have v112:=Tryz.zeroValue115;have S0:Aside (n=xs.length/\m=ys.length):=⟨hn,hm⟩
 have hcall:∃ r,Aside (uh xs ys=r)/\∀ X Y,Calls Tryz.prog 161 #[.slice p1 n c,.slice p2 m d] ((w.alloc X).alloc Y) fun e w'=>e=.returned (.int .i64 r)/\∃ q,w'=((w.alloc X).alloc Y).drewN q :=
  ⟨uh xs ys,rfl,fun X Y=>zhy p1 p2 n c m d xs ys _ hn hm hbig hbig2
   (H1.out.imp id fun ⟨b1,o1,e,f⟩=>⟨b1,o1,e,fun j hj=>xG (xG (f j hj))⟩)
   (H2.out.imp id fun ⟨b1,o1,e,f⟩=>⟨b1,o1,e,fun j hj=>xG (xG (f j hj))⟩)⟩
 obtain ⟨r,hr,hcall⟩:=hcall
 clear H1 H2
 have fin:∀ v:Int,Aside (v=if r≠0\/a=b then r else if a then 1 else -1)->Aside (v=bZ (xs,a) (ys,b)):=fun v e=>by
  unfold Aside at *
  rw [e,<- hr];rfl
 clear hn hm hr
 by_cases h0:r=0
 ·subst h0;have h0:(0:Int)=0:=rfl;cases a <;> cases b
  all_goals
   go_enter Tryz.func114,Tryz.ntmps114
   go_wp2_with (go_at_call 161;refine (hcall _ _).mono ?_;rintro e w' ⟨rfl,q,rfl⟩)
   all_goals (go_ret;exact ⟨congrArg (fun v=>Ending.returned (.int .i64 v)) (fin _ (by unfold Aside;simp [h0])).out,q,_,drew_grow _ _ _ _⟩)
 ·cases a <;> cases b
  all_goals
   go_enter Tryz.func114,Tryz.ntmps114
   go_wp2_with (go_at_call 161;refine (hcall _ _).mono ?_;rintro e w' ⟨rfl,q,rfl⟩)
   all_goals (go_ret;exact ⟨congrArg (fun v=>Ending.returned (.int .i64 v)) (fin _ (by unfold Aside;simp [h0])).out,q,_,drew_grow _ _ _ _⟩)
end Go.Proofs
namespace Go.Proofs
theorem zcu {a b:List Int} (h:a≠b):uh a b≠0:=fun e=>h (qT e)
theorem xQ (a b:List Int×Bool):bZ a b=if a.1=b.1 then (if a.2=b.2 then 0 else if a.2 then 1 else -1) else uh a.1 b.1:=by
 unfold bZ;by_cases h:a.1=b.1
 ·rw [if_pos h,h,kU];by_cases g:a.2=b.2
  ·rw [if_pos (.inr g),if_pos g]
  ·rw [if_neg (by simp [g]),if_neg g]
 ·rw [if_neg h,if_pos (.inl (zcu h))]
theorem uT (a b:List Int×Bool):bZ b a = - bZ a b:=by
 rw [xQ,xQ];by_cases h:a.1=b.1
 ·rw [if_pos h,if_pos h.symm];cases a.2 <;> cases b.2 <;> rfl
 ·rw [if_neg h,if_neg (fun e=>h e.symm)];exact xR _ _
theorem zkx (a:List Int×Bool):bZ a a=0:=by rw [xQ,if_pos rfl,if_pos rfl]
theorem zeb {a b:List Int×Bool} (e:bZ a b=0):a=b:=by
 rw [xQ] at e;by_cases h:a.1=b.1
 ·rw [if_pos h] at e;refine Prod.ext h ?_;by_cases g:a.2=b.2
  ·exact g
  ·rw [if_neg g] at e
   revert e;cases a.2 <;> simp
 ·rw [if_neg h] at e;exact absurd e (zcu h)
theorem vZ {a b c:List Int×Bool} (h1:bZ a b<0) (h2:bZ b c<0):bZ a c<0:=by
 rw [xQ] at h1 h2 ⊢;by_cases e1:a.1=b.1
 ·rw [if_pos e1] at h1;by_cases e2:b.1=c.1
  ·rw [if_pos e2] at h2;rw [if_pos (e1.trans e2)]
   revert h1 h2
   cases a.2 <;> cases b.2 <;> cases c.2 <;> simp
  ·rw [if_neg e2] at h2;rw [if_neg (fun e=>e2 (e1.symm.trans e)),e1];exact h2
 ·rw [if_neg e1] at h1;by_cases e2:b.1=c.1
  ·rw [if_neg (fun e=>e1 (e.trans e2.symm)),<- e2];exact h1
  ·rw [if_neg e2] at h2;have:=jJ h1 h2;rw [if_neg (fun e=>by rw [e,kU] at this;omega)];exact this
theorem dA {a b c:List Int×Bool} (h1:0<=bZ a b) (h2:0<=bZ b c):0<=bZ a c:=by
 by_cases e1:bZ a b=0
 ·rw [zeb e1];exact h2
 by_cases e2:bZ b c=0
 ·rw [<- zeb e2];exact h1
 have n1:=uT a b;have n2:=uT b c;have n3:=uT a c;have:=vZ (a:=c) (b:=b) (c:=a) (by omega) (by omega);omega
end Go.Proofs
namespace Go.Ev
open Go Go.Proofs Go.RowKit Go.Sort
theorem HR.zqb {P:Program} {B:Nat} {E:Env} {h:T Blk} {nx:Pa} {w:World} {A:List AV} {F:Array Value} (hA:A.length=F.size) (hva:∀ i,i<F.size->jd (A.getD i .undef)=true/\VR E (A.getD i .undef) F[i]!)
  (H:HR P B E h nx w) {id:Pa} {op:Bool} {m off b n k:Nat} {t:T AV} {os:Array Obj} (hb:T.get .no id h=.cells op m t) (hE:E id=some (b,n)) (hm:off+F.size<=m) :
  HR P B (E) (T.set .no (.cells op m (yY A t off)) id h) nx (grow (putRow (fun v:Value=>v) (Sort.ahead w k) b off F) os)/\Ex E E w (grow (putRow (fun v:Value=>v) (Sort.ahead w k) b off F) os):=by
 have hid:T.get .no id h≠.no:=by rw [hb];intro e;cases e
 obtain ⟨b',n',o,h1,h2,h3⟩:=H.blk id hid;rw [hE] at h1;cases h1;rw [hb] at h3;obtain ⟨c,ty,fr,rfl,q1,q2,q3,q4,q5⟩:=h3;have hcs:(putCells (fun v:Value=>v) off F c).size=c.size:=by simp [putCells]
 have hbr:BR P E n (.cells op m (yY A t off)) (.cells (putCells (fun v:Value=>v) off F c) ty fr):=by
  refine ⟨_,ty,fr,rfl,by rw [hcs];exact q1,by rw [hcs];exact q2,q3,q4,fun i hi => ?_⟩;rw [uG];have hic:i<c.size:=by omega
  have hce:(putCells (fun v:Value=>v) off F c)[i]? = some (if off<=i/\i<off+F.size then F[i-off]! else c[i]):=by
   simp [putCells,Array.getElem?_eq_getElem hic]
  rw [hA];by_cases hr:off<=i/\i<off+F.size
  ·rw [if_pos hr];rw [if_pos hr] at hce;obtain ⟨r1,r2⟩:=hva (i-off) (by omega);exact ⟨r1,_,hce,r2⟩
  ·rw [if_neg hr];rw [if_neg hr] at hce;obtain ⟨r1,v,r2,r3⟩:=q5 i hi;rw [Array.getElem?_eq_getElem hic] at r2;exact ⟨r1,_,hce,by rw [Option.some.inj r2];exact r3⟩
 have H1:=H.put hid hE hbr;have X1:Ex E E w (w.putObj b (.cells (putCells (fun v:Value=>v) off F c) ty fr)):=Ex.put hE h2 fun L hL=>by cases hL
 have hbl:b<w.heap.size:=(Array.getElem?_eq_some_iff.1 h2).1;have hBel:Below (w.putObj b (.cells (putCells (fun v:Value=>v) off F c) ty fr)).heap.size (w.putObj b (.cells (putCells (fun v:Value=>v) off F c) ty fr)) (grow (putRow (fun v:Value=>v) (Sort.ahead w k) b off F) os):=by
  refine ⟨rfl,rfl,rfl,?_,fun j hj => ?_⟩
  ·rw [World.putObj_size];simp [grow,putRow,mapBlock,Sort.ahead]
  ·rw [World.putObj_size] at hj;have e1:(grow (putRow (fun v:Value=>v) (Sort.ahead w k) b off F) os).heap[j]? = (w.heap.modify b (onCells (putCells (fun v:Value=>v) off F)))[j]? := by
    show (w.heap.modify b (onCells (putCells (fun v:Value=>v) off F))++os)[j]? = _;rw [Array.getElem?_append_left (by simpa using hj)]
   rw [e1,Array.getElem?_modify];by_cases e:b=j
   ·subst e;rw [if_pos rfl,h2,uD _ hbl];rfl
   ·rw [if_neg e,yE _ (fun q=>e q.symm)]
 obtain ⟨r1,r2⟩:=H1.below hBel;exact ⟨r1,X1.trans r2⟩
end Go.Ev
