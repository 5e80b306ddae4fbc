import Derived.Test.YtdclaaahnodljaaGreatDoorWordsa
import Derived.Test.YtdclaaahnodljaaGreatDoorEvD
import Derived.Test.YtdclaaahnodljaaGreatDoorCodea
import Derived.IntWalk
import Derived.KernelRfl
import Derived.Test.YtdclaaahnodljaaGreatDoorIrT
import Derived.Test.YtdclaaahnodljaaGreatDoorLaws
import Derived.Shelf.SlSortCmp.Whole1
import Derived.Deep.Slices
import GoSem.Core.Next
import Derived.Test.YtdclaaahnodljaaGreatDoorCodeb
set_option linter.unusedSimpArgs false
set_option linter.unusedVariables false
noncomputable section
namespace Go.Ev
open Go Go.Proofs
variable {B:Nat}
def insP (x:AV×Sym):List (AV×Sym)->List (AV×Sym)
 | []=>[x]
 | y::l=>if rQ x.2 y.2<=0 then x::y::l else y::insP x l
def srtP:List (AV×Sym)->List (AV×Sym)
 | []=>[]
 | x::l=>insP x (srtP l)
theorem m6 (x:AV×Sym):∀ l,(insP x l).Perm (x::l)
 | []=>.refl _
 | y::l=>by
  rw [insP];split
  ·exact .refl _
  ·exact ((m6 x l).cons y).trans (.swap x y l)
theorem wY:∀ l,(srtP l).Perm l
 | []=>.refl _
 | x::l=>(m6 x _).trans ((wY l).cons x)
theorem zcp {a b c:Sym} (h1:rQ a b<=0) (h2:rQ b c<=0):rQ a c<=0:=by
 have n1:=kH a b;have n2:=kH b c;have n3:=kH a c;have:=dV (a:=c) (b:=b) (c:=a) (by omega) (by omega);omega
theorem zgq {x:AV×Sym}:∀ {l:List (AV×Sym)},l.Pairwise (fun a b=>rQ a.2 b.2<=0)->(insP x l).Pairwise (fun a b=>rQ a.2 b.2<=0)
 | [],_=>by simp [insP]
 | y::l,h=>by
  have h':=List.pairwise_cons.1 h;rw [insP];split
  ·rename_i c;refine List.pairwise_cons.2 ⟨fun z hz => ?_,h⟩;rcases List.mem_cons.1 hz with rfl | r
   ·exact c
   ·exact zcp c (h'.1 z r)
  ·rename_i c;refine List.pairwise_cons.2 ⟨fun z hz => ?_,zgq h'.2⟩;rcases List.mem_cons.1 ((m6 x l).mem_iff.1 hz) with rfl | r
   ·have:=kH z.2 y.2;omega
   ·exact h'.1 z r
theorem pV:∀ l,(srtP l).Pairwise (fun a b=>rQ a.2 b.2<=0)
 | []=>.nil
 | _::l=>zgq (pV l)
def zgr:List AV->Option (List Int)
 | []=>some []
 | .int .i64 v::l=>match zgr l with
  | some r=>some (v::r)
  | none=>none
 | _=>none
theorem zgs:∀ {l:List AV} {xs:List Int},zgr l=some xs->l=xs.map I
 | [],xs,h=>by rw [zgr] at h;cases h;rfl
 | a::l,xs,h=>by
  unfold zgr at h;split at h
  ·rename_i he;cases he
  ·rename_i v l' he;cases he
   split at h
   ·rename_i r hr;cases h
    rw [zgs hr];rfl
   ·cases h
  ·cases h
def zit (h:T Blk) (a:AV):Option (Pa×List Int):=match a with
 | .sl rid off n (some c) e=>match T.get .no rid h with
  | .cells _ m t=>if off=0/\e=1/\m=n/\c=n then (match zgr (zY t 0 n) with
   | some l=>some (rid,l)
   | none=>none) else none
  | _=>none
 | _=>none
theorem zl9 {h:T Blk} {a:AV} {rid:Pa} {l:List Int} (e:zit h a=some (rid,l)):a=.sl rid 0 l.length (some l.length) 1/\yw h rid (l.map I):=by
 unfold zit at e;split at e
 case h_2=>cases e
 rename_i r off n c ee he0;split at e
 case h_2=>cases e
 rename_i op m t ht;split at e
 case isFalse=>cases e
 rename_i hc;obtain ⟨rfl,rfl,rfl,rfl⟩:=hc;split at e
 case h_2=>cases e
 rename_i l' hl;cases e
 have e1:=zgs hl;have e2:l.length=ee:=by
  have:=congrArg List.length e1;rw [Zas,gV] at this;exact this.symm
 subst e2;exact ⟨rfl,op,t,by rw [Zas];exact ht,by rw [Zas];exact e1⟩
def zb9 (h:T Blk):List (AV×AV)->Option (List (Pa×(AV×Sym)))
 | []=>some []
 |(.str k,.agg [a,.bool c])::es=>match zit h a,zb9 h es with
  | some (rid,l),some r=>if ku (l,c)=k then some ((rid,(a,(l,c)))::r) else none
  | _,_=>none
 | _=>none
theorem zdg {h:T Blk}:∀ {es:List (AV×AV)} {r:List (Pa×(AV×Sym))},zb9 h es=some r->es=fM (r.map (·.2))/\∀ x∈r,x.2.1=.sl x.1 0 x.2.2.1.length (some x.2.2.1.length) 1/\yw h x.1 (x.2.2.1.map I)
 | [],r,e=>by rw [zb9] at e;cases e;exact ⟨rfl,fun x hx=>by cases hx⟩
 | p::es,r,e=>by
  unfold zb9 at e;split at e
  ·rename_i he;cases he
  ·rename_i k a c es' he;cases he
   split at e
   ·rename_i rid l r' h1 h2;split at e
    ·rename_i hk;cases e
     obtain ⟨i1,i2⟩:=zdg h2;obtain ⟨j1,j2⟩:=zl9 h1;refine ⟨by rw [i1,<- hk];rfl,fun x hx => ?_⟩;rcases List.mem_cons.1 hx with rfl | q
     ·exact ⟨j1,j2⟩
     ·exact i2 x q
    ·cases e
   ·cases e
  ·cases e
def zo0 (f:Nat) (a:List AV) (h:T Blk):Option (AV×T Blk):=if f=60 then (match a with
 | [.map g]=>match T.get .no g h with
  | .map n es=>match zb9 h es with
   | some r=>if n=es.length/\0<r.length/\r.length<=2000/\((g::r.map (·.1)).map Pa.toNat).Nodup/\(r.map (·.2.2)).Nodup/\(∀ x∈r,x.2.2.1.length<=1000000) then some (fB ((srtP (r.map (·.2))).map (·.2)),zb7 (g::r.map (·.1)) h) else none
   | none=>none
  | _=>none
 | _=>none) else none
theorem zca:∀ (qs:List Sym),(yY qs).all jc=true
 | []=>rfl
 | _::qs=>zca qs
theorem m9:∀ (ps:List Sym) (i:Nat),(yY ps)[i]? = (ps[i / 2]?).map fun p=>if i%2=0 then encI p.1 else .bool p.2
 | [],i=>by simp [yY]
 | p::ps,0=>rfl
 | p::ps,1=>rfl
 | p::ps,i+2=>by
  rw [show (i+2) / 2=i / 2+1 by omega,show (i+2)%2=i%2 by omega,List.getElem?_cons_succ,<- m9 ps i]
  rfl
theorem p7 {α β:Type} {f:α->β}:∀ {l:List α},(l.map f).Nodup->l.Nodup
 | [],_=>.nil
 | a::l,h=>by
  rw [Zce,Zbx] at h;exact List.nodup_cons.2 ⟨fun m=>h.1 (List.mem_map.2 ⟨a,m,rfl⟩),p7 h.2⟩
theorem zo1:JOk Tryz.prog B zo0:=by
 intro E h nx w f args vs v h2 H hv hj;unfold zo0 at hj;split at hj
 case isFalse=>cases hj
 rename_i hf;subst hf;split at hj
 case h_2=>cases hj
 rename_i g;split at hj
 case h_2=>cases hj
 rename_i n es hg;split at hj
 case h_2=>cases hj
 rename_i r hr;split at hj
 case isFalse=>cases hj
 rename_i hc;obtain ⟨rfl,hr0,hrl,hnd1,hnd2,hlen⟩:=hc;cases hj
 have hnd1:=p7 hnd1;obtain ⟨rfl,hrow⟩:=zdg hr;have names:(Ob.map g (fM (r.map (·.2)))::r.map fun x=>Ob.arr x.1 (x.2.2.1.map I)).flatMap Ob.names=g::r.map (·.1):=by
  have e:∀ r:List (Pa×(AV×Sym)),(r.map fun x=>Ob.arr x.1 (x.2.2.1.map I)).flatMap Ob.names=r.map (·.1):=by
   intro r
   induction r with
   | nil=>rfl
   | cons x r ih=>show x.1::_=x.1::_;rw [<- ih];rfl
  show g::_=_;rw [<- e];rfl
 have H0:Hp (zb7 (g::r.map (·.1)) h) h nx (.map g (fM (r.map (·.2)))::r.map fun x=>.arr x.1 (x.2.2.1.map I)):=⟨fun j hj=>by
   by_cases q:j∈g::r.map (·.1)
   ·exact absurd (zb8 _ h j (.inl q)) hj
   ·exact (zdc _ h j q).symm,fun y hy=>by
   rcases List.mem_cons.1 hy with rfl | q
   ·exact hg
   ·obtain ⟨x,hx,rfl⟩:=List.mem_map.1 q;exact (hrow x hx).2,fun m hm=>zb8 _ h m (.inl (by rw [names] at hm;exact hm)),by rw [names];exact hnd1,H.fr⟩
 refine zs3 (h0:=zb7 (g::r.map (·.1)) h) H0.keep (fun K hK => ?_) H hv;have hp:=wY (r.map (·.2));refine zkb (k:=0) (q:=r.map (·.2)) (s:=srtP (r.map (·.2))) H0 rfl (by rw [Zas];exact hr0) (by rw [Zas];exact hrl) (fun p hq => ?_) (by rw [List.map_map];exact hnd2) hp (pV _) fun o h' nx' A H'=>hK _ _ _ H'.fr H'.keep ?_
 ·obtain ⟨x,hx,rfl⟩:=List.mem_map.1 hq;exact ⟨.inr ⟨x.1,(hrow x hx).1,Zan _ (List.mem_map.2 ⟨x,hx,rfl⟩)⟩,hlen x hx⟩
 ·have:=zs4 (k:=0) (l':=yY ((srtP (r.map (·.2))).map (·.2))) H' rfl (by rw [gO,qU,Zas]) (zca _) fun i a b h1 h2 => ?_
  ·show rH _ _ (xu o 2 _) (.lst 2 ((srtP (r.map (·.2))).map (·.2)).length _);rw [Zas];exact this
  rw [xJ] at h1;rw [m9,List.getElem?_map] at h2;cases hx:(srtP (r.map (·.2)))[i / 2]? with
  | none=>rw [hx] at h1;cases h1
  | some p =>
   rw [hx] at h1 h2;simp only [Zbv,Option.some.injEq] at h1 h2;subst h1;subst h2;by_cases c:i%2=0
   ·rw [if_pos c,if_pos c];obtain ⟨x,hxm,rfl⟩:=List.mem_map.1 (hp.mem_iff.1 (Zaa hx));rw [(hrow x hxm).1];have hin:Ob.arr x.1 (x.2.2.1.map I)∈(.gro o 2 (srtP (r.map (·.2))).length (jO (srtP (r.map (·.2))))::(A++(.map g (fM (r.map (·.2)))::r.map fun x=>Ob.arr x.1 (x.2.2.1.map I)))):=by
     refine Zan _ (List.mem_append_right _ (Zan _ (List.mem_map.2 ⟨x,hxm,rfl⟩)))
    obtain ⟨k,hk⟩:=List.getElem?_of_mem hin;exact H'.og hk (by show vW _ (some _);simp [vW]) (by simp) (fun v hv=>by obtain ⟨z,_,rfl⟩:=List.mem_map.1 hv;rfl)
   ·rw [if_neg c,if_neg c];exact zK rfl
end Go.Ev
namespace Go.Ev
def zzq (s:List Int) (v x:Int):List Int:=s.set v.toNat (s.getD v.toNat 0+x)
def Sm (s:List Int) (M:Nat):Prop:=∀ v∈s,0<=v/\v<=(M:Int)
theorem Sm.get {s:List Int} {M:Nat} (h:Sm s M) (i:Nat):0<=s.getD i 0/\s.getD i 0<=(M:Int):=by
 rw [Zab];cases e:s[i]? with
 | none=>simp
 | some v=>exact h v (Zaa e)
theorem Sm.mono {s:List Int} {M N:Nat} (h:Sm s M) (hm:M<=N):Sm s N:=fun v hv=>by have:=h v hv;omega
theorem Sm.add {s:List Int} {M X:Nat} {v x:Int} (h:Sm s M) (hx:0<=x/\x<=(X:Int)):Sm (zzq s v x) (M+X):=by
 intro u hu;have g:=h.get v.toNat;rcases Zcn hu with q | rfl
 ·have:=h u q;omega
 ·omega
def zzr (l f:List Int):Int:=(l.map fun c=>f.getD c.toNat 0).sum
section
variable {σ α:Type}
end
end Go.Ev
namespace Go.Ev
def insS (x:Int):List (Int×Int)->List (Int×Int)
 | []=>[(x,1)]
 |(y,c)::q=>if y<x then (y,c)::insS x q else if y=x then (y,IntKind.wrap .i64 (c+1))::q else (x,1)::(y,c)::q
def zuq (lines:List (List Int)) (D:List (List Int)):List (Int×Int):=match lines with
 | []=>[]
 | l::_=>D.foldl (fun q f=>insS (zzr l f) q) []
def SpOK (M:Int) (q:List (Int×Int)):Prop:=q.Pairwise (fun a b=>a.1<b.1)/\∀ p∈q,0<=p.1/\p.1<=M
theorem SpOK.len {q:List (Int×Int)} (h:SpOK 9000 q):q.length<=9001:=by
 obtain ⟨t,ht⟩:=pU (q.map (·.1)) ((List.range 9001).map fun (i:Nat)=>(i:Int)) (by
  rw [List.nodup_iff_pairwise_ne,Zbl];exact h.1.imp fun {a b} q e=>by omega) fun x hx=>by
  obtain ⟨p,hp,rfl⟩:=List.mem_map.1 hx;have:=h.2 p hp;exact List.mem_map.2 ⟨p.1.toNat,List.mem_range.2 (by omega),by omega⟩
 have:=ht.length_eq;rw [Zas,List.length_range,Zau,Zas] at this;omega
end Go.Ev
namespace Go.Ev
open Go Go.Proofs
variable {B:Nat}
set_option maxRecDepth 100000
theorem zgt (l:List Int):(srt l).length=l.length:=(qA l).length_eq
theorem zgu {f:List Int} (hj:∀ B,JOk Tryz.prog B qE) (hl:f.length<=100000):Pure Tryz.prog B 50 [encI f] (· = .bool (decide (srt f=upTo f.length))):=by
 intro p h nx K hK;refine zM zP yh 10000000 fun hf => ?_;rw [F50.go];refine zlu _ _ _ _ ?_;rintro _ rfl _;refine zl1 hj hl _ _ _ _ ?_;rintro _ rfl _;have hlen:=zgt f;simp only [zL];refine F50.L1 (fun m z6 h' nx'=>∃ i:Nat,z6=I i/\f.length-i=m/\i<=f.length/\h'=h/\nx'=nx/\(srt f).take i=(upTo f.length).take i) (m:=f.length) (by omega) ⟨0,rfl,rfl,by omega,rfl,rfl,rfl⟩ ?_;rintro m z1 z2 z3 z6 z7 z8 _ _ R ⟨i,rfl,rfl,hi,rfl,rfl,htk⟩ hR;simp only [jk];by_cases hlt:i<f.length
 ·simp only [show (i:Int)<((srt f).length:Int) by omega,decide_true,zD];have hx:(srt f)[i]? = some (srt f)[i]:=List.getElem?_eq_getElem (by omega);have hu:(upTo f.length)[i]? = some ((i:Int)+1):=by simp [List.getElem?_map,hlt]
  rw [cZ rfl (by omega),ldL (rJ hx),jf (by omega)];simp only [qm];by_cases c:(srt f)[i]=(i:Int)+1
  ·simp only [c,decide_true,Zaf,zE];rw [jf (by omega)];refine hR _ _ _ _ _ _ _ _ _ (by omega) ⟨i+1,rfl,rfl,by omega,rfl,rfl,?_⟩;rw [Zaq,Zaq,htk,hx,hu,c]
  ·simp only [c,decide_false,Zah,zD];refine hK _ ?_ hf;rw [decide_eq_false];intro q;have h9:(srt f)[i]? = some ((i:Int)+1):=by rw [q];exact hu
   rw [hx] at h9;exact c (Option.some.inj h9)
 ·simp only [show ¬ (i:Int)<((srt f).length:Int) by omega,decide_false,zE];rw [F50.k8];rw [Zap (by omega),Zap (by simp;omega)] at htk;exact hK _ (by rw [decide_eq_true htk]) hf
end Go.Ev
namespace Go.Ev
open Go Go.Proofs
variable {B:Nat}
def zpp (x:AV) (X:Ob) (l:List Int) (v:Int):Prop:=(l=[v]/\∃ p,x=.sl p 0 1 (some 1) 1/\X=.arr p [I v])\/∃ o,x=xu (some o) 1 l.length/\X=.gro (some o) 1 l.length (l.map I)
theorem zpp.ok {x:AV} {X:Ob} {l:List Int} {v:Int} (h:zpp x X l v):oC (x,X,l):=by
 rcases h with ⟨rfl,p,rfl,rfl⟩ | ⟨o,rfl,rfl⟩
 ·exact .inl ⟨p,some 1,Zai _,rfl,rfl⟩
 ·exact .inr ⟨some o,rfl,rfl⟩
theorem zpq {x:Int} {v:AV} {K:AV->OP} (h:v.cells=some [v]):y9 [(I 0),.zh] [(0,1,I x),(1,1,v)] K=K (.agg [I x,v]):=by
 have e:gJ [(I 0),AV.zh] [(0,1,I x),(1,1,v)]=some [I x,v]:=by simp only [gJ,h];rfl
 show (match gJ [(I 0),AV.zh] [(0,1,I x),(1,1,v)] with
  | some l=>K (.agg l)
  | none=>Out.no 2)=_
 rw [e]
section
variable {σ:Type} {h0:T Blk} {n:Nat} {lines:List (List Int)} {s:Int} {f bu bf be bp bg:Pa} {id:Pa} {LC:Bool->σ->List Ob->Prop} {stp:σ->List Int->σ×Bool}
end
end Go.Ev
namespace Go.Ev
def incZ (v:Int):Int:=IntKind.wrap .i64 (v+1)
def incT (A:List (List Int)) (c:Nat) (x:Int):List (List Int):=A.set c ((A.getD c []).set (x-1).toNat (incZ ((A.getD c []).getD (x-1).toNat 0)))
def zpr (A:List (List Int)) (fl:List Int):Nat->List (List Int)
 | 0=>A
 | i+1=>incT (zpr A fl i) i (fl.getD i 0)
def addF (A:List (List Int)) (fl:List Int):List (List Int):=zpr A fl fl.length
def zkc (n:Nat):List (List Int):=List.replicate n (List.replicate n 0)
def vR (n:Nat) (fs:List (List Int)):List (List Int):=fs.foldl addF (zkc n)
def Sq (n:Nat) (A:List (List Int)):Prop:=A.length=n/\∀ r∈A,r.length=n
theorem Sq.get {n c:Nat} {A:List (List Int)} (h:Sq n A) (hc:c<n):A[c]? = some (A.getD c [])/\(A.getD c []).length=n:=by
 have h1:=h.1;rw [Zab,List.getElem?_eq_getElem (by omega)];exact ⟨rfl,h.2 _ (Zal _)⟩
theorem Sq.inc {n c:Nat} {A:List (List Int)} {x:Int} (h:Sq n A) (hc:c<n):Sq n (incT A c x):=by
 refine ⟨by simp [incT,h.1],fun r hr => ?_⟩;rcases Zcn hr with q | rfl
 ·exact h.2 r q
 ·rw [List.length_set];exact (h.get hc).2
theorem Sq.fi {n:Nat} {A:List (List Int)} {fl:List Int} (h:Sq n A):∀ i,i<=n->Sq n (zpr A fl i)
 | 0,_=>h
 | i+1,hi=>(Sq.fi h i (by omega)).inc (by omega)
theorem Sq.zero (n:Nat):Sq n (zkc n):=⟨by simp [zkc],fun r hr=>by simp [zkc] at hr;rw [hr.2];simp⟩
end Go.Ev
namespace Go.Ev
open Go Go.Proofs
variable {B:Nat}
abbrev tI (A:List (List Int)):List (List AV):=A.map fun r=>r.map I
def wrapN (k:Nat):Int:=IntKind.wrap .i64 (k:Int)
abbrev bH (n:Nat) (rows:List (Pa×Option Nat)):List AV:=rows.map fun r=>.sl r.1 0 n r.2 1
abbrev zdh (rows:List (Pa×Option Nat)) (D:List (List Int)):List Ob:=List.zipWith (fun r fl=>Ob.arr r.1 (fl.map I)) rows D
structure TL (n:Nat) (lines:List (List Int)) (s:Int) (most:Nat) (tb:Pa) (D:List (List Int)) (t:AV) (L:List Ob):Prop where
 ex:∃ (o:Option Pa) (rs:List (Option Pa)) (rows:List (Pa×Option Nat)) (sv:AV) (S:List Ob),t=.agg [I s,.bool false,I most,I (wrapN D.length),sv,xu o 1 rows.length,.sl tb 0 n (some n) 1] /\
  L=.gro o 1 rows.length (bH n rows)::.tab tb rs (tI (vR n D))::(S++zdh rows (D.take most))/\rows.length=(D.take most).length/\(∀ r∈rows,vW n r.2)/\(∀ c,c<n->∃ r,rs[c]? = some (some r)) /\
  ((sv=.zh/\S=[]/\(lines=[]\/D=[]))\/∃ id c,sv=.sl id 0 1 none 2/\S=[.arr id [I s,I c]]/\lines≠[])
theorem Sq.fold {n:Nat}:∀ (l A:List (List Int)),Sq n A->(∀ f∈l,f.length=n)->Sq n (l.foldl addF A)
 | [],A,h,_=>h
 | f::l,A,h,hl=>by
  rw [Zcg];refine Sq.fold l _ ?_ fun x hx=>hl x (by simp [hx]);rw [addF,hl f (by simp)];exact h.fi n (Zai _)
theorem Sq.dist {n:Nat} {D:List (List Int)} (h:∀ f∈D,f.length=n):Sq n (vR n D):=Sq.fold D _ (.zero n) h
theorem zps {N:Pa->Prop} {O:AV->Prop} {hh:T Blk} {l:List AV} (hs:l.all jc=true) (h:∀ v∈l,Frz True N O hh v v):Frz True N O hh (.agg l) (.agg l) :=
 .agg _ _ rfl hs fun i v v' h1 h2=>by rw [h1] at h2;cases h2;exact h v (Zaa h1)
theorem zeo {h' h:T Blk} {id:Pa} {off ln esz:Nat} {cap:Option Nat} (hl:T.get .no id h'≠.no):rH h' h (.sl id off ln cap esz) (.sl id off ln cap esz):=.old _ (.inr (.inr (.inr ⟨id,off,ln,cap,esz,rfl,hl⟩)))
variable {n most:Nat} {lines:List (List Int)} {s:Int} {tb us:Pa} {h0:T Blk} {M:List Ob}
theorem TL.cells {D:List (List Int)} {t:AV} {L:List Ob} (h:TL n lines s most tb D t L):∃ a b c d e,t=.agg [I s,.bool false,a,b,c,d,e]/\t.cells=some [I s,.bool false,a,b,c,d,e]:=by
 obtain ⟨o,rs,rows,sv,S,rfl,rfl,hrl,hcap,hrs,hsp⟩:=h.ex;refine ⟨_,_,_,_,_,rfl,?_⟩;rcases hsp with ⟨rfl,_⟩ | ⟨id,c,rfl,_⟩ <;> cases o <;> rfl
theorem TL.frz {D:List (List Int)} {t:AV} {L A C:List Ob} {h' h:T Blk} {nx:Pa} (hT:TL n lines s most tb D t L) (H:Hp h0 h' nx (A++(L++C))):rH h' h t t:=by
 obtain ⟨o,rs,rows,sv,S,rfl,rfl,hrl,hcap,hrs,hsp⟩:=hT.ex;have live:∀ x:Ob,x∈(A++((.gro o 1 rows.length (bH n rows)::.tab tb rs (tI (vR n D))::(S++zdh rows (D.take most)))++C))->∀ id∈x.names,T.get .no id h'≠.no:=fun x hx id hid=>(H.own x hx).live id hid;have hrow:rH h' h (xu o 1 rows.length) (xu o 1 rows.length):=by
  cases o with
  | none=>exact .zh
  | some id=>exact zeo (live (.gro (some id) 1 rows.length (bH n rows)) (by simp) id (by simp [Ob.names]))
 have htb:rH h' h (.sl tb 0 n (some n) 1) (.sl tb 0 n (some n) 1):=zeo (live (.tab tb rs (tI (vR n D))) (by simp) tb (by simp [Ob.names]));have hsv:rH h' h sv sv/\jc sv=true:=by
  rcases hsp with ⟨rfl,_⟩ | ⟨id,c,rfl,rfl,_⟩
  ·exact ⟨.zh,rfl⟩
  ·exact ⟨zeo (live (.arr id [I s,I c]) (by simp) id (by simp [Ob.names])),rfl⟩
 have hrs':jc (xu o 1 rows.length)=true:=by cases o <;> rfl
 refine zps (by simp only [List.all_cons,List.all_nil,hsv.2,hrs',Bool.and_true];rfl) fun v hv => ?_;simp only [Zag,List.not_mem_nil,or_false] at hv;rcases hv with rfl | rfl | rfl | rfl | rfl | rfl | rfl
 ·exact .int _ _
 ·exact .bool _
 ·exact .int _ _
 ·exact .int _ _
 ·exact hsv.1
 ·exact hrow
 ·exact htb
end Go.Ev
namespace Go.Ev
open Go Go.Proofs
variable {B:Nat}
theorem zwn {l:List Int}:∀ v∈l.map I,fH v=true:=fun v hv=>by obtain ⟨x,_,rfl⟩:=List.mem_map.1 hv;rfl
theorem TL.fix {n most:Nat} {lines:List (List Int)} {s:Int} {tb:Pa} {D:List (List Int)} {t:AV} {L A C:List Ob} {h0 h:T Blk} {nx:Pa} (hT:TL n lines s most tb D t L) (hD:∀ f∈D,f.length=n) (H:Hp h0 h nx (A++(L++C))) :
  ∃ sv,rH h0 h t (.agg [I s,.bool false,I most,I (wrapN D.length),sv,pz (D.take most),pz (vR n D)])/\(sv=.zh\/∃ c,sv=.lst 2 1 [I s,I c]):=by
 obtain ⟨o,rs,rows,sv,S,rfl,rfl,hrl,hcap,hrs,hsp⟩:=hT.ex;have idx:∀ x:Ob,x∈(A++((.gro o 1 rows.length (bH n rows)::.tab tb rs (tI (vR n D))::(S++zdh rows (D.take most)))++C))->∃ k:Nat,(A++((.gro o 1 rows.length (bH n rows)::.tab tb rs (tI (vR n D))::(S++zdh rows (D.take most)))++C))[k]? = some x:=fun x hx=>List.mem_iff_getElem?.1 hx;have hSq:=Sq.dist (n:=n) hD;have hrow:∀ (i:Nat) v v',(bH n rows)[i]? = some v->((D.take most).map encI)[i]? = some v'->rH h0 h v v':=by
  intro i v v' q1 q2;rw [List.getElem?_map] at q1 q2;cases e1:rows[i]? with
  | none=>rw [e1] at q1;cases q1
  | some r =>
   cases e2:(D.take most)[i]? with
   | none=>rw [e2] at q2;cases q2
   | some fl =>
    rw [e1] at q1;rw [e2] at q2;have q1:=Option.some.inj q1;have q2:=Option.some.inj q2;subst q1 q2;have hfl:fl.length=n:=hD fl (Zcf (Zaa e2));have hm:Ob.arr r.1 (fl.map I)∈zdh rows (D.take most):=List.mem_iff_getElem?.2 ⟨i,by rw [zdh,List.getElem?_zipWith,e1,e2]⟩;obtain ⟨k,hk⟩:=idx (.arr r.1 (fl.map I)) (by simp only [Zat,Zag];exact .inr (.inl (.inr (.inr (.inr hm)))));have:=H.og hk (hcap r (Zaa e1)) (e:=1) (by simp [hfl]) zwn;have e3:AV.lst 1 n (fl.map I)=encI fl:=by rw [<- hfl]
    rw [e3] at this;exact this
 have hlist:rH h0 h (xu o 1 rows.length) (pz (D.take most)):=by
  obtain ⟨k,hk⟩:=idx (.gro o 1 rows.length (bH n rows)) (by simp);have own:=H.own _ (Zaa hk);cases o with
  | none =>
   obtain ⟨_,q⟩:=own;have:D.take most=[]:=Zbc (by omega);rw [this];exact .zai 1
  | some id =>
   obtain ⟨t,g1,g2,g3⟩:=own;have harr:yw h id (bH n rows):=⟨true,t,by rw [g1,g2],by rw [g2];exact g3⟩;have hoff:=H.off id (List.mem_flatMap.2 ⟨_,Zaa hk,by simp [Ob.names]⟩);have:=yw.frzE (N:=fun id=>T.get Blk.no id h0=.no) (O:=fun v=>(∃ id off,v=.ptr id off/\T.get Blk.no id h0≠.no)\/(∃ id,v=.yld id/\T.get Blk.no id h0≠.no)\/(∃ id,v=.map id/\T.get Blk.no id h0≠.no)\/(∃ id off ln cap esz,v=.sl id off ln cap esz/\T.get Blk.no id h0≠.no)) (cap:=none) (e:=1) (n:=rows.length) (l':=(D.take most).map encI) harr hoff trivial (by simp) (by rw [Zas,Zas,hrl]) (List.all_eq_true.2 fun v hv=>by obtain ⟨x,_,rfl⟩:=List.mem_map.1 hv;rfl) hrow;rw [hrl] at this ⊢;exact this
 have htab:rH h0 h (.sl tb 0 n (some n) 1) (pz (vR n D)):=by
  obtain ⟨k,hk⟩:=idx (.tab tb rs (tI (vR n D))) (by simp)
  have:=H.zvz hk (cap:=some n) (n:=n) (Zai _) (by simp [hSq.1]) (fun l hl v hv=>by
   obtain ⟨r,_,rfl⟩:=List.mem_map.1 hl;obtain ⟨x,_,rfl⟩:=List.mem_map.1 hv
   rfl)
  have e:AV.lst 1 n ((tI (vR n D)).map fun l=>AV.lst 1 l.length l)=pz (vR n D):=by
   show _=AV.lst 1 _ _;rw [hSq.1];simp [tI,Function.comp_def]
  rw [e] at this;exact this
 have hsv:∃ sv',rH h0 h sv sv'/\(sv'=.zh\/∃ c,sv'=.lst 2 1 [I s,I c]):=by
  rcases hsp with ⟨rfl,_⟩ | ⟨id,c,rfl,rfl,_⟩
  ·exact ⟨.zh,.zh,.inl rfl⟩
  ·obtain ⟨k,hk⟩:=idx (.arr id [I s,I c]) (by simp);exact ⟨_,H.og hk (cap:=none) (n:=1) (e:=2) trivial rfl (fun v hv=>by simp only [Zag,List.not_mem_nil,or_false] at hv;rcases hv with rfl | rfl <;> rfl),.inr ⟨c,rfl⟩⟩
 obtain ⟨sv',hs1,hs2⟩:=hsv;refine ⟨sv',.agg _ _ rfl (by rcases hs2 with rfl | ⟨c,rfl⟩ <;> rfl) fun i v v' q1 q2 => ?_,hs2⟩
 match i with
 | 0=>simp only [List.getElem?_cons_zero,Option.some.injEq] at q1 q2;subst q1 q2;exact .int _ _
 | 1=>simp only [List.getElem?_cons_succ,List.getElem?_cons_zero,Option.some.injEq] at q1 q2;subst q1 q2;exact .bool _
 | 2=>simp only [List.getElem?_cons_succ,List.getElem?_cons_zero,Option.some.injEq] at q1 q2;subst q1 q2;exact .int _ _
 | 3=>simp only [List.getElem?_cons_succ,List.getElem?_cons_zero,Option.some.injEq] at q1 q2;subst q1 q2;exact .int _ _
 | 4=>simp only [List.getElem?_cons_succ,List.getElem?_cons_zero,Option.some.injEq] at q1 q2;subst q1 q2;exact hs1
 | 5=>simp only [List.getElem?_cons_succ,List.getElem?_cons_zero,Option.some.injEq] at q1 q2;subst q1 q2;exact hlist
 | 6=>simp only [List.getElem?_cons_succ,List.getElem?_cons_zero,Option.some.injEq] at q1 q2;subst q1 q2;exact htab
 | i+7=>simp at q1
theorem AscL.len {n:Nat} {l:List Int} (h:AscL n l):l.length<=n:=by
 obtain ⟨t,ht⟩:=pU l ((List.range n).map fun (i:Nat)=>(i:Int)) (h.2.1.imp fun {x y} q e=>by omega) fun x hx=>by
  have:=h.2.2 x hx;exact List.mem_map.2 ⟨x.toNat,List.mem_range.2 (by omega),by omega⟩
 have:=ht.length_eq;simp at this;omega
noncomputable abbrev TA (lines:List (List Int)) (D:List (List Int)) (o:Option Pa):Ob:=.gro o 2 (zuq lines D).length (zzm (zuq lines D))
end Go.Ev
namespace Go.Ev
open Go Go.Proofs
variable {B:Nat}
set_option maxRecDepth 100000
theorem zwo (op:KW3->OP) (h:T Blk) (nx:Pa) (k:KW3):sGW (.bool false) false op h nx k=op k:=nr rfl
theorem zwp (op:KW3->OP) (h:T Blk) (nx:Pa) (k:KW3):sGW (.bool true) false op h nx k=k .undef h nx:=nr rfl
theorem zwq {a b:Bool} {K:AV->OP}:zf .eql .bool (.bool a) (.bool b) K=K (.bool (a==b)):=by cases a <;> cases b <;> exact nr rfl
abbrev WdZ (m:Nat):AV:=.int .u64 (m:Int)
theorem zpt {z:Int} (h:0<=z/\z<18446744073709551616):IntKind.wrap .u64 z=z:=by
 have e:IntKind.wrap .u64 z=z%18446744073709551616:=by
  unfold IntKind.wrap;first | rfl | simp [IntKind.bits,IntKind.signed] | skip
 rw [e];omega
theorem zpu {m:Nat}:IntKind.wrap .u64 (m:Int)=((m%18446744073709551616:Nat):Int):=by
 have e:IntKind.wrap .u64 (m:Int)=(m:Int)%18446744073709551616:=by
  unfold IntKind.wrap;first | rfl | simp [IntKind.bits,IntKind.signed] | skip
 rw [e];omega
theorem zkd {a b:Nat} {K:AV->OP}:zf .add .int (WdZ a) (WdZ b) K=K (WdZ ((a+b)%18446744073709551616)):=by
 rw [zy9,show (a:Int)+(b:Int)=((a+b:Nat):Int) by omega,zpu]
theorem zgv {a b:Nat} {K:AV->OP}:zf .mul .int (WdZ a) (WdZ b) K=K (WdZ ((a*b)%18446744073709551616)):=by
 rw [zza,show (a:Int)*(b:Int)=((a*b:Nat):Int) by simp,zpu]
theorem zzs {m n:Nat} {k:IntKind} {K:AV->OP} (hn:n<=64):zf .shr .int (WdZ m) (.int k (n:Int)) K=K (WdZ (m / 2 ^ n)):=by
 have e:zf .shr .int (WdZ m) (.int k (n:Int)) K=(bif ilt (n:Int) 0 then Out.no 5 else wo ((m:Int).fdiv (2 ^ (min (n:Int).toNat IntKind.u64.bits))) fun z=>K (.int .u64 z)):=by cases k <;> rfl
 have h0:ilt (n:Int) 0=false:=rfl;rw [e,h0,cond_false,j8];have hb:IntKind.u64.bits=64:=rfl;rw [hb,Int.toNat_natCast,Nat.min_eq_left hn,Int.fdiv_eq_ediv_of_nonneg _ (Int.pow_nonneg (by omega))]
 congr 2
theorem zep {m:Nat} {K:AV->OP} (hm:m<18446744073709551616):zf .and .int (WdZ m) (.int .u64 4294967295) K=K (WdZ (m%4294967296)):=by
 have e:zf .and .int (WdZ m) (WdZ 4294967295) K=wo (IntKind.u64.wrap ((BitVec.ofInt 64 (m:Int) &&& BitVec.ofInt 64 ((4294967295:Nat):Int)).toNat:Int)) fun z=>K (.int .u64 z):=rfl;have h1:(BitVec.ofInt 64 (m:Int) &&& BitVec.ofInt 64 ((4294967295:Nat):Int)).toNat=m%4294967296:=by
  rw [BitVec.ofInt_natCast,BitVec.ofInt_natCast,BitVec.toNat_and,BitVec.toNat_ofNat,BitVec.toNat_ofNat,Zbi hm];exact Nat.and_two_pow_sub_one_eq_mod m 32
 have e2:zf .and .int (WdZ m) (.int .u64 4294967295) K=zf .and .int (WdZ m) (WdZ 4294967295) K:=rfl;rw [e2,e,j8,h1,zpt (by omega)]
theorem zke {m:Nat} {K:AV->OP} (hm:m<=9223372036854775807):zf .and .int (I (m:Int)) (I 1) K=K (I ((m%2:Nat):Int)):=by
 have e:zf .and .int (I (m:Int)) (I 1) K=wo (IntKind.i64.wrap ((BitVec.ofInt 64 (m:Int) &&& BitVec.ofInt 64 1).toNat:Int)) fun z=>K (.int .i64 z):=rfl;have h1:(BitVec.ofInt 64 (m:Int) &&& BitVec.ofInt 64 1).toNat=m%2:=by
  rw [BitVec.ofInt_natCast,BitVec.toNat_and,BitVec.toNat_ofNat,Zbi (by omega)];show m &&& 1=m%2;exact Nat.and_one_is_mod m
 rw [e,j8,h1,uJ (by omega)]
theorem zur {m n:Nat} {k:IntKind} {K:AV->OP} (hn:n<=64):zf .shr .int (I (m:Int)) (.int k (n:Int)) K=K (I ((m / 2 ^ n:Nat):Int)):=by
 have e:zf .shr .int (I (m:Int)) (.int k (n:Int)) K=(bif ilt (n:Int) 0 then Out.no 5 else wo ((m:Int).fdiv (2 ^ (min (n:Int).toNat IntKind.i64.bits))) fun z=>K (.int .i64 z)):=by cases k <;> rfl
 have h0:ilt (n:Int) 0=false:=rfl;rw [e,h0,cond_false,j8];have hb:IntKind.i64.bits=64:=rfl;rw [hb,Int.toNat_natCast,Nat.min_eq_left hn,Int.fdiv_eq_ediv_of_nonneg _ (Int.pow_nonneg (by omega))]
 congr 2
theorem zpv {k:IntKind} {z:Int} {K:AV->OP} (h:0<=z/\z<18446744073709551616):kL .u64 (.int k z) K=K (.int .u64 z):=by
 show wo (kE .u64 z) (fun z=>K (.int .u64 z))=_;rw [j8,kX,zpt h]
theorem zpw {k:IntKind} {z:Int} {K:AV->OP} (h : -9223372036854775808<=z/\z<=9223372036854775807):kL .i64 (.int k z) K=K (I z):=by
 show wo (kE .i64 z) (fun z=>K (.int .i64 z))=_;rw [j8,kX,uJ h]
theorem zus {z:Int} {K:AV->OP} (h : -9223372036854775807<=z/\z<=9223372036854775807):sNeg (I z) K=K (I (-z)):=by
 show wo (kE .i64 (0-z)) (fun z=>K (.int .i64 z))=_;rw [j8,kX,uJ (by omega),Int.zero_sub]
theorem dD {K:AV->OP}:zf .eql (.nil .sl) .zh .zh K=K (.bool true):=nr rfl
theorem zwr {a b:Nat} (ha:a<18446744073709551616) (hb:b<18446744073709551616):Pure Tryz.prog B 205 [WdZ a,WdZ b] (· = .tup [WdZ (a*b / 18446744073709551616),WdZ (a*b%18446744073709551616)]):=by
 intro p h nx K hK;refine zM zP yh 10 fun hf => ?_;rw [F205.go,zep ha];have sh:∀ (m:Nat) (K:AV->OP),zf .shr .int (WdZ m) (.int .u64 32) K=K (WdZ (m / 4294967296)):=fun m K=>zzs (n:=32) (by omega);rw [sh,zep hb,sh];have ha0:a%4294967296<4294967296:=by omega
 have ha1:a / 4294967296<4294967296:=by omega
 have hb0:b%4294967296<4294967296:=by omega
 have hb1:b / 4294967296<4294967296:=by omega
 have ea:a=a / 4294967296*4294967296+a%4294967296:=by omega
 have eb:b=b / 4294967296*4294967296+b%4294967296:=by omega
 generalize a / 4294967296=a1 at *
 generalize a%4294967296=a0 at *
 generalize b / 4294967296=b1 at *
 generalize b%4294967296=b0 at *
 have m00:a0*b0<=4294967295*4294967295:=Zba (by omega) (by omega);have m10:a1*b0<=4294967295*4294967295:=Zba (by omega) (by omega);have m01:a0*b1<=4294967295*4294967295:=Zba (by omega) (by omega);have m11:a1*b1<=4294967295*4294967295:=Zba (by omega) (by omega);have hp:a*b=a1*b1*18446744073709551616+(a1*b0+a0*b1)*4294967296+a0*b0:=by
  rw [ea,eb];simp only [Zbg,Nat.mul_add];have e1:a1*4294967296*(b1*4294967296)=a1*b1*18446744073709551616:=by
   rw [Nat.mul_mul_mul_comm]
  have e2:a1*4294967296*b0=a1*b0*4294967296:=by rw [Nat.mul_right_comm]
  have e3:a0*(b1*4294967296)=a0*b1*4294967296:=by rw [Nat.mul_assoc]
  rw [e1,e2,e3];omega
 rw [zgv,zgv,Zbi (show a0*b0<18446744073709551616 by omega),Zbi (show a1*b0<18446744073709551616 by omega),sh,zkd,Zbi (show a1*b0+a0*b0 / 4294967296<18446744073709551616 by omega),zep (by omega),sh,zgv,Zbi (show a0*b1<18446744073709551616 by omega),zkd,zgv,Zbi (show a1*b1<18446744073709551616 by omega),zkd,sh,zkd,zgv];refine hK _ ?_ hf;rw [hp]
 generalize a0*b0=p00 at *
 generalize a1*b0=p10 at *
 generalize a0*b1=p01 at *
 generalize a1*b1=p11 at *
 congr 3
 congr 1
 omega
abbrev sm (x:Int):AV:=.agg [I x,.zh]
theorem zeq {h0 h:T Blk} {nx p:Pa} {L:List Ob} {k:Nat} {x:Int} {l:List AV} {K:Kw Prop} (H:Hp h0 h nx L) (hk:L[k]? = some (.arr p l)) (hl:l.length=2)
  (hK:∀ h' nx' L',Hp h0 h' nx' L'->K (sm x) h' nx'=.ok True):(y9 [(I 0),.zh] [(0,1,I x)] fun v11=>zQ 2 (.ptr p 0) v11 h nx fun v12 h13 n14=>zN 2 (.ptr p 0) h13 fun v15=>K v15 h13 n14)=.ok True:=by
 rw [zj5];refine H.qo (l2:=[I x,.zh]) (k:=k) hk hl rfl fun h4 H4 => ?_;rw [H4.zk (k:=k) (n:=2) (List.getElem?_set_self (List.getElem?_eq_some_iff.1 hk).1) rfl];exact hK _ _ _ H4
theorem zcb {N:Pa->Prop} {O:AV->Prop} {hh:T Blk} {x:Int}:Frz True N O hh (sm x) (sm x):=zss (by simp [fH])
theorem zpx {x:Int}:Pure Tryz.prog B 85 [I x] (· = sm x):=by
 refine yC fun h nx K H0 hK=>zM zP yh 100 fun hf => ?_;rw [F85.go];refine H0.alloc fun p h1 nx1 H1 => ?_;exact zeq H1 (k:=0) rfl rfl fun _ _ _ H=>hK _ _ _ _ _ H zcb rfl
theorem zwt {a b:Bool} {K:AV->OP}:zf .eql .bool (.bool a) (.bool b) K=K (.bool (a==b)):=zwq
theorem zs5 {a b:Int} (ha : -9223372036854775808<=a/\a<=9223372036854775807) (hab : -9223372036854775808<=a+b/\a+b<=9223372036854775807):Pure Tryz.prog B 87 [sm a,sm b] (· = sm (a+b)):=by
 refine yC fun h nx K H0 hK=>zM zP yh 100 fun hf => ?_;rw [F87.go];refine H0.box (l:=[I a,.zh]) rfl fun pa h1 nx1 H1 => ?_;refine H1.box (l:=[I b,.zh]) rfl fun pb h2 nx2 H2 => ?_;refine H2.alloc fun p h3 nx3 H3 => ?_;simp only [sFx];rw [H3.load (k:=2) (i:=0+1) rfl rfl,dD];simp only [jM,sFx];rw [H3.load (k:=1) (i:=0+1) rfl rfl,dD,zV,zD];rw [H3.load (k:=2) (i:=0) rfl rfl,H3.load (k:=1) (i:=0) rfl rfl,jf hab,H3.load (k:=2) (i:=0) rfl rfl];simp only [xk];rw [H3.load (k:=1) (i:=0) rfl rfl];simp only [xk];have e:(decide (a<a+b)==decide (0<b))=true:=by
  have:decide (a<a+b)=decide (0<b):=decide_eq_decide.2 (by omega);rw [this];simp
 rw [zwt,e,zD];exact zeq H3 (k:=0) rfl rfl fun _ _ _ H=>hK _ _ _ _ _ H zcb rfl
def cmpI (a b:Int):Int:=if a<b then -1 else if b<a then 1 else 0
theorem zs6 {a b:Int}:Pure Tryz.prog B 186 [sm a,sm b] (· = I (cmpI a b)):=by
 refine yC fun h nx K H0 hK=>zM zP yh 100 fun hf => ?_;rw [sK.go];refine H0.box (l:=[I a,.zh]) rfl fun pa h1 nx1 H1 => ?_;refine H1.box (l:=[I b,.zh]) rfl fun pb h2 nx2 H2 => ?_;simp only [sFx];rw [H2.load (k:=1) (i:=0+1) rfl rfl,dD];simp only [jM,sFx];rw [H2.load (k:=0) (i:=0+1) rfl rfl,dD,zV,zD];rw [H2.load (k:=1) (i:=0) rfl rfl,H2.load (k:=0) (i:=0) rfl rfl];simp only [jk];by_cases c1:a<b
 ·simp only [c1,decide_true,zD];exact hK _ _ _ _ _ H2 (zK rfl) (by rw [cmpI,if_pos c1])
 simp only [c1,decide_false,zE];rw [H2.load (k:=1) (i:=0) rfl rfl,H2.load (k:=0) (i:=0) rfl rfl];simp only [xk];by_cases c2:b<a
 ·simp only [c2,decide_true,zD];exact hK _ _ _ _ _ H2 (zK rfl) (by rw [cmpI,if_neg c1,if_pos c2])
 ·simp only [c2,decide_false,zE];exact hK _ _ _ _ _ H2 (zK rfl) (by rw [cmpI,if_neg c1,if_neg c2])
theorem zkf {a:Int} (ha : -9223372036854775807<=a/\a<=9223372036854775807):Pure Tryz.prog B 201 [I a] (· = WdZ a.natAbs):=by
 intro p h nx K hK;refine zM zP yh 10 fun hf => ?_;rw [aG.go];simp only [jk];by_cases c:a<0
 ·simp only [c,decide_true,zD];rw [zus ha,zpv (by omega)];exact hK _ (by congr 1;omega) hf
 ·simp only [c,decide_false,zE];rw [zpv (by omega)];exact hK _ (by congr 1;omega) hf
theorem zwu {a b:Bool} {K:AV->OP}:zf .neq .bool (.bool a) (.bool b) K=K (.bool (a != b)):=by cases a <;> cases b <;> exact nr rfl
theorem zkg {a b:Int} (ha : -9223372036854775807<=a/\a<=9223372036854775807) (hb : -9223372036854775807<=b/\b<=9223372036854775807) (hab:(a*b).natAbs<=9223372036854775807):Pure Tryz.prog B 151 [sm a,sm b] (· = sm (a*b)):=by
 refine yC fun h nx K H0 hK=>zM zP yh 100 fun hf => ?_;rw [fF.go];refine H0.box (l:=[I a,.zh]) rfl fun pa h1 nx1 H1 => ?_;refine H1.box (l:=[I b,.zh]) rfl fun pb h2 nx2 H2 => ?_;refine H2.alloc fun p h3 nx3 H3 => ?_;simp only [sFx];rw [H3.load (k:=2) (i:=0+1) rfl rfl,dD];simp only [jM,sFx];rw [H3.load (k:=1) (i:=0+1) rfl rfl,dD,zV,zD];rw [H3.load (k:=2) (i:=0) rfl rfl,H3.load (k:=1) (i:=0) rfl rfl];refine zkf ha _ _ _ _ ?_;rintro _ rfl _;rw [H3.load (k:=1) (i:=0) rfl rfl];simp only [zC];refine zkf hb _ _ _ _ ?_;rintro _ rfl _;refine zwr (by omega) (by omega) _ _ _ _ ?_;rintro _ rfl _;rw [<- Int.natAbs_mul];simp only [jA,jB];rw [Nat.div_eq_of_lt (by omega),Zbi (by omega)];simp only [fQ,Int.natCast_zero,decide_true,jM,sJ,show ((a*b).natAbs:Int)<=9223372036854775807 by omega,zV,zD];rw [H3.load (k:=2) (i:=0) rfl rfl];simp only [jk];rw [H3.load (k:=1) (i:=0) rfl rfl];simp only [jk];rw [zwu];by_cases c:(decide (a<0) != decide (b<0))=true
 ·rw [c,zD,zpw (by omega),zus (by omega)];have e : -((a*b).natAbs:Int)=a*b:=by
   have:a*b<=0:=by
    by_cases c1:a<0 <;> by_cases c2:b<0 <;> simp [c1,c2] at c
    ·exact Int.mul_nonpos_of_nonpos_of_nonneg (by omega) (by omega)
    ·exact Int.mul_nonpos_of_nonneg_of_nonpos (by omega) (by omega)
   omega
  rw [e];exact zeq H3 (k:=0) rfl rfl fun _ _ _ H=>hK _ _ _ _ _ H zcb rfl
 ·have c':(decide (a<0) != decide (b<0))=false:=by simpa using c
  rw [c',zE,fF.k1,zpw (by omega)];have e:((a*b).natAbs:Int)=a*b:=by
   have:0<=a*b:=by
    by_cases c1:a<0 <;> by_cases c2:b<0 <;> simp [c1,c2] at c'
    ·exact Int.mul_nonneg_of_nonpos_of_nonpos (by omega) (by omega)
    ·exact Int.mul_nonneg (by omega) (by omega)
   omega
  rw [e];exact zeq H3 (k:=0) rfl rfl fun _ _ _ H=>hK _ _ _ _ _ H zcb rfl
theorem zzt {a:Int} (ha : -3000000000<=a/\a<=3000000000):Pure Tryz.prog B 185 [sm a,I 2] (· = sm (a*a)):=by
 have hsq:0<=a*a/\(a*a).natAbs<=9000000000000000000:=by
  refine ⟨?_,?_⟩
  ·rcases Int.le_total 0 a with q | q
   ·exact Int.mul_nonneg q q
   ·exact Int.mul_nonneg_of_nonpos_of_nonpos q q
  ·rw [Int.natAbs_mul];exact Zba (show a.natAbs<=3000000000 by omega) (show a.natAbs<=3000000000 by omega)
 refine yC fun h nx K H0 hK=>zM zP yh 100 fun hf => ?_;rw [jd.go];refine H0.box (l:=[I a,.zh]) rfl fun pa h1 nx1 H1 => ?_;refine H1.alloc fun p h2 nx2 H2 => ?_;refine zpx _ _ _ _ ?_;rintro _ rfl _;refine H2.alloc fun q h3 nx3 H3 => ?_;refine H3.qo (l2:=[I 1,.zh]) (k:=0) rfl rfl rfl fun h4 H4 => ?_;have an2:∀ K:AV->OP,zf .and .int (I 2) (I 1) K=K (I 0):=fun K=>zke (m:=2) (by omega);have an1:∀ K:AV->OP,zf .and .int (I 1) (I 1) K=K (I 1):=fun K=>zke (m:=1) (by omega);have sh2:∀ K:AV->OP,zf .shr .int (I 2) (.int .u64 1) K=K (I 1):=fun K=>zur (m:=2) (n:=1) (by omega);have sh1:∀ K:AV->OP,zf .shr .int (I 1) (.int .u64 1) K=K (I 0):=fun K=>zur (m:=1) (n:=1) (by omega);refine jd.L1 (fun m x1 h' nx'=>(m=2/\x1=I 2/\h'=h4/\nx'=nx3)\/(m=1/\x1=I 1/\Hp h h' nx' [.arr q [I 1,.zh],.arr p [I 0,.zh],.arr pa [I (a*a),.zh]])\/(m=0/\x1=I 0/\Hp h h' nx' [.arr q [I (a*a),.zh],.arr p [I 0,.zh],.arr pa [I (a*a),.zh]])) (m:=2) (by omega) (.inl ⟨rfl,rfl,rfl,rfl⟩) ?_;rintro m z1 z5 z6 z7 h5 nx5 R (⟨rfl,rfl,rfl,rfl⟩ | ⟨rfl,rfl,H5⟩ | ⟨rfl,rfl,H5⟩) hR
 ·simp only [xk,show (0:Int)<2 by omega,decide_true,zD];rw [an2];simp only [fQ,show ¬ (0:Int)=1 by omega,decide_false,zE];rw [jd.k7];simp only [xk,show (1:Int)<2 by omega,decide_true,zD];rw [H4.zk (k:=2) (n:=2) rfl rfl,H4.zk (k:=2) (n:=2) rfl rfl];refine zkg (a:=a) (b:=a) (by omega) (by omega) (by omega) _ _ _ _ ?_;rintro _ rfl _;refine H4.qo (l2:=[I (a*a),.zh]) (k:=2) rfl rfl rfl fun h6 H6 => ?_;rw [jd.k8,sh2];exact hR _ _ _ _ _ _ _ (by omega) (.inr (.inl ⟨rfl,rfl,H6⟩))
 ·simp only [xk,show (0:Int)<1 by omega,decide_true,zD];rw [an1];simp only [fQ,decide_true,zD];rw [H5.zk (k:=0) (n:=2) rfl rfl,H5.zk (k:=2) (n:=2) rfl rfl];refine zkg (a:=1) (b:=a*a) (by omega) (by omega) (by rw [Int.one_mul];omega) _ _ _ _ ?_;rintro _ rfl _;rw [Int.one_mul];refine H5.qo (l2:=[I (a*a),.zh]) (k:=0) rfl rfl rfl fun h6 H6 => ?_;rw [jd.k7];simp only [xk,show ¬ (1:Int)<1 by omega,decide_false,zE];rw [jd.k8,sh1];exact hR _ _ _ _ _ _ _ (by omega) (.inr (.inr ⟨rfl,rfl,H6⟩))
 ·simp only [xk,show ¬ (0:Int)<0 by omega,decide_false,zE];rw [jd.k9,H5.zk (k:=0) (n:=2) rfl rfl];refine H5.qo (l2:=[I (a*a),.zh]) (k:=1) rfl rfl rfl fun h6 H6 => ?_;rw [H6.zk (k:=1) (n:=2) rfl rfl];exact hK _ _ _ _ _ H6 zcb rfl
abbrev eF (x:Int):Bool:=decide (x < -999999999)||decide (999999999<x)
theorem ziu {f:List Int} (hl:f.length<=100000):Pure Tryz.prog B 53 [encI f] (· = I (if f.any eF then 3 else 0)):=by
 intro p h nx K hK;refine zM zP yh 10000000 fun hf => ?_;rw [F53.go];refine F53.L1 (fun m z2 h' nx'=>∃ i:Nat,z2=I i/\f.length-i=m/\i<=f.length/\h'=h/\nx'=nx/\(f.take i).any eF=false) (m:=f.length) (by omega) ⟨0,rfl,rfl,by omega,rfl,rfl,rfl⟩ ?_;rintro m z1 z2 z3 z4 h nx R ⟨i,rfl,rfl,hi,rfl,rfl,htk⟩ hR;simp only [zL,jk];by_cases hlt:i<f.length
 case neg =>
  simp only [show ¬ (i:Int)<(f.length:Int) by omega,decide_false,zE];rw [F53.k8];rw [Zap (by omega)] at htk;exact hK _ (by rw [htk];rfl) hf
 simp only [show (i:Int)<(f.length:Int) by omega,decide_true,zD];have hx:f[i]? = some f[i]:=List.getElem?_eq_getElem hlt;have hm:=Zal hlt;have hs:(f.take (i+1)).any eF=((f.take i).any eF||eF f[i]):=by
  rw [Zaq,hx,List.any_append];simp
 rw [cZ rfl hlt,ldL (rJ hx)];simp only [jk];by_cases c1:f[i] < -999999999
 ·simp only [c1,decide_true,yQ,zV,zD];exact hK _ (by rw [List.any_eq_true.2 ⟨_,hm,by simp [c1]⟩];rfl) hf
 simp only [c1,decide_false,yL];rw [cZ rfl hlt,ldL (rJ hx)];simp only [xk,zT];by_cases c2:999999999<f[i]
 ·simp only [c2,decide_true,zD];exact hK _ (by rw [List.any_eq_true.2 ⟨_,hm,by simp [c2]⟩];rfl) hf
 simp only [c2,decide_false,zE];rw [jf (by omega)];exact hR _ _ _ _ _ _ _ (by omega) ⟨i+1,rfl,rfl,by omega,rfl,rfl,by rw [hs,htk];simp [c1,c2]⟩
theorem ziv {f:List Int} (hl:f.length<=100000):Pure Tryz.prog B 109 [encI f] (· = I (if f.any eF then 3 else 0)):=by
 intro p h nx K hK;refine zM zP yh 1000 fun hf => ?_;rw [F109.go];refine zei (by omega) _ _ _ _ ?_;rintro _ rfl _;exact hK _ rfl hf
def y3 (l f:List Int):Int:=l.foldl (fun s c=>s+f.getD c.toNat 0) 0
structure zak (l f:List Int):Prop where
 len:l.length<=1000
 rng:∀ c∈l,0<=c/\c<(f.length:Int)
 bd:∀ x∈f, -1000000000<=x/\x<=1000000000
theorem zak.get {l f:List Int} (h:zak l f) {c:Int} (hc:c∈l):f[c.toNat]? = some (f.getD c.toNat 0) /\ -1000000000<=f.getD c.toNat 0/\f.getD c.toNat 0<=1000000000:=by
 have:=h.rng c hc;have hx:f[c.toNat]? = some (f.getD c.toNat 0):=by rw [Zab,List.getElem?_eq_getElem (by omega)];rfl
 exact ⟨hx,h.bd _ (Zaa hx)⟩
theorem pB {l f:List Int} {i:Nat} (h:i<l.length):y3 (l.take (i+1)) f=y3 (l.take i) f+f.getD l[i].toNat 0:=by
 rw [y3,Zaq,List.getElem?_eq_getElem h,List.foldl_append];rfl
theorem zgw {l f:List Int} (h:zak l f):∀ i,i<=l.length -> -(1000000000*(i:Int))<=y3 (l.take i) f/\y3 (l.take i) f<=1000000000*(i:Int)
 | 0,_=>by simp [y3]
 | i+1,hi=>by
  have ih:=zgw h i (by omega);have:=(h.get (Zal (show i<l.length by omega))).2;rw [pB (by omega)];omega
theorem zwv {l f:List Int} (h0:zak l f):Pure Tryz.prog B 219 [encI l,encI f] (· = I (y3 l f)):=by
 intro p h nx K hK;have hl:=h0.len;refine zM zP yh 10000 fun hf => ?_;rw [uq.go];simp only [zL];refine uq.L1 (fun m x3 x7 h' nx'=>∃ i:Nat,x7=I i/\x3=I (y3 (l.take i) f)/\l.length-i=m/\i<=l.length/\h'=h/\nx'=nx) (m:=l.length) (by omega) ⟨0,rfl,rfl,rfl,by omega,rfl,rfl⟩ ?_;rintro m z3 z4 z7 z8 h nx R ⟨i,rfl,rfl,rfl,hi,rfl,rfl⟩ hR;simp only [jk];by_cases hlt:i<l.length
 case neg =>
  simp only [show ¬ (i:Int)<(l.length:Int) by omega,decide_false,zE];rw [uq.k8,Zap (by omega)];exact hK _ rfl hf
 simp only [show (i:Int)<(l.length:Int) by omega,decide_true,zD];have hx:l[i]? = some l[i]:=List.getElem?_eq_getElem hlt;have hr:=h0.rng _ (Zal hlt);obtain ⟨hg,hb⟩:=h0.get (Zal hlt);have hbd:=zgw h0 i (by omega);rw [cZ rfl hlt,ldL (rJ hx),cZ (i:=l[i].toNat) (by omega) (by omega),ldL (rJ hg),jf (by omega),jf (by omega)];exact hR _ _ _ _ _ _ _ (by omega) ⟨i+1,rfl,by rw [pB hlt],rfl,by omega,rfl,rfl⟩
def wX (lines:List (List Int)) (f:List Int):List Int:=lines.map fun l=>y3 l f
theorem zcc {lines:List (List Int)} {f:List Int} {i:Nat} (h:i<lines.length):wX (lines.take (i+1)) f=wX (lines.take i) f++[y3 lines[i] f]:=by
 rw [wX,Zaq,List.getElem?_eq_getElem h,Zbk];rfl
theorem zdi (lines:List (List Int)) (f:List Int):(wX lines f).length=lines.length:=by simp [wX]
theorem zs7 {cells:Int} {lines:List (List Int)} {f:List Int} (hn:lines.length<=1000) (h0:∀ l∈lines,zak l f):Pure Tryz.prog B 164 [.agg [I cells,pz lines],encI f] (· = encI (wX lines f)):=by
 refine yC fun h nx K H0 hK=>zM zP yh 10000 fun hf => ?_;rw [uo.go];refine H0.box (l:=[I cells,pz lines]) rfl fun bx h1 nx1 H1 => ?_;rw [sFx,H1.load (k:=0) (i:=0+1) rfl rfl];simp only [zL];refine uo.L1 (fun m x4 x8 h' nx'=>∃ (i:Nat) (o:Option Pa),x8=I i/\x4=xu o 1 (wX (lines.take i) f).length/\lines.length-i=m/\i<=lines.length/\Hp h h' nx' [.gro o 1 (wX (lines.take i) f).length ((wX (lines.take i) f).map I),.arr bx [I cells,pz lines]]) (m:=lines.length) (by omega) ⟨0,none,rfl,rfl,rfl,by omega,H1.oh 1⟩ ?_;rintro m z4 z5 z8 z9 h2 nx2 R ⟨i,o,rfl,rfl,rfl,hi,H2⟩ hR;simp only [jk];by_cases hlt:i<lines.length
 case neg =>
  simp only [show ¬ (i:Int)<(lines.length:Int) by omega,decide_false,zE];rw [Zap (by omega)] at H2 ⊢;rw [uo.k8];exact hK _ _ _ _ _ H2 (H2.zam (k:=0) rfl fun v hv=>by obtain ⟨x,_,rfl⟩:=List.mem_map.1 hv;rfl) rfl
 simp only [show (i:Int)<(lines.length:Int) by omega,decide_true,zD];have hx:lines[i]? = some lines[i]:=List.getElem?_eq_getElem hlt;have hlen:(wX (lines.take i) f).length=i:=by rw [zdi,Zaz];omega
 rw [cZ rfl hlt,ldL (getT hx)];refine zwv (h0 _ (Zal hlt)) _ _ _ _ ?_;rintro _ rfl _;refine H2.yc (l:=[I (y3 lines[i] f)]) rfl fun tb h4 nx4 H4 => ?_;refine H4.appN (k:=1) (o:=o) (c:=1) (new:=[I (y3 lines[i] f)]) rfl (yw.rd (l:=[I (y3 lines[i] f)]) (n:=1) (H4.own _ (Zaj ..)) rfl) rfl rfl (by decide) (by decide) (by omega) fun o' h5 nx5 _ H5 => ?_;rw [jf (by omega)];refine hR _ _ _ _ _ _ _ (by omega) ⟨i+1,o',rfl,by rw [zcc hlt,Zau];rfl,rfl,by omega,?_⟩;rw [zcc hlt,Zau,Zbk];exact H5.drop
def difA (a:Int):List Int->Nat->Int
 | [],_ => -1
 | x::t,i=>if x=a then difA a t (i+1) else (i:Int)
def zdj (S:List Int):Int:=difA (S.getD 0 0) S 0
theorem zma {a:Int} {S:List Int} {i k:Nat} (h:i<S.length):difA a (S.drop i) k=if S[i]=a then difA a (S.drop (i+1)) (k+1) else (k:Int):=by
 rw [Zar h];rfl
theorem zpy {h0 h:T Blk} {nx p bx:Pa} {L:List Ob} {k:Nat} {S:List Int} {K:Kw Prop} {v:AV} (hl:S.length<=100000) (H:Hp h0 h nx L) (hk:L[k]? = some (.arr bx [encI S]))
  (hK:K (I (zdj S)) h nx=.ok True):(CS Tryz.prog B).fn 127 p [encI S,.fn 165 (.of 165) [.ptr bx 0]] h nx K=.ok True:=by
 refine yE (p:=.of 127) (K:=K) (zM zP yh 1000000 fun hf => ?_) fun _ _ _ _ q=>q;rw [gq.go];simp only [zL];refine gq.L1 (fun m z5 h' nx'=>∃ i:Nat,z5=I i/\S.length-i=m/\i<=S.length/\h'=h/\nx'=nx/\zdj S=difA (S.getD 0 0) (S.drop i) i) (m:=S.length) (by omega) ⟨0,rfl,rfl,by omega,rfl,rfl,rfl⟩ ?_;rintro m z2 z3 z5 z6 z7 h nx R ⟨i,rfl,rfl,hi,rfl,rfl,he⟩ hR;simp only [jk];by_cases hlt:i<S.length
 case neg =>
  simp only [show ¬ (i:Int)<(S.length:Int) by omega,decide_false,zE];rw [gq.k8];rw [he,Zbq (by omega)] at hK;exact hK
 simp only [show (i:Int)<(S.length:Int) by omega,decide_true,zD];have hx:S[i]? = some S[i]:=List.getElem?_eq_getElem hlt;have hy:S[0]? = some (S.getD 0 0):=by rw [Zab,List.getElem?_eq_getElem (by omega)];rfl
 rw [zma hlt] at he;rw [cZ rfl hlt,ldL (rJ hx),j3];refine yE (p:=.of 165) (zM zP yh 9 fun _ => ?_) fun _ _ _ _ q=>q;show zO tbl 9 _ (Pa.of 165) [I S[i],.ptr bx 0] _ _ _=_;rw [F165.go,H.load (k:=k) (i:=0) hk rfl,cZ (i:=0) (show (0:Int)=((0:Nat):Int) from rfl) (by omega),ldL (rJ hy)];simp only [qm];by_cases c:S[i]=S.getD 0 0
 ·rw [if_pos c] at he;simp only [c,decide_true,Zaf,zE];rw [jf (by omega)];exact hR _ _ _ _ _ _ _ _ (by omega) ⟨i+1,rfl,rfl,by omega,rfl,rfl,he⟩
 ·rw [if_neg c] at he;simp only [c,decide_false,Zah,zD];rw [he] at hK;exact hK
theorem zmb {cells:Int} {lines:List (List Int)} {f:List Int} (hn:lines.length<=1000) (h0:∀ l∈lines,zak l f):Pure Tryz.prog B 98 [.agg [I cells,pz lines],encI f] (· = I (zdj (wX lines f))):=by
 refine yC fun h nx K H0 hK=>zM zP yh 1000 fun hf => ?_;rw [F98.go];refine H0.box (l:=[I cells,pz lines]) rfl fun bx h1 nx1 H1 => ?_;rw [H1.zk (k:=0) (n:=2) rfl rfl];refine zs7 hn h0 _ _ _ _ ?_;rintro _ rfl _;refine H1.alloc fun b8 h2 nx2 H2 => ?_;refine H2.store (k:=0) rfl (by simp) rfl fun h3 H3 => ?_;rw [H3.load (k:=0) (i:=0) rfl rfl];have hlen:=zdi lines f;refine zpy (v:=.zh) (by omega) H3 (k:=0) rfl ?_;exact hK _ _ _ _ _ H3 (zK rfl) rfl
section
variable {cells:Int} {lines:List (List Int)} {f:List Int}
end
end Go.Ev
namespace Go.Ev
open Go Go.Proofs
def zer (J:Nat->List AV->T Blk->Option (AV×T Blk)) (f:Nat) (args:List AV) (res:AV):Bool:=match (xX (fun _=>false) J tbl 1000 60).fn f (.of f) args .e .z endK with
 | .ok v=>avEq v res
 | .no _=>false
theorem bL {J:Nat->List AV->T Blk->Option (AV×T Blk)} {f:Nat} {args:List AV} {res:AV} {B:Nat} (hJ:∀ B,JOk Tryz.prog B J) (ha:nns args=true) (h:zer J f args res=true):Pure Tryz.prog B f args (· = res):=by
 unfold zer at h;cases hq:(xX (fun _=>false) J tbl 1000 60).fn f (.of f) args .e .z endK with
 | no n=>rw [hq] at h;cases h
 | ok v =>
  rw [hq] at h;have e:=xZ h;subst e;exact zed zP mixed hJ ha hq
theorem zpz (s:List UInt8) (a:Int):nns [.str s,I a]=true:=rfl
def zzu (r c:Nat):List (List Int):=(List.range r).map fun i=>(List.range c).map fun k=>((c*i+k:Nat):Int)
def zzv (r c:Nat):List (List Int):=(List.range c).map fun k=>(List.range r).map fun i=>((c*i+k:Nat):Int)
def dedL (ls:List (List Int)):List (List Int):=ls.foldl (fun out l=>if out.contains l then out else out++[l]) []
def zkh (n:Nat) (d:Int) (k:Nat):List Int:=(List.range n).map fun (r:Nat)=>(n:Int)*(r:Int)+(((k:Int)+d*(r:Int))%(n:Int))
def sqL (k:Nat) (n:Nat):List (List Int) :=
 dedL (zzu n n++zzv n n++(if k=0 then [] else [zkh n 1 0,zkh n (-1) (n-1)])++(if k=2 then (List.range n).map (zkh n 1)++(List.range n).map (zkh n (-1)) else []))
def jG (k:Nat):List UInt8:=if k=0 then [115,101,109,105,109,97,103,105,99] else if k=1 then [109,97,103,105,99] else [112,97,110,100,105,97,103,111,110,97,108]
def sqVZ (k n:Nat):AV:=.tup [.agg [I ((n*n:Nat):Int),pz (sqL k n)],I 0]
def ok65 (f:Nat) (k:Nat):Bool:=(List.range 6).all fun n=>zer zj4 f [.str (jG k),I ((n+1:Nat):Int)] (sqVZ k (n+1))
theorem mZ {f k:Nat} (h:ok65 f k=true) {n:Nat} {B:Nat} (hn:1<=n/\n<=6):Pure Tryz.prog B f [.str (jG k),I (n:Int)] (· = sqVZ k n):=by
 have h2:=List.all_eq_true.1 h (n-1) (List.mem_range.2 (by omega));rw [show n-1+1=n by omega] at h2;exact bL (fun _=>zge) (zpz _ _) h2
end Go.Ev
namespace Go.Ev
open Go Go.Proofs
set_option maxRecDepth 100000
def zki (k:Nat) (l:List Nat):Bool:=l.all fun n=>zer zj4 71 [.str (jG k),I (n:Int)] (.agg [I ((n*n:Nat):Int),pz (sqL k n)])
theorem d9 {k:Nat} {l:List Nat} (h:zki k l=true) {n:Nat} {B:Nat} (hn:n∈l):Pure Tryz.prog B 71 [.str (jG k),I (n:Int)] (· = .agg [I ((n*n:Nat):Int),pz (sqL k n)]) :=
 bL (fun _=>zge) (zpz _ _) (List.all_eq_true.1 h n hn)
theorem zww:zki 0 [1,2,3,4,5,6]=true:=by kernel_rfl
theorem zwx:zki 1 [1,2,3,4,5,6]=true:=by kernel_rfl
theorem zwy:zki 2 [1,2,3,4,5,6]=true:=by kernel_rfl
end Go.Ev
namespace Go.Ev
open Go Go.Proofs
variable {B:Nat}
set_option maxRecDepth 100000
def SqOk (n:Nat):Prop:=(1<=n/\n<=8)/\∀ k,k<3->∀ B,Pure Tryz.prog B 71 [.str (jG k),I (n:Int)] (· = .agg [I ((n*n:Nat):Int),pz (sqL k n)])
theorem zuh {n:Nat} (h1:1<=n) (h2:n<=6):SqOk n:=by
 refine ⟨by omega,fun k hk B => ?_⟩;have hm:n∈[1,2,3,4,5,6]:=by simp;omega
 match k,hk with
 | 0,_=>exact d9 zww hm
 | 1,_=>exact d9 zwx hm
 | 2,_=>exact d9 zwy hm
def zp0 (n:Nat) (l:List Int):Bool:=decide (l.length<=8)&&l.all fun c=>decide (0<=c)&&decide (c<((n*n:Nat):Int))
theorem zp1:((List.range 3).all fun k=>(List.range 9).all fun n=>decide ((sqL k n).length<=100)&&(sqL k n).all (zp0 n))=true:=by decide +kernel
theorem zp2 {k n:Nat} (hk:k<3) (hn:n<=8):(sqL k n).length<=100/\∀ l∈sqL k n,l.length<=8/\∀ c∈l,0<=c/\c<((n*n:Nat):Int):=by
 have h:=List.all_eq_true.1 (List.all_eq_true.1 zp1 k (List.mem_range.2 hk)) n (List.mem_range.2 (by omega));simp only [Zad,decide_eq_true_eq,Zae,zp0] at h;exact h
structure cO (n:Nat) (f:List Int):Prop where
 len:f.length=n*n
 bd:∀ x∈f, -1000000000<=x/\x<=1000000000
theorem cO.ln {n k:Nat} {f:List Int} (hf:cO n f) (hk:k<3) (hn:n<=8):∀ l∈sqL k n,zak l f:=fun l hl=>by
 obtain ⟨h1,h2⟩:=(zp2 hk hn).2 l hl;exact ⟨by omega,fun c hc=>by rw [hf.len];exact h2 c hc,hf.bd⟩
def mg (k n:Nat) (f:List Int):Bool:=decide (zdj (wX (sqL k n) f)<0)
theorem zcd {n k:Nat} {f:List Int} (hs:SqOk n) (hk:k<3) (hf:cO n f):Pure Tryz.prog B 117 [.agg [I (n:Int),encI f],.str (jG k)] (· = .bool (mg k n f)):=by
 refine yC fun h nx K H0 hK=>zM zP yh 100 fun hf' => ?_;rw [F117.go];refine H0.box (l:=[I (n:Int),encI f]) rfl fun bx h1 nx1 H1 => ?_;simp only [sFx];rw [H1.load (k:=0) (i:=0) rfl rfl,H1.load (k:=0) (i:=0+1) rfl rfl];refine hs.2 k hk B _ _ _ _ ?_;rintro _ rfl _;rw [H1.load (k:=0) (i:=0+1) rfl rfl];simp only [zC];refine zmb (by have:=(zp2 hk hs.1.2).1;omega) (hf.ln hk hs.1.2) _ _ _ _ ?_;rintro _ rfl _;simp only [jk];exact hK _ _ _ _ _ H1 (zK rfl) rfl
theorem zes {h:T Blk} {nx p q:Pa} {g:Nat} {cap:List AV} {n:Nat} {v:Nat->Int} {K:Kw Prop} (hn:n<=1000000) (h0:n=0\/0<n) (hcl:∀ i,i<n->∀ K:Kw Prop,K (I (v i)) h nx=.ok True->(CS Tryz.prog B).fn g q (I (i:Int)::cap) h nx K=.ok True)
  (hK:K (.bool (decide (∀ i,i<n->v i=v 0))) h nx=.ok True):(CS Tryz.prog B).fn 179 p [I (n:Int),.fn g q cap] h nx K=.ok True:=by
 refine yE (p:=.of 179) (K:=K) (zM zP yh 10000000 fun hf => ?_) fun _ _ _ _ q=>q;rw [uw.go];refine uw.L1 (fun m x5 h' nx'=>∃ i:Nat,x5=I i/\n-i=m/\i<=n/\h'=h/\nx'=nx/\∀ j,j<i->v j=v 0) (m:=n) (by omega) ⟨0,rfl,rfl,by omega,rfl,rfl,fun j hj=>by omega⟩ ?_;rintro m z2 z3 z5 z6 z7 h nx R ⟨i,rfl,rfl,hi,rfl,rfl,hv⟩ hR;simp only [jk];by_cases hlt:i<n
 case neg =>
  simp only [show ¬ (i:Int)<(n:Int) by omega,decide_false,zE];rw [uw.k8];rw [decide_eq_true (fun j hj=>hv j (by omega))] at hK;exact hK
 simp only [show (i:Int)<(n:Int) by omega,decide_true,zD];rw [j3];refine hcl i hlt _ ?_;rw [j3];refine hcl 0 (by omega) _ ?_;simp only [qm];by_cases c:v i=v 0
 ·simp only [c,decide_true,Zaf,zE];rw [jf (by omega)];refine hR _ _ _ _ _ _ _ _ (by omega) ⟨i+1,rfl,rfl,by omega,rfl,rfl,fun j hj => ?_⟩;by_cases e:j=i
  ·rw [e,c]
  ·exact hv j (by omega)
 ·simp only [c,decide_false,Zah,zD];rw [decide_eq_false (fun q=>c (q i hlt))] at hK;exact hK
def asc (n:Nat) (f:List Int):Bool:=mg 1 n f&&decide (∀ i,i<f.length->f.getD i 0+f.getD (f.length-1-i) 0=f.getD 0 0+f.getD (f.length-1-0) 0)
theorem bT {f:List Int} {i:Nat} (h:i<f.length):f[i]? = some (f.getD i 0):=by
 rw [Zab,List.getElem?_eq_getElem h];rfl
theorem cO.get {n:Nat} {f:List Int} (hf:cO n f) {i:Nat} (h:i<f.length) : -1000000000<=f.getD i 0/\f.getD i 0<=1000000000:=hf.bd _ (Zaa (bT h))
theorem zce (op:KW3->OP) (h:T Blk) (nx:Pa) (k:KW3):sGW (.bool false) true op h nx k=k .undef h nx:=nr rfl
theorem zcf (op:KW3->OP) (h:T Blk) (nx:Pa) (k:KW3):sGW (.bool true) true op h nx k=op k:=nr rfl
theorem zwz {n:Nat} {f:List Int} (hs:SqOk n) (hf:cO n f):Pure Tryz.prog B 120 [.agg [I (n:Int),encI f]] (· = .bool (asc n f)):=by
 refine yC fun h nx K H0 hK=>zM zP yh 100 fun hf' => ?_;have hlen:f.length<=64:=by rw [hf.len];exact Zba hs.1.2 hs.1.2
 rw [F120.go];refine H0.box (l:=[I (n:Int),encI f]) rfl fun bx h1 nx1 H1 => ?_;rw [H1.zk (k:=0) (n:=2) rfl rfl];refine zcd (k:=1) hs (by omega) hf _ _ _ _ ?_;rintro _ rfl _;cases c:mg 1 n f with
 | false =>
  simp only [jZ,zT,zce];exact hK _ _ _ _ _ H1 (zK rfl) (by rw [asc,c];rfl)
 | true =>
  simp only [jM,zcf,sFx];rw [H1.load (k:=0) (i:=0+1) rfl rfl];simp only [zL];refine zes (v:=fun i=>f.getD i 0+f.getD (f.length-1-i) 0) (by omega) (by omega) (fun i hi K hK => ?_) ?_
  ·refine yE (p:=.of 180) (zM zP yh 9 fun _ => ?_) fun _ _ _ _ q=>q;show zO tbl 9 _ (Pa.of 180) [I (i:Int),.ptr bx 0] _ _ _=_;rw [F180.go];simp only [sFx];have b1:=hf.get hi;have b2:=hf.get (i:=f.length-1-i) (by omega);rw [H1.load (k:=0) (i:=0+1) rfl rfl,cZ rfl hi,ldL (rJ (bT hi)),H1.load (k:=0) (i:=0+1) rfl rfl,H1.load (k:=0) (i:=0+1) rfl rfl];simp only [zL];rw [pq (by omega),pq (by omega),cZ (i:=f.length-1-i) (by omega) (by omega),ldL (rJ (bT (by omega))),jf (by omega)];exact hK
  ·simp only [zV];exact hK _ _ _ _ _ H1 (zK rfl) (by rw [asc,c,Bool.true_and])
theorem pW {a b:Nat} {K:AV->OP} (_ha:a<=9223372036854775807) (hb:0<b):zf .rem .int (I (a:Int)) (I (b:Int)) K=K (I ((a%b:Nat):Int)):=by
 have e:zf .rem .int (I (a:Int)) (I (b:Int)) K=(bif ieq (b:Int) 0 then Out.no 5 else wo ((a:Int).tmod b) fun z=>K (.int .i64 z)):=rfl;have h0:ieq (b:Int) 0=false:=by rw [wD,beq_eq_false_iff_ne];omega
 rw [e,h0,cond_false,j8];rfl
theorem zet {a b:Nat} {K:AV->OP} (ha:a<=9223372036854775807) (hb:0<b):zf .quo .int (I (a:Int)) (I (b:Int)) K=K (I ((a / b:Nat):Int)):=by
 rw [zzn (by omega) (by omega) hb,Int.tdiv_eq_ediv_of_nonneg (by omega)];simp
def atN (n:Nat) (f:List Int) (r c:Nat):Int:=f.getD (r%n*n+c%n) 0
theorem at_in {n r c:Nat} (hn:0<n):r%n*n+c%n<n*n:=by
 have h1:=Nat.mod_lt r hn;have h2:=Nat.mod_lt c hn;have:r%n*n<=(n-1)*n:=Zbe n (by omega);have e:(n-1)*n+n=n*n:=by
  have:(n-1+1)*n=n*n:=by rw [Nat.sub_add_cancel hn]
  rw [<- this,Zbg,Zco]
 omega
def blkN (n:Nat) (f:List Int) (i:Nat):Int:=atN n f (i / n) (i%n)+atN n f (i / n) (i%n+1)+atN n f (i / n+1) (i%n)+atN n f (i / n+1) (i%n+1)
def halN (n:Nat) (f:List Int) (i:Nat):Int:=atN n f (i / n) (i%n)+atN n f (i / n+n / 2) (i%n+n / 2)
def mper (n:Nat) (f:List Int):Bool := !decide (n%2=1)&&(mg 2 n f&&(decide (∀ i,i<f.length->blkN n f i=blkN n f 0)&&decide (∀ i,i<f.length->halN n f i=halN n f 0)))
theorem cO.at {n:Nat} {f:List Int} (hf:cO n f) (hn:0<n) (r c:Nat) : -1000000000<=atN n f r c/\atN n f r c<=1000000000:=hf.get (by rw [hf.len];exact at_in hn)
theorem zzw {n:Nat} {f:List Int} {h0 h:T Blk} {nx:Pa} {L:List Ob} {k:Nat} {bx:Pa} {r c:Nat} {K:Kw Prop} (hn:0<n/\n<=8) (hf:cO n f) (H:Hp h0 h nx L) (hk:L[k]? = some (.arr bx [I (n:Int),encI f])) (hr:r<=1000) (hc:c<=1000) (hK:K (I (atN n f r c)) h nx=.ok True) :
  (CS Tryz.prog B).fn 181 (.of 181) [I (r:Int),I (c:Int),.ptr bx 0] h nx K=.ok True:=by
 refine yE (p:=.of 181) (zM zP yh 9 fun _ => ?_) fun _ _ _ _ q=>q;rw [F181.go];simp only [sFx];have hin:=at_in (n:=n) (r:=r) (c:=c) hn.1;have h1:=Nat.mod_lt r hn.1;have h2:=Nat.mod_lt c hn.1;have h3:r%n*n<=8*8:=Zba (by omega) (by omega);have e1:((r%n:Nat):Int)*(n:Int)=((r%n*n:Nat):Int):=by simp
 rw [H.load (k:=k) (i:=0+1) hk rfl,H.load (k:=k) (i:=0) hk rfl,pW (by omega) hn.1,H.load (k:=k) (i:=0) hk rfl,rV (by rw [e1];omega),e1,H.load (k:=k) (i:=0) hk rfl,pW (by omega) hn.1,jf (by omega),
  cZ (i:=r%n*n+c%n) (by omega) (by rw [hf.len];exact hin),ldL (rJ (bT (by rw [hf.len];exact hin)))]
 exact hK
theorem zs8 {n:Nat} {f:List Int} (hs:SqOk n) (hf:cO n f):Pure Tryz.prog B 121 [.agg [I (n:Int),encI f]] (· = .bool (mper n f)):=by
 refine yC fun h nx K H0 hK=>zM zP yh 100 fun hf' => ?_;have hn:0<n/\n<=8:=⟨by have:=hs.1.1;omega,hs.1.2⟩;have hlen:f.length<=64:=by rw [hf.len];exact Zba hs.1.2 hs.1.2
 rw [aH.go];refine H0.box (l:=[I (n:Int),encI f]) rfl fun bx h1 nx1 H1 => ?_;simp only [sFx];rw [H1.load (k:=0) (i:=0) rfl rfl];have e2:∀ K:AV->OP,zf .rem .int (I (n:Int)) (I 2) K=K (I ((n%2:Nat):Int)):=fun K=>pW (b:=2) (by omega) (by omega);rw [e2];simp only [fQ];by_cases c1:n%2=1
 ·simp only [show ((n%2:Nat):Int)=1 by omega,decide_true,yQ,zwp,zV,zD];exact hK _ _ _ _ _ H1 (zK rfl) (by simp [mper,c1])
 simp only [show ¬ ((n%2:Nat):Int)=1 by omega,decide_false,yL,zwo];rw [H1.zk (k:=0) (n:=2) rfl rfl];refine zcd (k:=2) hs (by omega) hf _ _ _ _ ?_;rintro _ rfl _;have em:mper n f=(mg 2 n f&&(decide (∀ i,i<f.length->blkN n f i=blkN n f 0)&&decide (∀ i,i<f.length->halN n f i=halN n f 0))):=by simp [mper,c1]
 cases c2:mg 2 n f with
 | false =>
  simp only [yW,Zah,zT,zD];exact hK _ _ _ _ _ H1 (zK rfl) (by rw [em,c2];rfl)
 | true =>
 simp only [yW,Zaf,zT,zE];refine H1.alloc fun pa h2 nx2 H2 => ?_;refine H2.store (k:=0) rfl (by simp) rfl fun h3 H3 => ?_;rw [H3.load (k:=1) (i:=0+1) rfl rfl];simp only [zL];have ha:∀ (r c:Nat),r<=1000->c<=1000->∀ K:Kw Prop,K (I (atN n f r c)) h3 nx2=.ok True->(CS Tryz.prog B).fn 181 (.of 181) [I (r:Int),I (c:Int),.ptr bx 0] h3 nx2 K=.ok True:=fun r c hr hc K hK=>zzw hn hf H3 (k:=1) rfl hr hc hK;have ld:∀ op:AV->OP,zB (.ptr pa 0) h3 op=op (.fn 181 (.of 181) [.ptr bx 0]):=fun op=>H3.load (k:=0) (i:=0) rfl rfl;have sm1:∀ i:Nat,i<f.length->i / n<=64/\i%n<=64:=fun i hi=>⟨Zbm (Nat.div_le_self i n) (by omega),Zbm (Nat.mod_le i n) (by omega)⟩;refine zes (v:=blkN n f) (by omega) (by omega) (fun i hi K hK => ?_) ?_
 ·refine yE (p:=.of 182) (zM zP yh 9 fun _ => ?_) fun _ _ _ _ q=>q;show zO tbl 9 _ (Pa.of 182) [I (i:Int),.ptr bx 0,.ptr pa 0] _ _ _=_;obtain ⟨d1,d2⟩:=sm1 i hi;rw [F182.go];simp only [sFx];have b1:=hf.at hn.1 (i / n) (i%n);have b2:=hf.at hn.1 (i / n) (i%n+1);have b3:=hf.at hn.1 (i / n+1) (i%n);have b4:=hf.at hn.1 (i / n+1) (i%n+1);have q1:∀ K:AV->OP,zf .add .int (I ((i%n:Nat):Int)) (I 1) K=K (I ((i%n+1:Nat):Int)):=fun K=>by generalize i%n=x at d2 ⊢;rw [jf (by omega)];simp
  have q2:∀ K:AV->OP,zf .add .int (I ((i / n:Nat):Int)) (I 1) K=K (I ((i / n+1:Nat):Int)):=fun K=>by generalize i / n=x at d1 ⊢;rw [jf (by omega)];simp
  rw [H3.load (k:=1) (i:=0) rfl rfl,zet (by omega) hn.1,H3.load (k:=1) (i:=0) rfl rfl,pW (by omega) hn.1];simp only [ld,q1,q2];rw [j3];refine ha _ _ (by omega) (by omega) _ ?_;simp only [ld,q1,q2,zC];rw [j3];refine ha _ _ (by omega) (by omega) _ ?_;simp only [ld,q1,q2,zC];rw [jf (by omega),j3];refine ha _ _ (by omega) (by omega) _ ?_;simp only [ld,q1,q2,zC];rw [jf (by omega)];simp only [zC];rw [jf (by omega),j3];refine ha _ _ (by omega) (by omega) _ ?_;rw [jf (by omega)];simp only [zC];rw [jf (by omega)];simp only [zC];rw [jf (by omega)];exact hK
 by_cases c3:∀ i,i<f.length->blkN n f i=blkN n f 0
 case neg =>
  rw [decide_eq_false c3];simp only [jZ,zce,zT];exact hK _ _ _ _ _ H3 (zK rfl) (by rw [em,c2,decide_eq_false c3];rfl)
 rw [decide_eq_true c3];simp only [jM,zcf,sFx];rw [H3.load (k:=1) (i:=0+1) rfl rfl];simp only [zL];refine zes (v:=halN n f) (by omega) (by omega) (fun i hi K hK => ?_) ?_
 ·refine yE (p:=.of 183) (zM zP yh 9 fun _ => ?_) fun _ _ _ _ q=>q;show zO tbl 9 _ (Pa.of 183) [I (i:Int),.ptr bx 0,.ptr pa 0] _ _ _=_;obtain ⟨d1,d2⟩:=sm1 i hi;rw [F183.go];simp only [sFx];have b1:=hf.at hn.1 (i / n) (i%n);have b2:=hf.at hn.1 (i / n+n / 2) (i%n+n / 2);have q0:∀ K:AV->OP,zf .quo .int (I (n:Int)) (I 2) K=K (I ((n / 2:Nat):Int)):=fun K=>zet (b:=2) (by omega) (by omega);have q1:∀ K:AV->OP,zf .add .int (I ((i%n:Nat):Int)) (I ((n / 2:Nat):Int)) K=K (I ((i%n+n / 2:Nat):Int)):=fun K=>by generalize i%n=x at d2 ⊢;generalize hy:n / 2=y;rw [jf (by omega)];simp
  have q2:∀ K:AV->OP,zf .add .int (I ((i / n:Nat):Int)) (I ((n / 2:Nat):Int)) K=K (I ((i / n+n / 2:Nat):Int)):=fun K=>by generalize i / n=x at d1 ⊢;generalize hy:n / 2=y;rw [jf (by omega)];simp
  have l1:∀ op:AV->OP,zB (.ptr bx 0) h3 op=op (I (n:Int)):=fun op=>H3.load (k:=1) (i:=0) rfl rfl;rw [l1,zet (by omega) hn.1,l1,pW (by omega) hn.1];simp only [ld,l1,q0,q1,q2];rw [j3];refine ha _ _ (by omega) (by omega) _ ?_;simp only [ld,l1,q0,q1,q2,zC];rw [j3];refine ha _ _ (by omega) (by omega) _ ?_;rw [jf (by omega)];exact hK
 simp only [zV];exact hK _ _ _ _ _ H3 (zK rfl) (by rw [em,c2,decide_eq_true c3];rfl)
theorem zp3 {l:List Int}:∀ v∈l.map I,fH v=true:=fun v hv=>by obtain ⟨x,_,rfl⟩:=List.mem_map.1 hv;rfl
theorem zs9 {n a b c:Nat} {l:List AV} {op:AV->OP} (hn:1<=n) (hab:a<=b) (hbc:b<=c) (hc:c<=n):vF 1 (.lst 1 n l) (some (I (a:Int))) (some (I (b:Int))) (some (I (c:Int))) op=op (.lst 1 (b-a) ((l.drop a).take (b-a))):=by
 show (bif Nat.beq 1 1&&Nat.ble 1 n then (match bnd (some (I (c:Int))) n n with | none=>Out.no 17 | some m=>match bnd (some (I (b:Int))) m n with | none=>.no 17 | some h=>match bnd (some (I (a:Int))) h 0 with | none=>.no 17 | some q=>op (.lst 1 (h-q) ((l.drop (q*1)).take ((h-q)*1)))) else .no 17)=_;rw [Zac hn,zbu hc];show (match bnd (some (I (b:Int))) c n with | none=>Out.no 17 | some h=>match bnd (some (I (a:Int))) h 0 with | none=>.no 17 | some q=>op (.lst 1 (h-q) ((l.drop (q*1)).take ((h-q)*1))))=_;rw [zbu hbc];show (match bnd (some (I (a:Int))) b 0 with | none=>Out.no 17 | some q=>op (.lst 1 (b-q) ((l.drop (q*1)).take ((b-q)*1))))=_;rw [zbu hab];show op (.lst 1 (b-a) ((l.drop (a*1)).take ((b-a)*1)))=_;rw [Zbw,Zbw]
def kQ (n:Nat) (f:List Int) (r:Nat):List Int:=(List.range r).flatMap fun i=>(f.drop ((i+1)*n+1)).take (n-2)
def pE (n:Nat) (f:List Int):List Int:=kQ n f (n-2)
theorem bP (n:Nat) (f:List Int) (r:Nat):kQ n f (r+1)=kQ n f r++(f.drop ((r+1)*n+1)).take (n-2):=by simp [kQ,List.range_succ]
theorem pD {n:Nat} {f:List Int} (hf:f.length=n*n) (hn:2<=n):∀ r,r<=n-2->(kQ n f r).length=r*(n-2)
 | 0,_=>by simp [kQ]
 | r+1,h=>by
  have h1:(r+1)*n+n<=n*n:=by
   have:(r+1+1)*n<=n*n:=Zbe n (by omega);rw [Zbg (r+1) 1 n,Zco] at this;exact this
  rw [bP,Zau,pD hf hn r (by omega),Zaz,Zcd,hf,Nat.min_eq_left (by omega),Zbg,Zco]
theorem cO.inner {n:Nat} {f:List Int} (hf:cO n f) (hn:2<=n):cO (n-2) (pE n f):=by
 refine ⟨pD hf.len hn _ (Zai _),fun x hx => ?_⟩;obtain ⟨i,_,hx⟩:=List.mem_flatMap.1 hx;exact hf.bd x (List.mem_of_mem_drop (Zcf hx))
theorem zp4 {n:Nat} {f:List Int} (hn:3<=n/\n<=8) (hf:cO n f):Pure Tryz.prog B 184 [.agg [I (n:Int),encI f]] (· = .agg [I ((n-2:Nat):Int),encI (pE n f)]):=by
 refine yC fun h nx K H0 hK=>zM zP yh 100 fun hf' => ?_;have hlen:f.length<=64:=by rw [hf.len];exact Zba hn.2 hn.2
 have hpos:1<=f.length:=by rw [hf.len];exact Zba (show 1<=n by omega) (show 1<=n by omega)
 rw [uy.go];refine H0.box (l:=[I (n:Int),encI f]) rfl fun bx h1 nx1 H1 => ?_;refine H1.alloc fun p h2 nx2 H2 => ?_;simp only [sFx];rw [H2.load (k:=1) (i:=0) rfl rfl,pq (by omega),zj5];refine H2.alloc fun q h3 nx3 H3 => ?_;refine H3.qo (l2:=[I ((n:Int)-2),.zh]) (k:=0) rfl rfl rfl fun h4 H4 => ?_;refine uy.L1 (fun m x4 h' nx'=>∃ (r:Nat) (o:Option Pa),x4=I ((r+1:Nat):Int)/\n-2-r=m/\r<=n-2/\Hp h h' nx' [.gro o 1 (kQ n f r).length ((kQ n f r).map I),.arr q [I ((n:Int)-2),xu o 1 (kQ n f r).length],.arr p [I 0,.zh],.arr bx [I (n:Int),encI f]]) (m:=n-2) (by omega) ⟨0,none,rfl,rfl,by omega,H4.oh 1⟩ ?_;rintro m z4 z5 h5 nx5 R ⟨r,o,rfl,rfl,hr,H5⟩ hR;simp only [sFx];rw [jf (by omega),H5.load (k:=3) (i:=0) rfl rfl];simp only [jk];by_cases hlt:r<n-2
 case neg =>
  simp only [show ¬ (((r+1:Nat):Int)+1<(n:Int)) by omega,decide_false,zE];obtain rfl:r=n-2:=by omega
  rw [uy.k8,H5.zk (k:=1) (n:=2) rfl rfl];refine H5.qo (l2:=[I ((n:Int)-2),xu o 1 (kQ n f (n-2)).length]) (k:=2) rfl rfl rfl fun h6 H6 => ?_;rw [H6.zk (k:=2) (n:=2) rfl rfl];have hF:rH h h6 (xu o 1 (kQ n f (n-2)).length) (encI (pE n f)):=H6.zam (k:=0) rfl zp3;refine hK _ _ _ _ (AV.agg [I ((n:Int)-2),encI (pE n f)]) H6 (Frz.agg _ _ rfl rfl fun j v v' h1 h2 => ?_) (by congr 3;omega)
  match j,h1,h2 with
  | 0,h1,h2=>cases h1;cases h2;exact zK rfl
  | 1,h1,h2=>cases h1;cases h2;exact hF
  | j+2,h1,h2=>simp at h1
 simp only [show ((r+1:Nat):Int)+1<(n:Int) by omega,decide_true,zD];have hrn:(r+1)*n+n<=n*n:=by
  have:(r+1+1)*n<=n*n:=Zbe n (by omega);rw [Zbg (r+1) 1 n,Zco] at this;exact this
 have hb:(r+1)*n<=64:=by have:=hf.len;omega
 have em:((r+1:Nat):Int)*(n:Int)=(((r+1)*n:Nat):Int):=by simp
 have l0:∀ op:AV->OP,zB (.ptr bx 0) h5 op=op (I (n:Int)):=fun op=>H5.load (k:=3) (i:=0) rfl rfl;have l1:∀ op:AV->OP,zB (.ptr bx (0+1)) h5 op=op (encI f):=fun op=>H5.load (k:=3) (i:=0+1) rfl rfl;rw [H5.load (k:=1) (i:=0+1) rfl rfl];simp only [l0,l1];have mu:∀ K:AV->OP,zf .mul .int (I ((r+1:Nat):Int)) (I (n:Int)) K=K (I (((r+1)*n:Nat):Int)):=fun K=>by rw [rV (by rw [em];omega),em]
 simp only [mu]
 generalize hq:(r+1)*n=rn at *
 have a1:∀ K:AV->OP,zf .add .int (I (rn:Int)) (I 1) K=K (I ((rn+1:Nat):Int)):=fun K=>by rw [jf (by omega)];simp
 have a2:∀ K:AV->OP,zf .add .int (I (rn:Int)) (I (n:Int)) K=K (I ((rn+n:Nat):Int)):=fun K=>by rw [jf (by omega)];simp
 have a3:∀ K:AV->OP,zf .sub .int (I ((rn+n:Nat):Int)) (I 1) K=K (I ((rn+n-1:Nat):Int)):=fun K=>by rw [pq (by omega)];congr 2;omega
 simp only [a1,a2,a3];rw [zs9 (by omega) (by omega) (by omega) (by rw [hf.len];omega)];have e1:rn+n-1-(rn+1)=n-2:=by omega
 rw [e1];have hnl:(((f.map I).drop (rn+1)).take (n-2)).length=n-2:=by rw [Zaz,Zcd,Zas,hf.len];omega
 refine H5.appN (k:=0) (o:=o) (c:=n-2) (new:=((f.map I).drop (rn+1)).take (n-2)) rfl (zt8 1) (by rw [hnl];omega) ?_ (by decide) (by decide) (by rw [pD hf.len (by omega) r hr];have:r*(n-2)<=8*8:=Zba (by omega) (by omega);omega) fun o' h6 nx6 _ H6 => ?_
 ·refine List.all_eq_true.2 fun v hv => ?_;obtain ⟨x,_,rfl⟩:=List.mem_map.1 (List.mem_of_mem_drop (Zcf hv));rfl
 refine H6.store (k:=1) rfl (by simp) (kP _ _ _) fun h7 H7 => ?_;rw [jf (by omega)];have e2:kQ n f (r+1)=kQ n f r++(f.drop (rn+1)).take (n-2):=by rw [bP,hq]
 refine hR _ _ _ _ _ (by omega) ⟨r+1,o',by congr 1,rfl,by omega,H7.cast ?_⟩;rw [e2,Zau,Zbk,List.map_take,List.map_drop];have:((f.drop (rn+1)).take (n-2)).length=n-2:=by rw [Zaz,Zcd,hf.len];omega
 rw [this];rfl
def brd:Nat->Nat->List Int->Bool
 | 0,_,_=>true
 | k+1,n,f=>if n<3 then true else mg 1 n f&&brd k (n-2) (pE n f)
def bord (n:Nat) (f:List Int):Bool:=decide (5<=n)&&brd n n f
theorem zmc {k n:Nat} {f:List Int} (h:n<3):brd k n f=true:=by cases k <;> simp [brd,h]
theorem zta {n:Nat} {f:List Int} (hs:∀ m,1<=m->m<=n->SqOk m) (hn:1<=n/\n<=8) (hf:cO n f):Pure Tryz.prog B 122 [.agg [I (n:Int),encI f]] (· = .bool (bord n f)):=by
 refine yC fun h nx K H0 hK=>zM zP yh 100 fun hf' => ?_;rw [jy.go];refine H0.box (l:=[I (n:Int),encI f]) rfl fun bx h1 nx1 H1 => ?_;simp only [sFx];rw [H1.load (k:=0) (i:=0) rfl rfl];simp only [jk];by_cases c5:n<5
 ·simp only [show (n:Int)<5 by omega,decide_true,zD];exact hK _ _ _ _ _ H1 (zK rfl) (by rw [bord,decide_eq_false (by omega)];rfl)
 simp only [show ¬ (n:Int)<5 by omega,decide_false,zE];have eb:bord n f=brd n n f:=by rw [bord,decide_eq_true (by omega)];rfl
 refine jy.L2 (fun k h' nx'=>∃ (m:Nat) (g:List Int),m<=n/\cO m g/\brd n n f=brd k m g/\m<=k/\Hp h h' nx' [.arr bx [I (m:Int),encI g]]) (m:=n) (by omega) ⟨n,f,Zai _,hf,rfl,Zai _,H1⟩ ?_;rintro k z2 z4 z5 h2 nx2 R ⟨m,g,hm,hg,hb,hk,H2⟩ hR;simp only [sFx];rw [H2.load (k:=0) (i:=0) rfl rfl];simp only [rC];by_cases c3:3<=m
 case neg =>
  simp only [show ¬ (3:Int)<=(m:Int) by omega,decide_false,zE];rw [jy.k9];exact hK _ _ _ _ _ H2 (zK rfl) (by rw [eb,hb,zmc (by omega)])
 simp only [show (3:Int)<=(m:Int) by omega,decide_true,zD];rw [H2.zk (k:=0) (n:=2) rfl rfl];refine zcd (k:=1) (hs m (by omega) hm) (by omega) hg _ _ _ _ ?_;rintro _ rfl _;obtain ⟨k,rfl⟩:∃ k',k=k'+1:=⟨k-1,by omega⟩;rw [brd,if_neg (by omega)] at hb;cases c:mg 1 m g with
 | false =>
  simp only [yW,Zah,zD];exact hK _ _ _ _ _ H2 (zK rfl) (by rw [eb,hb,c];rfl)
 | true =>
  simp only [yW,Zaf,zE];rw [H2.zk (k:=0) (n:=2) rfl rfl];refine zp4 (by omega) hg _ _ _ _ ?_;rintro _ rfl _;refine H2.qo (l2:=[I ((m-2:Nat):Int),encI (pE m g)]) (k:=0) rfl rfl rfl fun h3 H3 => ?_;rw [c,Bool.true_and] at hb;exact hR k _ _ _ _ _ (by omega) ⟨m-2,pE m g,by omega,hg.inner (by omega),hb,by omega,H3⟩
def sqF (f:List Int):List Int:=f.map fun x=>x*x
theorem ztb {f:List Int} {i:Nat} (h:i<f.length):(sqF f).getD i 0=f.getD i 0*f.getD i 0:=by
 rw [Zab,Zab,sqF,List.getElem?_map,List.getElem?_eq_getElem h];rfl
theorem zgx {l f:List Int} (h:zak l f) {j:Nat} (hj:j<l.length):y3 (l.take (j+1)) (sqF f)=y3 (l.take j) (sqF f)+f.getD l[j].toNat 0*f.getD l[j].toNat 0:=by
 have:=h.rng _ (Zal hj);rw [pB hj,ztb (by omega)]
theorem zut {x:Int} (h : -1000000000<=x/\x<=1000000000):0<=x*x/\x*x<=1000000000000000000:=by
 have h2:(x*x).natAbs<=1000000000000000000:=by rw [Int.natAbs_mul];exact Zba (show x.natAbs<=1000000000 by omega) (show x.natAbs<=1000000000 by omega)
 have h1:0<=x*x:=by
  rcases Int.le_total 0 x with q | q
  ·exact Int.mul_nonneg q q
  ·exact Int.mul_nonneg_of_nonpos_of_nonpos q q
 omega
theorem zcg {l f:List Int} (h:zak l f):∀ j,j<=l.length->0<=y3 (l.take j) (sqF f)/\y3 (l.take j) (sqF f)<=1000000000000000000*(j:Int)
 | 0,_=>by simp [y3]
 | j+1,hj=>by
  have ih:=zcg h j (by omega);have:=zut (h.get (Zal (show j<l.length by omega))).2;rw [zgx h (by omega)];omega
def pow2 (n:Nat) (f:List Int):Bool:=decide (∀ i,i<(sqL 1 n).length->y3 ((sqL 1 n).getD i []) (sqF f)=y3 ((sqL 1 n).getD 0 []) (sqF f))
theorem zw0 {L:List (List Int)} {i:Nat} (h:i<L.length):L[i]? = some (L.getD i []):=by
 rw [Zab,List.getElem?_eq_getElem h];rfl
theorem zw1 {n:Nat} {f:List Int} (hs:SqOk n) (hf:cO n f):Pure Tryz.prog B 124 [.agg [I (n:Int),encI f],I 2] (· = .bool (pow2 n f)):=by
 refine yC fun h nx K H0 hK=>zM zP yh 1000 fun hf' => ?_;rw [yg.go];refine H0.box (l:=[I (n:Int),encI f]) rfl fun bx h1 nx1 H1 => ?_;refine H1.alloc fun wt h2 nx2 H2 => ?_;simp only [sFx];rw [H2.load (k:=1) (i:=0) rfl rfl];refine hs.2 1 (by omega) B _ _ _ _ ?_;rintro _ rfl _;obtain ⟨hn1,hn2⟩:=zp2 (k:=1) (n:=n) (by omega) hs.1.2;have hln:=hf.ln (k:=1) (by omega) hs.1.2;have ep:pow2 n f=decide (∀ i,i<(sqL 1 n).length->y3 ((sqL 1 n).getD i []) (sqF f)=y3 ((sqL 1 n).getD 0 []) (sqF f)):=rfl
 generalize pow2 n f=res at *
 generalize sqL 1 n=Ls at *
 rw [jR];simp only [zL];refine yg.L1 (fun m x11 h' nx'=>∃ (i:Nat) (w:Int),x11=I i/\Ls.length-i=m/\i<=Ls.length/\(0<i->w=y3 (Ls.getD 0 []) (sqF f))/\(∀ j,j<i->y3 (Ls.getD j []) (sqF f)=y3 (Ls.getD 0 []) (sqF f))/\Hp h h' nx' [.arr wt [I w,.zh],.arr bx [I (n:Int),encI f]]) (m:=Ls.length) (by omega) ⟨0,0,rfl,rfl,by omega,by omega,fun j hj=>by omega,H2⟩ ?_;rintro m z3 z5 z6 z7 z8 z11 z12 z13 z14 z15 z16 z17 z18 h3 nx3 R ⟨i,w,rfl,rfl,hi,hw,hall,H3⟩ hR;simp only [jk];by_cases hlt:i<Ls.length
 case neg =>
  simp only [show ¬ (i:Int)<(Ls.length:Int) by omega,decide_false,zE];rw [yg.k17];exact hK _ _ _ _ _ H3 (zK rfl) (by rw [ep,decide_eq_true (fun j hj=>hall j (by omega))])
 simp only [show (i:Int)<(Ls.length:Int) by omega,decide_true,zD];have hx:=zw0 hlt;have hm:=Zaa hx;obtain ⟨g1,g2⟩:=hn2 _ hm;have hok:=hln _ hm
 generalize hl:Ls.getD i []=l at *
 rw [cZ rfl hlt,ldL (getT hx)];refine zpx _ _ _ _ ?_;rintro _ rfl _;refine H3.alloc fun sb h4 nx4 H4 => ?_;refine H4.qo (l2:=[I 0,.zh]) (k:=0) rfl rfl rfl fun h5 H5 => ?_;simp only [zL];refine yg.L7 (fun m x15 h' nx'=>∃ j:Nat,x15=I j/\l.length-j=m/\j<=l.length/\Hp h h' nx' [.arr sb [I (y3 (l.take j) (sqF f)),.zh],.arr wt [I w,.zh],.arr bx [I (n:Int),encI f]]) (m:=l.length) (by omega) ⟨0,rfl,rfl,by omega,H5⟩ ?_;rintro m y8 y15 y16 h6 nx6 R2 ⟨j,rfl,rfl,hj,H6⟩ hR2;simp only [jk];by_cases hjt:j<l.length
 ·simp only [show (j:Int)<(l.length:Int) by omega,decide_true,zD];have hy:l[j]? = some l[j]:=List.getElem?_eq_getElem hjt;have hr:=hok.rng _ (Zal hjt);obtain ⟨hg,hb⟩:=hok.get (Zal hjt);have hbd:=zcg hok j (by omega);have hsq:=zut hb;rw [cZ rfl hjt,ldL (rJ hy),H6.zk (k:=0) (n:=2) rfl rfl];simp only [sFx];rw [H6.load (k:=2) (i:=0+1) rfl rfl,cZ (i:=l[j].toNat) (by omega) (by omega),ldL (rJ hg)];refine zpx _ _ _ _ ?_;rintro _ rfl _;simp only [zC];rw [H6.zk (k:=0) (n:=2) rfl rfl];simp only [zC];refine zzt (by omega) _ _ _ _ ?_;rintro _ rfl _;rw [H6.zk (k:=0) (n:=2) rfl rfl];simp only [zC];refine zs5 (by omega) (by omega) _ _ _ _ ?_;rintro _ rfl _;refine H6.qo (l2:=[I (y3 (l.take j) (sqF f)+f.getD l[j].toNat 0*f.getD l[j].toNat 0),.zh]) (k:=0) rfl rfl rfl fun h7 H7 => ?_;rw [jf (by omega)];exact hR2 _ _ _ _ _ _ (by omega) ⟨j+1,rfl,rfl,by omega,H7.cast (by rw [zgx hok hjt];rfl)⟩
 simp only [show ¬ (j:Int)<(l.length:Int) by omega,decide_false,zE];rw [Zap (by omega)] at H6;rw [yg.k14];simp only [fQ];have fin:∀ (w':Int) (z:AV) (h7:T Blk),w'=y3 (Ls.getD 0 []) (sqF f)->Hp h h7 nx6 [.arr sb [I (y3 l (sqF f)),.zh],.arr wt [I w',.zh],.arr bx [I (n:Int),encI f]]->∀ z3 z5 z6 z8 z14 z15 z16 z17 z18:AV,IR.run yg.b15 (CS Tryz.prog B) 1000 (((fnO yg.res K).blk 0 (IR.run yg.b17 (CS Tryz.prog B) 1000 (fnO yg.res K) (ji yg.res K))).blk 1 (IR.run yg.b16 (CS Tryz.prog B) 1000 ((fnO yg.res K).blk 0 (IR.run yg.b17 (CS Tryz.prog B) 1000 (fnO yg.res K) (ji yg.res K))) R)) (IR.run yg.b16 (CS Tryz.prog B) 1000 ((fnO yg.res K).blk 0 (IR.run yg.b17 (CS Tryz.prog B) 1000 (fnO yg.res K) (ji yg.res K))) R) (yg.fr (.agg [I (n:Int),encI f]) (I 2) (.ptr bx 0) z3 (.ptr wt 0) z5 z6 (.ptr sb 0) z8 (pz Ls) (I Ls.length) (I i) (.bool true) (encI l) z14 z15 z16 z17 z18) h7 nx6=.ok True:=by
  intro w' z h7 hw' H7 z3 z5 z6 z8 z14 z15 z16 z17 z18;rw [yg.k15,H7.zk (k:=0) (n:=2) rfl rfl,H7.zk (k:=1) (n:=2) rfl rfl];refine zs6 _ _ _ _ ?_;rintro _ rfl _;simp only [qm];by_cases e:y3 l (sqF f)=w'
  ·have:cmpI (y3 l (sqF f)) w'=0:=by rw [cmpI,if_neg (by omega),if_neg (by omega)]
   simp only [this,decide_true,Zaf,zE];rw [yg.k16,jf (by omega)];refine hR _ _ _ _ _ _ _ _ _ _ _ _ _ _ _ _ (by omega) ⟨i+1,w',rfl,rfl,by omega,fun _=>hw',fun j hj => ?_,H7.drop⟩;by_cases ej:j=i
   ·rw [ej,hl,e,hw']
   ·exact hall j (by omega)
  ·have:¬ cmpI (y3 l (sqF f)) w'=0:=by
    rw [cmpI];by_cases q:y3 l (sqF f)<w'
    ·rw [if_pos q];omega
    ·rw [if_neg q,if_pos (by omega)];omega
   simp only [this,decide_false,Zah,zD];refine hK _ _ _ _ _ H7 (zK rfl) ?_;rw [ep,decide_eq_false fun q=>e (by rw [<- hl,q i hlt,hw'])]
 by_cases ci:i=0
 ·simp only [show (i:Int)=0 by omega,decide_true,zD];rw [H6.zk (k:=0) (n:=2) rfl rfl];refine H6.qo (l2:=[I (y3 l (sqF f)),.zh]) (k:=1) rfl rfl rfl fun h7 H7 => ?_;have:=fin (y3 l (sqF f)) .undef h7 (by rw [<- hl,ci]) H7;simp only [ci] at this ⊢;exact this _ _ _ _ _ _ _ _ _
 ·simp only [show ¬ (i:Int)=0 by omega,decide_false,zE];exact fin w .undef h6 (hw (by omega)) H6 _ _ _ _ _ _ _ _ _
theorem zzx {a b:List UInt8} {K:AV->OP}:zf .eql .str (.str a) (.str b) K=K (.bool (decide (a=b))):=by
 have:zf .eql .str (.str a) (.str b) K=K (.bool (jD a b)):=rfl;rw [this];by_cases c:a=b
 ·rw [decide_eq_true c,qp.2 c]
 ·rw [decide_eq_false c];cases q:jD a b with
  | false=>rfl
  | true=>exact absurd (qp.1 q) c
theorem zzy (l:List (List UInt8)):∀ v∈l.map AV.str,fH v=true:=fun v hv=>by obtain ⟨x,_,rfl⟩:=List.mem_map.1 hv;rfl
theorem ziw {P:Program} {f:Nat} {p id:Pa} {h0 h:T Blk} {nx:Pa} {L:List Ob} {k:Nat} {a b:Int} {l:List Int} {K:Kw Prop} {Q:AV->Prop} (H:Hp h0 h nx L) (hk:L[k]? = some (.arr id (l.map I))) (hq:∀ B,Pure P B f [I a,I b,encI l] Q) (hpl:∀ v,Q v->Plain v)
  (hK:∀ v,Q v->K v h nx=.ok True):(CS P B).fn f p [I a,I b,.sl id 0 l.length (some l.length) 1] h nx K=.ok True :=
 dB (.cons (.int _ _) (.cons (.int _ _) (.cons (yw.frz (H.own _ (Zaa hk)) (T.cu _ id) (Zai _) (by simp) (zel _)) .nil))) (by
  have:=uM l;simp only [nns,fH.nn this,Bool.and_self,show nn (I a)=true from rfl,show nn (I b)=true from rfl]) hq hpl fun v hv _=>hK v hv
def rngE (a b:Int) (l:List Int):Int:=if l.any (fun x=>decide (x<a)||decide (b<x)) then 3 else 0
theorem zw2 {a b:Int} {h0 h:T Blk} {nx p:Pa} {L:List Ob} {l:List Int} {K:Kw Prop} {id:Pa} {k n:Nat} (hn:l.length=n) (hl:l.length<=1000000) (H:Hp h0 h nx L) (hk:L[k]? = some (.arr id (l.map I))) (hK:K (I (rngE a b l)) h nx=.ok True):(CS Tryz.prog B).fn 70 p [I a,I b,.sl id 0 n (some n) 1] h nx K=.ok True:=by
 subst hn;exact ziw H hk (fun B=>zei hl) (fun v hv=>by rw [hv];exact .int _ _) fun v hv=>by rw [hv];exact hK
theorem rng1 {a b n:Int}:rngE a b [n]=if n<a\/b<n then 3 else 0:=by
 unfold rngE;by_cases c1:n<a <;> by_cases c2:b<n <;> simp [c1,c2]
def nrm (f:List Int):Bool:=decide (srt f=upTo f.length)
def bim (n:Nat) (f:List Int):Bool:=mg 1 n f&&pow2 n f
def prs (n:Nat) (f:List Int):List Bool:=[nrm f,mg 0 n f,mg 1 n f,mg 2 n f,asc n f,mper n f,bord n f,bim n f]
def zc6:List UInt8:=[110,111,114,109,97,108]
def zeu:List UInt8:=[97,115,115,111,99,105,97,116,105,118,101]
def zkj:List UInt8:=[109,111,115,116,45,112,101,114,102,101,99,116]
def zkk:List UInt8:=[98,111,114,100,101,114,101,100]
def kBim:List UInt8:=[98,105,109,97,103,105,99]
def knm:List (List UInt8):=[zc6,jG 0,jG 1,jG 2,zeu,zkj,zkk,kBim]
def kfn:List Nat:=[115,116,118,119,120,121,122,123]
def kf:List (List UInt8)->List Bool->List (List UInt8)
 | x::l,b::bs=>if b then x::kf l bs else kf l bs
 | _,_=>[]
theorem zkl:∀ (l:List (List UInt8)) (bs:List Bool) (x:List UInt8) (b:Bool),l.length=bs.length->kf (l++[x]) (bs++[b])=kf l bs++if b then [x] else []
 | [],[],x,b,_=>by cases b <;> rfl
 | y::l,c::bs,x,b,h=>by
  show (if c then y::kf (l++[x]) (bs++[b]) else kf (l++[x]) (bs++[b]))=_;rw [zkl l bs x b (by simpa using h)];cases c <;> rfl
 | [],_::_,_,_,h=>by simp at h
 | _::_,[],_,_,h=>by simp at h
theorem zix:∀ (l:List (List UInt8)) (bs:List Bool),(kf l bs).length<=l.length
 | [],_=>by simp [kf]
 | x::l,[]=>by simp [kf]
 | x::l,b::bs=>by
  have:=zix l bs;show (if b then x::kf l bs else kf l bs).length<=_;cases b <;> simp <;> omega
def kinR (n:Nat) (f:List Int):List (List UInt8):=kf knm (prs n f)
theorem ziy {t:T AV} {l:List AV} {off s:Nat} (h:zY t 0 l.length=l) (hle:off+s<=l.length):zY t off s=(l.drop off).take s:=by
 have e1:l.drop off=zY t off (l.length-off):=by
  have:=bJ t l.length off (by omega);rw [h,Zav] at this;exact this
 rw [e1];apply Zax;intro i;by_cases hi:i<s
 ·rw [zW _ _ _ _ hi,List.getElem?_take_of_lt hi,zW _ _ _ _ (by omega)]
 ·rw [List.getElem?_eq_none (by simp;omega),List.getElem?_eq_none (by simp;omega)]
theorem Hp.zw3 {h0 h:T Blk} {nx:Pa} {L:List Ob} {k n off:Nat} {id:Pa} {l l2:List AV} {op:AV->OP} (H:Hp h0 h nx L) (hk:L[k]? = some (.arr id l)) (hle:off+n<=l.length) (he:(l.drop off).take n=l2):zN n (.ptr id off) h op=op (.agg l2):=by
 obtain ⟨o,t,h1,h2⟩:=H.own _ (Zaa hk);show jh (T.get .no id h) (fun _ m t=>bif Nat.ble (off+n) m then op (.agg (zY t off n)) else .no 8) (.no 9)=_;rw [h1];show (bif Nat.ble (off+n) l.length then op (.agg (zY t off n)) else .no 8)=_;rw [Zac hle,cond_true,ziy h2 hle,he]
theorem zp5 (f:List Int) (hl:f.length<=1000) (hp:0<f.length):Pure Tryz.prog B 48 [encI f] (· = encI f):=by
 cases f with
 | nil=>simp at hp
 | cons x t =>
  refine yC fun h nx K H0 hK=>zM zP yh 9 fun hf => ?_;rw [F48.go];have e:∀ A C:OP,(zf .eql (.nil .sl) (encI (x::t)) .zh fun v1=>zX v1 A C)=C:=fun A C=>nr rfl;rw [e];refine H0.copy (new:=(x::t).map I) (c:=(x::t).length) (fun h1 _=>zt8 1) (by simp) zp3 (by decide) (by omega) fun v X h' nx' H' _ _ hF => ?_;exact hK _ _ _ _ _ H' (hF _ _ _ _ H' (by simp)) rfl
theorem zw4 {n:Nat} {f:List Int} (hj:∀ B,JOk Tryz.prog B qE) (hl:f.length<=100000):Pure Tryz.prog B 115 [.agg [I (n:Int),encI f]] (· = .bool (nrm f)):=by
 refine yC fun h nx K H0 hK=>zM zP yh 100 fun hf' => ?_;rw [F115.go];refine H0.box (l:=[I (n:Int),encI f]) rfl fun bx h1 nx1 H1 => ?_;simp only [sFx];rw [H1.load (k:=0) (i:=0+1) rfl rfl];refine zgu hj hl _ _ _ _ ?_;rintro _ rfl _;exact hK _ _ _ _ _ H1 (zK rfl) rfl
theorem k221 {n:Nat} {f:List Int} (hs:SqOk n) (hf:cO n f):Pure Tryz.prog B 116 [.agg [I (n:Int),encI f]] (· = .bool (mg 0 n f)):=by
 refine yC fun h nx K H0 hK=>zM zP yh 100 fun hf' => ?_;rw [F116.go];refine H0.box (l:=[I (n:Int),encI f]) rfl fun bx h1 nx1 H1 => ?_;rw [H1.zk (k:=0) (n:=2) rfl rfl];refine zcd (k:=0) hs (by omega) hf _ _ _ _ ?_;rintro _ rfl _;exact hK _ _ _ _ _ H1 (zK rfl) rfl
theorem k222 {n:Nat} {f:List Int} (hs:SqOk n) (hf:cO n f):Pure Tryz.prog B 118 [.agg [I (n:Int),encI f]] (· = .bool (mg 1 n f)):=by
 refine yC fun h nx K H0 hK=>zM zP yh 100 fun hf' => ?_;rw [F118.go];refine H0.box (l:=[I (n:Int),encI f]) rfl fun bx h1 nx1 H1 => ?_;rw [H1.zk (k:=0) (n:=2) rfl rfl];refine zcd (k:=1) hs (by omega) hf _ _ _ _ ?_;rintro _ rfl _;exact hK _ _ _ _ _ H1 (zK rfl) rfl
theorem k223 {n:Nat} {f:List Int} (hs:SqOk n) (hf:cO n f):Pure Tryz.prog B 119 [.agg [I (n:Int),encI f]] (· = .bool (mg 2 n f)):=by
 refine yC fun h nx K H0 hK=>zM zP yh 100 fun hf' => ?_;rw [F119.go];refine H0.box (l:=[I (n:Int),encI f]) rfl fun bx h1 nx1 H1 => ?_;rw [H1.zk (k:=0) (n:=2) rfl rfl];refine zcd (k:=2) hs (by omega) hf _ _ _ _ ?_;rintro _ rfl _;exact hK _ _ _ _ _ H1 (zK rfl) rfl
theorem zw5 {n:Nat} {f:List Int} (hs:SqOk n) (hf:cO n f):Pure Tryz.prog B 123 [.agg [I (n:Int),encI f]] (· = .bool (bim n f)):=by
 refine yC fun h nx K H0 hK=>zM zP yh 100 fun hf' => ?_;rw [F123.go];refine H0.box (l:=[I (n:Int),encI f]) rfl fun bx h1 nx1 H1 => ?_;rw [H1.zk (k:=0) (n:=2) rfl rfl];refine zcd (k:=1) hs (by omega) hf _ _ _ _ ?_;rintro _ rfl _;cases c:mg 1 n f with
 | false =>
  simp only [jZ,zT,zce];exact hK _ _ _ _ _ H1 (zK rfl) (by rw [bim,c];rfl)
 | true =>
  simp only [jM,zcf];rw [H1.zk (k:=0) (n:=2) rfl rfl];refine zw1 hs hf _ _ _ _ ?_;rintro _ rfl _;simp only [zV];exact hK _ _ _ _ _ H1 (zK rfl) (by rw [bim,c,Bool.true_and])
def ktab:List AV:=[.str zc6,.fn 115 (.of 115) [],.str (jG 0),.fn 116 (.of 116) [],.str (jG 1),.fn 118 (.of 118) [],.str (jG 2),.fn 119 (.of 119) [],.str zeu,.fn 120 (.of 120) [],.str zkj,.fn 121 (.of 121) [],.str zkk,.fn 122 (.of 122) [],.str kBim,.fn 123 (.of 123) []]
theorem zp6 {h0 h:T Blk} {nx p:Pa} {L:List Ob} {K:Kw Prop} (H:Hp h0 h nx L) (hK:∀ ka h' nx',Hp h0 h' nx' (.arr ka ktab::L)->K (.sl ka 0 8 (some 8) 2) h' nx'=.ok True):(CS Tryz.prog B).fn 62 p [] h nx K=.ok True:=by
 refine yE (p:=.of 62) (K:=K) (zM zP yh 9 fun _ => ?_) fun _ _ _ _ q=>q;rw [F62.go];have sb:∀ (s:List UInt8) (g:Nat) (p:Pa) (K:AV->OP),y9 [(.str []),.xw] [(0,1,.str s),(1,1,.fn g p [])] K=K (.agg [.str s,.fn g p []]):=fun s g p K=>nr rfl;simp only [sb];exact H.yc (l:=ktab) rfl hK
def jQ (r c:Int) (f:List Int):Int:=if r≠c\/r<0\/1000<r\/(f.length:Int)≠r*r then 2 else if r<1\/16<r then 3 else if f.any eF then 3 else 0
theorem zw6 {r:Int} (h0:0<=r) (h:r<=1000):0<=r*r/\r*r<=1000000:=⟨Int.mul_nonneg h0 h0,Int.le_trans (Int.mul_le_mul h h h0 (by omega)) (by omega)⟩
theorem ztc {r c:Int} {f:List Int}:Pure Tryz.prog B 16 [.agg [I r,I c,encI f]] (· = I (jQ r c f)):=by
 refine yC fun h nx K H0 hK=>zM zP yh 100 fun hf' => ?_;rw [F16.go,F16.zas,F16.fG];refine H0.box (l:=[I r,I c,encI f]) rfl fun bx h1 nx1 H1 => ?_;have l0:∀ op:AV->OP,zB (.ptr bx 0) h1 op=op (I r):=fun op=>H1.load (k:=0) (i:=0) rfl rfl;have l00:∀ op:AV->OP,zB (.ptr bx (0+0)) h1 op=op (I r):=l0;have l1:∀ op:AV->OP,zB (.ptr bx (0+1)) h1 op=op (I c):=fun op=>H1.load (k:=0) (i:=0+1) rfl rfl;have l2:∀ op:AV->OP,zB (.ptr bx (0+2)) h1 op=op (encI f):=fun op=>H1.load (k:=0) (i:=0+2) rfl rfl;have end1:∀ x:Int,jQ r c f=x->K (I x) h1 nx1=.ok True:=fun x hx=>hK _ _ _ _ _ H1 (zK rfl) (by rw [hx]);rw [F16.aS,F16.eH,F16.fK,F16.r1_0,F16.zar];have two:∀ x4 x5 x6 x7 x8 x9 x10:AV,True:=fun _ _ _ _ _ _ _=>trivial;by_cases c1:r=c
 case neg =>
  have e:jQ r c f=2:=by rw [jQ,if_pos (.inl c1)]
  simp only [sFx,l0,l00,l1,qm,c1,decide_false,Zah,yQ,vG,zV,zT,F16.oK,F16.sN,F16.aV,F16.rY,F16.aU,F16.rZ];rw [F16.t4_s,zD,F16.aI,F16.rE,yA,yP,F16.ret];exact end1 2 e
 subst c1;by_cases c2:r<0
 ·have e:jQ r r f=2:=by rw [jQ,if_pos (.inr (.inl c2))]
  simp only [sFx,l0,l00,l1,qm,decide_true,Zaf,yL,yQ,vG,zV,zT,F16.oK,F16.sN,F16.aV,F16.rY,F16.aU,F16.rZ,jk,c2];rw [F16.t4_s,zD,F16.aI,F16.rE,yA,yP,F16.ret];exact end1 2 e
 by_cases c3:r<=1000
 case neg =>
  have e:jQ r r f=2:=by rw [jQ,if_pos (.inr (.inr (.inl (by omega))))]
  simp only [sFx,l0,l00,l1,qm,decide_true,decide_false,Zaf,yL,yQ,jZ,vG,zV,zT,F16.oK,F16.sN,F16.aV,F16.rY,F16.aU,F16.rZ,jk,c2,sJ,c3,xk,show 1000<r by omega];rw [F16.t4_s,zD,F16.aI,F16.rE,yA,yP,F16.ret];exact end1 2 e
 have hsq:=zw6 (r:=r) (by omega) c3;have mul:∀ K:AV->OP,zf .mul .int (I r) (I r) K=K (I (r*r)):=fun K=>rV (by omega);by_cases c4:(f.length:Int)=r*r
 case neg =>
  have e:jQ r r f=2:=by rw [jQ,if_pos (.inr (.inr (.inr c4)))]
  simp only [sFx,l0,l00,l1,l2,qm,decide_true,decide_false,Zaf,Zah,yL,yQ,jM,vG,zV,zT,F16.oK,F16.sN,F16.aV,F16.rY,F16.aU,F16.rZ,jk,c2,sJ,c3,xk,zL,mul,c4];rw [F16.t4_s,zD,F16.aI,F16.rE,yA,yP,F16.ret];exact end1 2 e
 have e0:jQ r r f=if r<1\/16<r then 3 else if f.any eF then 3 else 0:=by rw [jQ,if_neg (by omega)]
 simp only [sFx,l0,l00,l1,l2,qm,decide_true,decide_false,Zaf,Zah,yL,yQ,jM,vG,zV,zT,F16.oK,F16.sN,F16.aV,F16.rY,F16.aU,F16.rZ,jk,c2,sJ,c3,xk,zL,mul,c4,show ¬ 1000<r by omega];rw [F16.t4_s,zE,yB,F16.zad,F16.tq,F16.tY];by_cases c5:r<1
 ·simp only [sFx,l0,l00,jk,c5,decide_true,yQ,vG,zV,zT];rw [F16.ak,zD,F16.oL,F16.t7_s,yA,yP,F16.ret];exact end1 3 (by rw [e0,if_pos (.inl c5)])
 by_cases c6:16<r
 ·simp only [sFx,l0,l00,jk,c5,decide_false,yL,xk,c6,decide_true,zT];rw [F16.ak,zD,F16.oL,F16.t7_s,yA,yP,F16.ret];exact end1 3 (by rw [e0,if_pos (.inr c6)])
 simp only [sFx,l0,l00,jk,c5,decide_false,yL,xk,c6,zT];rw [F16.ak,zE,yB,F16.eP,F16.ze0];simp only [sFx];rw [l2];have hsm:r*r<=16*16:=Int.mul_le_mul (by omega) (by omega) (by omega) (by omega);refine ziu (by omega) _ _ _ _ ?_;rintro _ rfl _;rw [yA,yP,F16.ret];exact end1 _ (by rw [e0,if_neg (by omega)])
theorem ziz {r c:Int} {f:List Int} (hl:f.length<=300):Pure Tryz.prog B 61 [.agg [I r,I c,encI f]] (· = I (jQ r c f)):=by
 refine yC fun h nx K H0 hK=>zM zP yh 100 fun hf' => ?_;rw [F61.go,F61.ak,F61.fG];refine H0.box (l:=[I r,I c,encI f]) rfl fun bx h1 nx1 H1 => ?_;have l0:∀ op:AV->OP,zB (.ptr bx 0) h1 op=op (I r):=fun op=>H1.load (k:=0) (i:=0) rfl rfl;have l00:∀ op:AV->OP,zB (.ptr bx (0+0)) h1 op=op (I r):=l0;have l1:∀ op:AV->OP,zB (.ptr bx (0+1)) h1 op=op (I c):=fun op=>H1.load (k:=0) (i:=0+1) rfl rfl;have l2:∀ op:AV->OP,zB (.ptr bx (0+2)) h1 op=op (encI f):=fun op=>H1.load (k:=0) (i:=0+2) rfl rfl;have end1:∀ x:Int,jQ r c f=x->K (I x) h1 nx1=.ok True:=fun x hx=>hK _ _ _ _ _ H1 (zK rfl) (by rw [hx]);rw [F61.oL,F61.eH,F61.fK,F61.r1_0,F61.zar];by_cases c1:r=c
 case neg =>
  have e:jQ r c f=2:=by rw [jQ,if_pos (.inl c1)]
  simp only [sFx,l0,l00,l1,qm,c1,decide_false,Zah,yQ,vG,zV,zT,F61.oK,F61.sN,F61.aV,F61.rY,F61.aU,F61.rZ];rw [F61.t4_s,zD,F61.aI,F61.rE,yA,yP,F61.ret];exact end1 2 e
 subst c1;by_cases c2:r<0
 ·have e:jQ r r f=2:=by rw [jQ,if_pos (.inr (.inl c2))]
  simp only [sFx,l0,l00,l1,qm,decide_true,Zaf,yL,yQ,vG,zV,zT,F61.oK,F61.sN,F61.aV,F61.rY,F61.aU,F61.rZ,jk,c2];rw [F61.t4_s,zD,F61.aI,F61.rE,yA,yP,F61.ret];exact end1 2 e
 by_cases c3:1048576<r
 ·have e:jQ r r f=2:=by rw [jQ,if_pos (.inr (.inr (.inl (by omega))))]
  simp only [sFx,l0,l00,l1,qm,decide_true,decide_false,Zaf,yL,yQ,jZ,vG,zV,zT,F61.oK,F61.sN,F61.aV,F61.rY,F61.aU,F61.rZ,jk,c2,c3,xk];rw [F61.t4_s,zD,F61.aI,F61.rE,yA,yP,F61.ret];exact end1 2 e
 have hsq:0<=r*r/\r*r<=1048576*1048576:=⟨Int.mul_nonneg (by omega) (by omega),Int.mul_le_mul (by omega) (by omega) (by omega) (by omega)⟩;have mul:∀ K:AV->OP,zf .mul .int (I r) (I r) K=K (I (r*r)):=fun K=>rV (by omega);by_cases c4:(f.length:Int)=r*r
 case neg =>
  have e:jQ r r f=2:=by rw [jQ,if_pos (.inr (.inr (.inr c4)))]
  simp only [sFx,l0,l00,l1,l2,qm,decide_true,decide_false,Zaf,Zah,yL,yQ,jM,vG,zV,zT,F61.oK,F61.sN,F61.aV,F61.rY,F61.aU,F61.rZ,jk,c2,c3,xk,zL,mul,c4];rw [F61.t4_s,zD,F61.aI,F61.rE,yA,yP,F61.ret];exact end1 2 e
 have hr1:r<=1000:=by
  by_cases q:r<=1000
  ·exact q
  ·have:1001*1001<=r*r:=Int.mul_le_mul (by omega) (by omega) (by omega) (by omega);omega
 have e0:jQ r r f=if r<1\/16<r then 3 else if f.any eF then 3 else 0:=by rw [jQ,if_neg (by omega)]
 simp only [sFx,l0,l00,l1,l2,qm,decide_true,decide_false,Zaf,Zah,yL,yQ,jM,vG,zV,zT,F61.oK,F61.sN,F61.aV,F61.rY,F61.aU,F61.rZ,jk,c2,c3,xk,zL,mul,c4];rw [F61.t4_s,zE,yB,F61.t7_s,F61.tY];simp only [sFx,l00,l2];refine H1.yc (l:=[I r]) rfl fun b h2 nx2 H2 => ?_;have m2:∀ op:AV->OP,zB (.ptr bx (0+2)) h2 op=op (encI f):=fun op=>H2.load (k:=1) (i:=0+2) rfl rfl;simp only [m2,zC];refine zw2 (l:=[r]) rfl (by simp) H2 (k:=0) rfl ?_;simp only [m2,zC];refine ziv (by omega) _ _ _ _ ?_;rintro _ rfl _;refine H2.yc (l:=[I (rngE 1 16 [r]),I (if f.any eF=true then 3 else 0)]) rfl fun b h3 nx3 H3 => ?_;refine u9 (l:=[rngE 1 16 [r],if f.any eF=true then 3 else 0]) H3 (k:=0) rfl (fun B=>zb3 (by simp)) (fun v hv=>by rw [hv];exact .int _ _) ?_;rintro _ rfl;rw [yA,yP,F61.ret];refine hK _ _ _ _ _ H3 (zK rfl) ?_;rw [e0,rng1];by_cases c5:r<1\/16<r
 ·simp [gQ,c5]
 ·simp only [gQ,c5,if_false,ne_eq,not_true_eq_false];by_cases c6:f.any eF=true <;> simp [c6]
abbrev zfz (l:List (List UInt8)):AV:=.lst 1 l.length (l.map .str)
theorem zp7 {n:Nat} {f:List Int} (hj:∀ B,JOk Tryz.prog B qE) (hs:∀ m,1<=m->m<=n->SqOk m) (hn:1<=n/\n<=8) (hf:cO n f):∀ i,i<8->∃ g nm,kfn[i]? = some g/\knm[i]? = some nm/\(ktab.drop (i*2)).take 2=[.str nm,.fn g (.of g) []]/\Pure Tryz.prog B g [.agg [I (n:Int),encI f]] (· = .bool ((prs n f).getD i false)):=by
 have hsn:=hs n hn.1 (Zai _);have hlen:f.length<=64:=by rw [hf.len];exact Zba hn.2 hn.2
 intro i hi
 match i,hi with
 | 0,_=>exact ⟨115,zc6,rfl,rfl,rfl,zw4 hj (by omega)⟩
 | 1,_=>exact ⟨116,jG 0,rfl,rfl,rfl,k221 hsn hf⟩
 | 2,_=>exact ⟨118,jG 1,rfl,rfl,rfl,k222 hsn hf⟩
 | 3,_=>exact ⟨119,jG 2,rfl,rfl,rfl,k223 hsn hf⟩
 | 4,_=>exact ⟨120,zeu,rfl,rfl,rfl,zwz hsn hf⟩
 | 5,_=>exact ⟨121,zkj,rfl,rfl,rfl,zs8 hsn hf⟩
 | 6,_=>exact ⟨122,zkk,rfl,rfl,rfl,zta hs hn hf⟩
 | 7,_=>exact ⟨123,kBim,rfl,rfl,rfl,zw5 hsn hf⟩
theorem ztd {n:Nat} {f:List Int} {i:Nat} (hi:i<8) {nm:List UInt8} (h:knm[i]? = some nm):kf (knm.take (i+1)) ((prs n f).take (i+1))=kf (knm.take i) ((prs n f).take i)++if (prs n f).getD i false then [nm] else []:=by
 have hl:(prs n f).length=8:=rfl;have hb:(prs n f)[i]? = some ((prs n f).getD i false):=by rw [Zab,List.getElem?_eq_getElem (by omega)];rfl
 rw [Zaq,Zaq,h,hb,Option.toList_some,Option.toList_some,zkl];rw [Zaz,Zaz,hl];rfl
theorem zjz {r:Int} {f:List Int} (hj:∀ B,JOk Tryz.prog B qE) (hs:∀ m:Nat,1<=m->(m:Int)<=r->SqOk m) (hr:r<=8) (hl:f.length<=300) (he:jQ r r f=0):Pure Tryz.prog B 20 [.agg [I r,I r,encI f]] (· = .tup [zfz (kinR r.toNat f),I 0]):=by
  obtain ⟨hr1,hlen,hfar⟩:1<=r/\(f.length:Int)=r*r/\f.any eF=false:=by
    unfold jQ at he;by_cases c1:r≠r\/r<0\/1000<r\/(f.length:Int)≠r*r
    · rw [if_pos c1] at he;cases he
    · rw [if_neg c1] at he;by_cases c2:r<1\/16<r
      · rw [if_pos c2] at he;cases he
      · rw [if_neg c2] at he;cases c3:f.any eF with
        | true=>rw [c3] at he;cases he
        | false=>exact ⟨by omega,by omega,rfl⟩
  obtain ⟨n,rfl⟩:∃ n:Nat,r=(n:Int):=⟨r.toNat,by omega⟩;rw [Int.toNat_natCast];have hf:cO n f:=by
    refine ⟨by have:((f.length:Nat):Int)=((n*n:Nat):Int):=by rw [hlen];simp
               omega,fun x hx => ?_⟩
    have:=List.any_eq_false.1 hfar x hx;simp only [eF,Zcb,decide_eq_true_eq] at this;omega
  have hpos:0<f.length:=by rw [hf.len];exact Zba (show 1<=n by omega) (show 1<=n by omega)
  have hlen64:f.length<=64:=by rw [hf.len];exact Zba (show n<=8 by omega) (show n<=8 by omega)
  refine yC fun h nx K H0 hK=>zM zP yh 100 fun hf' => ?_;rw [F20.go];refine H0.box (l:=[I (n:Int),I (n:Int),encI f]) rfl fun bx h1 nx1 H1 => ?_;rw [H1.zk (k:=0) (n:=3) rfl rfl];refine ziz hl _ _ _ _ ?_;rintro _ rfl _;rw [he];simp only [qm,decide_true,Zaf,zE];refine zp6 H1 fun ka h2 nx2 H2 => ?_;simp only [yX];refine F20.L2 (fun m x5 x10 h' nx'=>∃ (i:Nat) (o:Option Pa),x10=I i/\x5=xu o 1 (kf (knm.take i) ((prs n f).take i)).length/\8-i=m/\i<=8/\Hp h h' nx' [.gro o 1 (kf (knm.take i) ((prs n f).take i)).length ((kf (knm.take i) ((prs n f).take i)).map .str),.arr ka ktab,.arr bx [I (n:Int),I (n:Int),encI f]]) (m:=8) (by omega) ⟨0,none,rfl,rfl,rfl,by omega,H2.oh 1⟩ ?_;rintro m z5 z6 z10 z11 z12 h3 nx3 R ⟨i,o,rfl,rfl,rfl,hi,H3⟩ hR;have e8:(I ((8:Nat):Int))=I 8:=rfl;simp only [jk];by_cases hlt:i<8
  case neg =>
    simp only [show ¬ (i:Int)<((8:Nat):Int) by omega,decide_false,zE];obtain rfl:i=8:=by omega
    rw [F20.k9];refine hK _ _ _ _ _ H3 (uT (H3.zam (k:=0) rfl (zzy _)) (zK rfl)) rfl
  simp only [show (i:Int)<((8:Nat):Int) by omega,decide_true,zD];obtain ⟨g,nm,q1,q2,q3,q4⟩:=zp7 (B:=B) hj (fun m h1 h2=>hs m h1 (by omega)) (by omega) hf i hlt;have hnext:=ztd (n:=n) (f:=f) hlt q2;have hkl:=zix (knm.take i) ((prs n f).take i);rw [Zaz,show knm.length=8 from rfl] at hkl;rw [qQ hlt,Zav,H3.zw3 (k:=1) rfl (by show _<=16;omega) q3];refine H3.alloc fun rb h4 nx4 H4 => ?_;refine H4.qo (l2:=[.str nm,.fn g (.of g) []]) (k:=0) rfl rfl rfl fun h5 H5 => ?_;simp only [sFx];have l1:∀ op:AV->OP,zB (.ptr rb (0+1)) h5 op=op (.fn g (.of g) []):=fun op=>H5.load (k:=0) (i:=0+1) rfl rfl;have l2:∀ op:AV->OP,zB (.ptr bx (0+0)) h5 op=op (I (n:Int)):=fun op=>H5.load (k:=3) (i:=0) rfl rfl;have l3:∀ op:AV->OP,zB (.ptr bx (0+2)) h5 op=op (encI f):=fun op=>H5.load (k:=3) (i:=0+2) rfl rfl;simp only [l1,l2,l3];refine zp5 f (by omega) hpos _ _ _ _ ?_;rintro _ rfl _;simp only [l1,l2,l3,zC];rw [show ∀ K:AV->OP,y9 [(I 0),.zh] [(0,1,I (n:Int)),(1,1,encI f)] K=K (.agg [I (n:Int),encI f]) from fun K=>zpq rfl,j3];refine q4 _ _ _ _ ?_;rintro _ rfl _;cases c:(prs n f).getD i false with
  | false =>
    rw [zE,jf (by omega)];rw [c,if_neg (by simp),Zcp] at hnext;exact hR _ _ _ _ _ _ _ _ (by omega) ⟨i+1,o,rfl,by rw [hnext],rfl,by omega,by rw [hnext];exact H5.drop⟩
  | true =>
    rw [zD,H5.load (k:=0) (i:=0) rfl rfl];rw [c,if_pos rfl] at hnext;refine H5.yc (l:=[.str nm]) rfl fun tb h6 nx6 H6 => ?_;refine H6.appN (k:=2) (o:=o) (c:=1) (new:=[.str nm]) rfl (yw.rd (l:=[.str nm]) (n:=1) (H6.own _ (Zaj ..)) rfl) rfl rfl (by decide) (by decide) (by omega) fun o' h7 nx7 _ H7 => ?_;rw [jf (by omega)];refine hR _ _ _ _ _ _ _ _ (by omega) ⟨i+1,o',rfl,by rw [hnext,Zau];rfl,rfl,by omega,?_⟩;rw [hnext,Zau,Zbk];exact H7.drop.drop
theorem getS {l:List (List UInt8)} {i:Nat} (h:i<l.length):(l.map AV.str)[i]? = some (.str l[i]):=by rw [List.getElem?_map,List.getElem?_eq_getElem h];rfl
end Go.Ev
namespace Go.Ev
set_option maxRecDepth 100000
def Cst (L:List (List Int)) (f:List Int):Prop:=∀ l∈L,∀ l'∈L,y3 l f=y3 l' f
theorem zgy {a:Int}:∀ {S:List Int} {k:Nat},difA a S k<0↔∀ s∈S,s=a
 | [],k=>by simp [difA]
 | x::S,k=>by
  by_cases c:x=a
  ·rw [difA,if_pos c,zgy (S:=S)];simp [c]
  ·rw [difA,if_neg c];constructor
   ·intro h;omega
   ·intro h;exact absurd (h x (by simp)) c
theorem zp8 {L:List (List Int)} {f:List Int}:zdj (wX L f)<0↔Cst L f:=by
 rw [zdj,zgy];constructor
 ·intro h l hl l' hl';have h1:=h (y3 l f) (List.mem_map_of_mem hl);have h2:=h (y3 l' f) (List.mem_map_of_mem hl');rw [h1,h2]
 ·intro h s hs;obtain ⟨l,hl,rfl⟩:=List.mem_map.1 hs;cases L with
  | nil=>simp at hl
  | cons a L=>exact h l hl a (by simp)
theorem zp9 {k n:Nat} {f:List Int}:mg k n f=true↔Cst (sqL k n) f:=by rw [mg,decide_eq_true_eq,zp8]
theorem bN (f:List Int):∀ (l:List Int) (a:Int),l.foldl (fun s c=>s+f.getD c.toNat 0) a=a+(l.map fun c=>f.getD c.toNat 0).sum
 | [],a=>by simp
 | c::l,a=>by rw [Zcg,bN f l];simp;omega
theorem dK (l f:List Int):y3 l f=(l.map fun c=>f.getD c.toNat 0).sum:=by rw [y3,bN];omega
theorem zmd {a b:List Int} (h:a.Perm b):a.sum=b.sum:=by
 induction h with
 | nil=>rfl
 | cons x _ ih=>simp [ih]
 | swap x y l=>simp;omega
 | trans _ _ h1 h2=>rw [h1,h2]
theorem zi0 {l l' f:List Int} (h:l.Perm l'):y3 l f=y3 l' f:=by rw [dK,dK];exact zmd (h.map _)
def pull (N:Nat) (t:Nat->Nat) (f:List Int):List Int:=(List.range N).map fun i=>f.getD (t i) 0
theorem zch (N:Nat) (t:Nat->Nat) (f:List Int):(pull N t f).length=N:=by simp [pull]
theorem zgz {N:Nat} {t:Nat->Nat} {f:List Int} {i:Nat} (h:i<N):(pull N t f).getD i 0=f.getD (t i) 0:=by
 rw [pull,Zab,List.getElem?_map,List.getElem?_range h];rfl
def tIZ (t:Nat->Nat) (c:Int):Int:=(t c.toNat:Int)
def cloB (L:List (List Int)) (N:Nat) (t:Nat->Nat):Bool:=L.all fun l=>(l.all fun c=>decide (0<=c)&&decide (c<(N:Int)))&&L.any fun l'=>(l.map (tIZ t)).isPerm l'
theorem zi1 {N:Nat} {t:Nat->Nat} {f l:List Int} (h:∀ c∈l,0<=c/\c<(N:Int)):y3 l (pull N t f)=y3 (l.map (tIZ t)) f:=by
 rw [dK,dK,List.map_map]
 congr 1
 refine Zci fun c hc => ?_;have:=h c hc;rw [zgz (by omega)];simp [tIZ]
theorem zg0 {L:List (List Int)} {N:Nat} {t:Nat->Nat} {f:List Int} (hc:cloB L N t=true) (h:Cst L f):Cst L (pull N t f):=by
 have key:∀ l∈L,∃ l'∈L,y3 l (pull N t f)=y3 l' f:=by
  intro l hl;have:=List.all_eq_true.1 hc l hl;simp only [Zad,Zae,decide_eq_true_eq,Zcl] at this;obtain ⟨h1,l',hl',h2⟩:=this;exact ⟨l',hl',by rw [zi1 h1];exact zi0 (List.isPerm_iff.1 h2)⟩
 intro l hl l' hl';obtain ⟨a,ha,e1⟩:=key l hl;obtain ⟨b,hb,e2⟩:=key l' hl';rw [e1,e2];exact h a ha b hb
theorem zaf {a b:Bool} (h:a=true↔b=true):a=b:=by cases a <;> cases b <;> simp at h ⊢
theorem zw7:∀ b0 b1 b2 b3 b4 b5 b6 b7:Bool,decide (jG 0∈kf knm [b0,b1,b2,b3,b4,b5,b6,b7])=b1/\decide (jG 1∈kf knm [b0,b1,b2,b3,b4,b5,b6,b7])=b2/\decide (jG 2∈kf knm [b0,b1,b2,b3,b4,b5,b6,b7])=b3 /\
  decide (zeu∈kf knm [b0,b1,b2,b3,b4,b5,b6,b7])=b4/\decide (zkj∈kf knm [b0,b1,b2,b3,b4,b5,b6,b7])=b5/\decide (zkk∈kf knm [b0,b1,b2,b3,b4,b5,b6,b7])=b6/\decide (kBim∈kf knm [b0,b1,b2,b3,b4,b5,b6,b7])=b7:=by decide +kernel
end Go.Ev
namespace Go.Ev
open Go Go.Proofs
set_option maxRecDepth 100000
theorem zz0:ok65 26 0=true:=by kernel_rfl
theorem zz1:ok65 26 1=true:=by kernel_rfl
theorem zz2:ok65 26 2=true:=by kernel_rfl
end Go.Ev
namespace Go.Ev
open Go
def OrbR (p:List (List Int)) (i j:Nat):Prop:=∃ row∈p,row.getD i 0=(j:Int)
theorem OrbR.lt {p:List (List Int)} {m i j:Nat} (h:PlOk p m) (hi:i<m) (ho:OrbR p i j):j<m:=by
 obtain ⟨row,hr,e⟩:=ho;obtain ⟨h1,h2⟩:=h row hr;have hx:row[i]? = some (row.getD i 0):=by rw [Zab,List.getElem?_eq_getElem (by omega)];rfl
 have:=h2 _ (Zaa hx);omega
section
variable {p:List (List Int)} {m:Nat}
end
end Go.Ev
namespace Go.Ev
open Go Go.Proofs
variable {B:Nat}
structure LsOk (G:List Sym) (l:List (List Int)) (n:Nat):Prop where
 gr:GrOk G n
 len:l.length<=1024
 ord:Ord l
 fl:∀ f∈l,f.length=n/\∀ x∈f, -999999999<=x/\x<=999999999
 cl:∀ g∈G,∀ f∈l,jH g.2 g.1 f∈l
theorem Hp.pre {h0 h:T Blk} {nx:Pa} {L:List Ob}:∀ (Y:List Ob),Hp h0 h nx (Y++L)->Hp h0 h nx L
 | [],H=>H
 | _::Y,H=>Hp.pre Y H.drop
end Go.Ev
namespace Go.Ev
open Go Go.Proofs
variable {B:Nat}
set_option maxRecDepth 100000
theorem zqa {g f:List Int} {c:Bool} (hl:f.length<=1000) (hg:g.length=f.length) (hp:qK g) (hf:∀ x∈f, -1000000000<=x/\x<=1000000000):Pure Tryz.prog B 65 [.agg [encI g,.bool c],encI f] (· = encI (jH c g f)):=by
 refine yC fun h nx K H0 hK=>zM zP yh 10000 fun hf' => ?_;rw [F65.go,F65.t25,zA,F65.fG];refine H0.box (l:=[encI g,.bool c]) rfl fun bx h1 nx1 H1 => ?_;rw [F65.t24,zA,F65.fK,zL];refine H1.mk1 f.length rfl rfl (by omega) (by decide) fun tb h2 nx2 H2 => ?_;rw [F65.t23,zA,F65.t20,zA,F65.rE,zL];have e0:List.replicate f.length (I 0)=(wW f.length c g f 0).map I:=by simp [wW]
 rw [e0] at H2;rw [F65.t19,yI]
 refine F65.zxf (fun m x9 h' nx'=>∃ i:Nat,x9=I i/\m=f.length-i/\i<=f.length/\Hp h h' nx' [.arr tb ((wW f.length c g f i).map I),.arr bx [encI g,.bool c]]) (m:=f.length) (by omega)
  ⟨0,rfl,by omega,by omega,H2⟩ ?_
 rintro m z5 z6 z9 z10 z11 h3 nx3 R ⟨i,rfl,rfl,hi,H3⟩ hR;rw [F65.t17,zA,F65.aI,jk];by_cases hlt:i<f.length
 case neg =>
  rw [decide_eq_false (by omega),F65.t16,zA,F65.t4,zR,F65.v10,zE,jP,uD,F65.t22,zA,F65.zmm,yA,yP,F65.ret];obtain rfl:i=f.length:=by omega
  have hal:=gY f.length c g f f.length;refine hK _ _ _ _ _ H3 (H3.og (k:=0) rfl (Zai _) (by simp [hal]) zzl) ?_;show _=AV.lst 1 _ _;rw [jH,hal]
 rw [decide_eq_true (by omega),F65.t16,zA,F65.t4,zR,F65.v10,zD,yB];have hx:f[i]? = some f[i]:=List.getElem?_eq_getElem hlt;have hgx:g[i]? = some g[i]:=List.getElem?_eq_getElem (by omega);have hgb:=hp.2 _ (Zal (show i<g.length by omega));have hfb:=hf _ (Zal hlt);have hfd:f.getD i 0=f[i]:=by rw [Zab,hx];rfl
 have hgd:g.getD i 0=g[i]:=by rw [Zab,hgx];rfl
 rw [F65.t15,zA,F65.t13,yI,F65.t12,zA,F65.eH,cZ rfl hlt,ldL (rJ hx),F65.t11,zA,F65.t9,zA,F65.tY,sFx,H3.load (k:=1) (i:=0+1) rfl rfl,F65.t8,zR,F65.v11];cases c with
 | true =>
  rw [zD,F65.t7_s,zL,jf (by omega),pq (by omega),F65.tq,sFx,H3.load (k:=1) (i:=0) rfl rfl,cZ rfl (by omega),ldL (rJ hgx),sIx (i:=(g[i]).toNat) (by omega) (by omega)];refine H3.store (k:=0) rfl (by rw [Zas,gY];omega) rfl fun h4 H4 => ?_;rw [F65.aS,jf (by omega)];refine hR _ _ _ _ _ _ _ _ (by omega) ⟨i+1,rfl,rfl,by omega,H4.cast ?_⟩;rw [wQ,hfd,hgd];simp [List.map_set,xOf]
 | false =>
  rw [zE,yB,F65.tq,sFx,H3.load (k:=1) (i:=0) rfl rfl,cZ rfl (by omega),ldL (rJ hgx),sIx (i:=(g[i]).toNat) (by omega) (by omega)];refine H3.store (k:=0) rfl (by rw [Zas,gY];omega) rfl fun h4 H4 => ?_;rw [F65.aS,jf (by omega)];refine hR _ _ _ _ _ _ _ _ (by omega) ⟨i+1,rfl,rfl,by omega,H4.cast ?_⟩;rw [wQ,hfd,hgd];simp [List.map_set,xOf]
def aQ (x:Int):Bool:=decide (x < -999999999)||decide (999999999<x)
def uY (f:List Int):Int:=if f.any aQ then 3 else 0
def wN (f:List Int):Int:=if 256<f.length then 5 else uY f
theorem zqb (x:Int):Pure Tryz.prog B 67 [I x] (· = .bool (aQ x)):=by
 refine yC fun h nx K H0 hK=>zM zP yh 100 fun hf' => ?_;rw [F67.go,F67.t3,zA,F67.fG,F67.t2,zA,F67.fK,jk];by_cases c:x < -999999999
 ·simp only [c,decide_true,yQ,zV];simp only [yA,yB,pN,yP,F67.ret];exact hK _ _ _ _ _ H0 (zK rfl) (by simp [aQ,c])
 ·simp only [c,decide_false,yL,xk,zT];simp only [yA,yB,pN,yP,F67.ret];exact hK _ _ _ _ _ H0 (zK rfl) (by simp [aQ,c])
theorem zw8 {h:T Blk} {nx:Pa} {f:List Int} {K:Kw Prop} {p q:Pa} (hl:f.length<=1000000) (hfr:Fr h nx) (hK:K (.bool (f.any aQ)) h nx=.ok True):(CS Tryz.prog B).fn 66 p [encI f,.fn 67 q []] h nx K=.ok True :=
 zb4 hl (fun x _ K hK=>zqb x _ _ _ _ fun v hv _=>by rw [hv];exact hK) hK
theorem zte {f:List Int} (hl:f.length<=1000000):Pure Tryz.prog B 63 [encI f] (· = I (wN f)):=by
 refine yC fun h nx K H0 hK=>zM zP yh 100 fun hf' => ?_;rw [F63.go,F63.t3,zA,F63.fG,F63.t2,zA,F63.fK,zL,xk]
 (refine kF _ _ _ _ _ _ ?_;rintro _ rfl _)
 refine zw8 hl hf' ?_
 (refine kF _ _ _ _ _ _ ?_;rintro _ rfl _)
 refine H0.yc (l:=[I (if decide ((256:Int)<(f.length:Int))=true then 5 else 0),I (if f.any aQ=true then 3 else 0)]) rfl fun tb h1 nx1 H1 => ?_;refine u9 (l:=[if decide ((256:Int)<(f.length:Int))=true then 5 else 0,if f.any aQ=true then 3 else 0]) H1 (k:=0) rfl (fun B=>vP (by simp)) (fun v hv=>by rw [hv];exact .int _ _) ?_;rintro _ rfl;simp only [yA,yB,pN,yP,F63.ret];refine hK _ _ _ _ _ H1 (zK rfl) ?_;rw [wN,uY];by_cases c:256<f.length
 ·rw [if_pos c,if_pos (by simp;omega)];rfl
 ·rw [if_neg c,if_neg (by simp;omega)];cases f.any aQ <;> rfl
theorem zqc {f:List Int} {p:Int->Bool} {i:Nat} (h:i<f.length):(f.drop i).any p=(p f[i]||(f.drop (i+1)).any p):=by rw [Zar h];rfl
theorem ztf {f:List Int} (hl:f.length<=1000000):Pure Tryz.prog B 54 [encI f] (· = I (uY f)):=by
 refine yC fun h nx K H0 hK=>zM zP yh 10000000 fun hf' => ?_;rw [F54.go,F54.t20,zA,F54.fG,F54.t19,zA,F54.t16,zA,F54.fK,F54.t15,yI];refine F54.zmo (fun m x2 h' nx'=>∃ i:Nat,x2=I i/\m=f.length-i/\i<=f.length/\f.any aQ=(f.drop i).any aQ/\Hp h h' nx' []) (m:=f.length) (by omega) ⟨0,rfl,by omega,by omega,rfl,H0⟩ ?_;rintro m z1 z2 z3 z4 h3 nx3 R ⟨i,rfl,rfl,hi,ha,H3⟩ hR;rw [F54.t13,zA,F54.t4,zA,F54.rE,zL,jk];by_cases hlt:i<f.length
 case neg =>
  rw [decide_eq_false (by omega),F54.t3,zR,F54.v3,zE,jP,uD,F54.t18,zA,F54.eU,yA,yP,F54.ret];refine hK _ _ _ _ _ H3 (zK rfl) ?_;rw [uY,ha,Zbq (by omega)];rfl
 rw [decide_eq_true (by omega),F54.t3,zR,F54.v3,zD,yB];have hx:f[i]? = some f[i]:=List.getElem?_eq_getElem hlt;rw [F54.t12,zA,F54.t10,yI,F54.t9,zA,F54.eH,F54.r3_0,F54.zu0,cZ rfl hlt,ldL (rJ hx),jk];have hd:=zqc (p:=aQ) hlt;by_cases c:f[i] < -999999999
 ·simp only [c,decide_true,yQ];rw [F54.r3_1,F54.zmn];simp only [yQ,zV];rw [F54.t8,zR,F54.v4,zD,F54.t7,zA,F54.tY];simp only [yA,pN,yP];rw [F54.ret];exact hK _ _ _ _ _ H3 (zK rfl) (by rw [uY,ha,hd];simp [aQ,c])
 ·simp only [c,decide_false,yL];rw [F54.r3_1,F54.zmn];simp only [yL];rw [cZ rfl hlt,ldL (rJ hx),xk,zT,F54.t8,zR,F54.v4];by_cases c2:999999999<f[i]
  ·rw [decide_eq_true c2,zD,F54.t7,zA,F54.tY];simp only [yA,pN,yP];rw [F54.ret];exact hK _ _ _ _ _ H3 (zK rfl) (by rw [uY,ha,hd];simp [aQ,c2])
  ·rw [decide_eq_false c2,zE,yB,F54.ze0,jf (by omega)];refine hR _ _ _ _ _ _ _ (by omega) ⟨i+1,rfl,rfl,by omega,?_,H3⟩;rw [ha,hd];simp [aQ,c,c2]
theorem zw9 {f:List Int} (hl:f.length<=1000000):Pure Tryz.prog B 17 [encI f] (· = I (wN f)):=by
 refine yC fun h nx K H0 hK=>zM zP yh 100 fun hf' => ?_;rw [F17.go,F17.t9,zA,F17.fG,F17.t8,zA,F17.t5,zA,F17.fK,zL,xk,F17.t4,zR,F17.v2];by_cases c:256<f.length
 ·rw [decide_eq_true (by omega),zD,F17.t3,zA,F17.rE];simp only [yA,yP];rw [F17.ret];exact hK _ _ _ _ _ H0 (zK rfl) (by rw [wN,if_pos c])
 ·rw [decide_eq_false (by omega),zE,yB,F17.t7,zA,F17.tY]
  (refine ztf hl _ _ _ _ ?_;rintro _ rfl _)
  simp only [yA,yP];rw [F17.ret];exact hK _ _ _ _ _ H0 (zK rfl) (by rw [wN,if_neg c])
theorem zme {f:List Int} (h:wN f=0):f.length<=256/\∀ x∈f, -999999999<=x/\x<=999999999:=by
 unfold wN uY at h;split at h
 ·omega
 split at h
 ·omega
 rename_i c1 c2;refine ⟨by omega,fun x hx => ?_⟩;have:=List.any_eq_false.1 (Bool.eq_false_iff.2 c2) x hx;simp [aQ] at this;omega
theorem pJ {q:List Sym}:∀ v∈yY q,fH v=true:=fun v hv=>by
 obtain ⟨x,_,hx⟩:=List.mem_flatMap.1 hv;simp only [Zag,List.not_mem_nil,or_false] at hx;rcases hx with rfl | rfl
 ·exact uM _
 ·rfl
end Go.Ev
namespace Go.Ev
section
variable {G S:List Sym} {n:Nat}
end
end Go.Ev
namespace Go.Ev
theorem zmf {α:Type} {l:List α} (h:l.Nodup) {i j:Nat} {x:α} (hi:l[i]? = some x) (hj:l[j]? = some x):i=j:=by
 obtain ⟨a1,a2⟩:=List.getElem?_eq_some_iff.1 hi;obtain ⟨b1,b2⟩:=List.getElem?_eq_some_iff.1 hj;have hp:=List.pairwise_iff_getElem.1 h;rcases Nat.lt_trichotomy i j with c | c | c
 ·exact absurd (a2.trans b2.symm) (hp i j a1 b1 c)
 ·exact c
 ·exact absurd (b2.trans a2.symm) (hp j i b1 a1 c)
theorem getD_some {l:List Int} {i:Nat} (h:i<l.length):l[i]? = some (l.getD i 0):=by
 rw [Zab,List.getElem?_eq_getElem h];rfl
theorem zci {n:Nat} {c:Bool} {g f:List Int} (hg:qK g) (hgn:g.length=n):∀ (i k:Nat),i<=n->k<i->(wW n c g f i)[(g.getD k 0).toNat]? = some (xOf n c (f.getD k 0))
 | 0,k,_,h=>by omega
 | i+1,k,hi,h=>by
  rw [wQ];have hk:=hg.2 _ (Zaa (getD_some (l:=g) (i:=k) (by omega)));have hi':=hg.2 _ (Zaa (getD_some (l:=g) (i:=i) (by omega)));by_cases e:k=i
  ·subst e;rw [List.getElem?_set,if_pos rfl,if_pos (by rw [gY];omega)]
  ·rw [List.getElem?_set_ne,zci hg hgn i k (by omega) (by omega)];intro q;have e1:g.getD i 0=g.getD k 0:=by omega
   have:=zmf hg.1 (getD_some (l:=g) (i:=i) (by omega)) (e1 ▸ getD_some (l:=g) (i:=k) (by omega));omega
theorem zi2 {c:Bool} {g f:List Int} (hg:qK g) (hgn:g.length=f.length) {k:Nat} (h:k<f.length):(jH c g f)[(g.getD k 0).toNat]? = some (xOf f.length c (f.getD k 0)):=zci hg hgn _ k (Zai _) h
end Go.Ev
namespace Go.Ev
open Go Go.Proofs
theorem LsOk.of {G:List Sym} {l:List (List Int)} (h:zpi G l=0):∃ n:Nat,vU G=(n:Int)/\LsOk G l n:=by
 obtain ⟨e1,e2,e3,e4⟩:=zpn h;obtain ⟨n,hn,hg⟩:=zl6 e1;obtain ⟨f1,f2,_⟩:=zph e3
 exact ⟨n,hn,hg,e2,f2,fun f hf=>by
  obtain ⟨q1,q2⟩:=zil (f1 f hf);exact ⟨by omega,q2⟩,e4⟩
theorem zdk (c:Bool) (g f:List Int):(jH c g f).length=f.length:=gY _ _ _ _ _
theorem apply_get {n:Nat} {a:Sym} (ha:DP n a) {f:List Int} (hf:f.length=n) {k:Nat} (hk:k<n):(jH a.2 a.1 f)[(a.1.getD k 0).toNat]? = some (xOf n a.2 (f.getD k 0)):=by
 have h1:=ha.1.1;have:=zi2 (c:=a.2) ha.perm (show a.1.length=f.length by omega) (show k<f.length by omega);rw [hf] at this;exact this
section
variable {G:List Sym} {l:List (List Int)} {n:Nat}
end
end Go.Ev
namespace Go.Ev
open Go Go.Proofs
variable {B:Nat}
set_option maxRecDepth 100000
theorem zcq {α:Type} {l:List α} {p:α->Bool} {i:Nat} {x:α} (hx:l[i]? = some x) (h:(l.take i).all p=true) (hp:p x=true):(l.take (i+1)).all p=true:=by
 rw [Zaq,hx,List.all_append,h];simp [hp]
end Go.Ev
namespace Go.Ev
abbrev AscS (l:List Sym):Prop:=l.Pairwise fun a b=>befS a b=true
theorem AscS.nd {l:List Sym} (h:AscS l):l.Nodup:=h.imp fun hab e=>by rw [e,zgo] at hab;cases hab
end Go.Ev
namespace Go.Ev
open Go Go.Proofs
variable {B:Nat}
set_option maxRecDepth 100000
theorem ztg {P:Program} {f:Nat} {p:Pa} {args args':List AV} {h:T Blk} {nx:Pa} {K:Kw Prop} (hv:∀ (E:Env) (vs:List Value),VRL E args vs->VRL E args' vs) (hk:(CS P B).fn f p args' h nx K=.ok True):(CS P B).fn f p args h nx K=.ok True:=by
 rw [sS] at hk ⊢;exact ⟨fun E w vs H hv'=>hk.1 E w vs H (hv _ _ hv'),rfl⟩
theorem zth {E:Env} {e:Nat} {vv:Value} (h:VR E .zh vv):VR E (.lst e 0 []) vv:=by
 simp only [VR] at h ⊢;exact ⟨rfl,by simp,none,0,h,.inl (by simp)⟩
theorem zi3 (q:List Sym):(yY q).all jc=true:=List.all_eq_true.2 fun v hv=>fH.jc (pJ v hv)
def LG (v:AV) (l:List Sym):Prop:=(v=.zh/\l=[])\/(v=fB l/\l≠[])
theorem LG.len {v:AV} {l:List Sym} (h:LG v l) {op:AV->OP}:sLen v op=op (I l.length):=by
 rcases h with ⟨rfl,rfl⟩ | ⟨rfl,_⟩
 ·exact yN
 ·exact zL ..
theorem LG.frz {v:AV} {l:List Sym} (h:LG v l) {N:Pa->Prop} {O:AV->Prop} {hh:T Blk}:Frz True N O hh v (fB l):=by
 rcases h with ⟨rfl,rfl⟩ | ⟨rfl,_⟩
 ·exact .zai 2
 ·exact zK (zde _)
theorem LG.call {P:Program} {f:Nat} {p:Pa} {v:AV} {rest:List AV} {l:List Sym} (h:LG v l) {hh:T Blk} {nx:Pa} {K:Kw Prop} (hk:(CS P B).fn f p (fB l::rest) hh nx K=.ok True):(CS P B).fn f p (v::rest) hh nx K=.ok True:=by
 rcases h with ⟨rfl,rfl⟩ | ⟨rfl,_⟩
 ·refine ztg (fun E vs hv => ?_) hk;simp only [VRL] at hv ⊢;obtain ⟨a,m,q,r,s⟩:=hv;exact ⟨a,m,q,zth r,s⟩
 ·exact hk
end Go.Ev
namespace Go.Ev
open Go.Proofs (gy xC qN qS gE)
abbrev AscT (l:List (List Int)):Prop:=l.Pairwise fun a b=>gB a b=true
end Go.Ev
namespace Go.Ev
open Go Go.Proofs
variable {B:Nat}
set_option maxRecDepth 100000
def Kept (s r:List (List Int)) (j:Nat):Prop:=AscT r/\(∀ x,x∈r↔x∈s.take j)/\1<=r.length/\r.length<=j/\r.getLast? = s[j-1]?
theorem Kept.same {s r:List (List Int)} {j:Nat} (hj:1<=j) (h:Kept s r j) (hl:j<s.length) (e:s[j]=s[j-1]):Kept s r (j+1):=by
 obtain ⟨h1,h2,h3,h4,h5⟩:=h;have hp:s[j-1]? = some s[j-1]:=List.getElem?_eq_getElem (by omega);refine ⟨h1,fun x => ?_,h3,by omega,?_⟩
 ·rw [h2,Zaq,List.getElem?_eq_getElem hl,Zat];constructor
  ·exact .inl
  ·rintro (q | q)
   ·exact q
   ·have:x=s[j-1]:=by rw [<- e];simpa using q
    rw [this];exact Zaa (i:=j-1) (by rw [List.getElem?_take_of_lt (by omega)];exact hp)
 ·rw [h5,hp,Nat.add_sub_cancel,List.getElem?_eq_getElem hl,e]
theorem Kept.new {s r:List (List Int)} {j:Nat} (hj:1<=j) (h:Kept s r j) (hs:s.Pairwise fun a b=>gy a b<=0) (hl:j<s.length) (e:s[j]≠s[j-1]):Kept s (r++[s[j]]) (j+1):=by
 obtain ⟨h1,h2,h3,h4,h5⟩:=h;have hlt:∀ x∈s.take j,gB x s[j]=true:=fun x hx=>by
  have hpw:=List.pairwise_iff_getElem.1 hs;obtain ⟨i,hi⟩:=List.getElem?_of_mem hx;have hil:=(List.getElem?_eq_some_iff.1 hi).1;rw [Zaz] at hil;rw [List.getElem?_take_of_lt (by omega),List.getElem?_eq_getElem (by omega)] at hi;obtain rfl:=Option.some.inj hi;have a1:=hpw i j (by omega) hl (by omega);have a2:=hpw (j-1) j (by omega) hl (by omega);have a3:gy s[j-1] s[j]≠0:=fun q=>e (qN q).symm;rw [xE];by_cases q:i=j-1
  ·subst q;exact decide_eq_true (by omega)
  ·have a4:=hpw i (j-1) (by omega) (by omega) (by omega);by_cases z:gy s[i] s[j-1]=0
   ·rw [qN z];exact decide_eq_true (by omega)
   ·exact decide_eq_true (gE (b:=s[j-1]) (by omega) (by omega))
 refine ⟨List.pairwise_append.2 ⟨h1,by simp,fun x hx y hy => ?_⟩,fun x => ?_,by simp,by simp;omega,?_⟩
 ·rw [List.mem_singleton.1 hy];exact hlt x ((h2 x).1 hx)
 ·rw [Zat,h2,Zaq,List.getElem?_eq_getElem hl,Zat];simp
 ·rw [Nat.add_sub_cancel,List.getElem?_eq_getElem hl];simp
theorem wT {a b c:List Int} (h1:gy a b<=0) (h2:gy b c<=0):gy a c<=0:=by
 by_cases z1:gy a b=0
 ·rw [qN z1];exact h2
 ·by_cases z2:gy b c=0
  ·rw [<- qN z2];exact h1
  ·have:=gE (a:=a) (b:=b) (c:=c) (by omega) (by omega);omega
def LT (v:AV) (l:List (List Int)):Prop:=(v=.zh/\l=[])\/(v=pz l/\l≠[])
theorem LT.len {v:AV} {l:List (List Int)} (h:LT v l) {op:AV->OP}:sLen v op=op (I l.length):=by
 rcases h with ⟨rfl,rfl⟩ | ⟨rfl,_⟩
 ·exact yN
 ·exact zL ..
theorem LT.frz {v:AV} {l:List (List Int)} (h:LT v l) {N:Pa->Prop} {O:AV->Prop} {hh:T Blk}:Frz True N O hh v (pz l):=by
 rcases h with ⟨rfl,rfl⟩ | ⟨rfl,_⟩
 ·exact .zai 1
 ·exact zK (zlc _)
end Go.Ev
namespace Go.Ev
open Go.Proofs
theorem pT {n:Nat} (hn:n<=256):∀ {G:List Sym},(∀ g∈G,DP n g)->gL n G=0
 | [],_=>rfl
 | a::G,h=>by
  have ha:=h a (by simp);have e:jK a.1 n=0:=by rw [jK,if_neg (by omega),if_neg (by rw [ha.1.1];omega),if_pos ha.perm]
  rw [gL,e,if_neg (by decide)];exact pT hn fun g hg=>h g (by simp [hg])
theorem GrOk.err {G:List Sym} {n:Nat} (h:GrOk G n):j5 G n=0:=by
 have:=h.n256;have hl:=h.len;rw [j5,if_neg (by omega),if_neg (fun q=>h.ne (Zbc q)),if_neg (by omega),if_neg (by rw [pT h.n256 h.dp];decide),if_neg (by rw [h.ord];decide),if_neg (by rw [zaj.2 h.cl];decide)]
section
variable {G S:List Sym} {n:Nat}
end
end Go.Ev
namespace Go.Ev
section
variable {G:List Sym} {n:Nat}
end
end Go.Ev
namespace Go.Ev
open Go Go.Proofs
variable {B:Nat}
set_option maxRecDepth 100000
theorem zti {B:Nat}:JOk Tryz.prog B qE:=zfy Tryz.slices_Sort_int Tryz.slices_Sort_int_none
theorem ztj {h0 h:T Blk} {nx p id:Pa} {L:List Ob} {k n:Nat} {K:Kw Prop} {l:List Int} (H:Hp h0 h nx L) (hk:L[k]? = some (.gro (some id) 1 n (l.map I))) (hn:n<=1000000)
  (hK:∀ h',Hp h0 h' nx (L.set k (.gro (some id) 1 n ((srt l).map I)))->K (.tup []) h' nx=.ok True):(CS Tryz.prog B).fn 138 p [xu (some id) 1 n] h nx K=.ok True:=by
 obtain ⟨t,h1,h2,h3⟩:=H.own _ (Zaa hk);rw [Zas] at h2;have hp:=(qA l).length_eq;have hln:l.length=n:=by omega
 have hsl:((srt l).map I).length=n*1:=by rw [Zas,hp,h2]
 refine bY zti (v:=.tup []) (h2:=T.set .no (.cells true (n*1) (yT ((srt l).map I) t 0)) id h) ?_ (hK _ ?_)
 ·show (match bG (.sl id 0 n none 1) h with
   | some h=>some (AV.tup [],h)
   | none=>none)=_
  have e:bG (.sl id 0 n none 1) h=some (T.set .no (.cells true (n*1) (yT ((srt l).map I) t 0)) id h):=by
   unfold bG;simp only [h1];rw [Zbw] at h3 ⊢;simp only [Zbf,Zav,Zac (Zai n),Zac hn,Bool.and_self,cond_true,h3,zda]
  rw [e]
 ·refine H.upd hk (by simp [Ob.names]) rfl ⟨_,T.get_set_same ..,hsl,?_⟩;have:=u7 t [] ((srt l).map I) 0 rfl;rw [Zav,List.nil_append,hsl] at this;exact this
def RB (l:List Int):Prop:=∀ x∈l,0<=x/\x<256
theorem zg1:∀ {l l':List Int},RB l->RB l'->ku (l,false)=ku (l',false)->l=l'
 | [],[],_,_,_=>rfl
 | [],_::_,_,_,h=>by cases h
 | _::_,[],_,_,h=>by cases h
 | x::l,y::l',h1,h2,h=>by
  have h:UInt8.ofNat x.toNat::ku (l,false)=UInt8.ofNat y.toNat::ku (l',false):=h;obtain ⟨e1,e2⟩:=List.cons.inj h;have hx:=h1 x (by simp);have hy:=h2 y (by simp);have e:x=y:=by
   have:=congrArg UInt8.toNat e1;simp only [UInt8.toNat_ofNat'] at this;omega
  rw [e,zg1 (fun z hz=>h1 z (by simp [hz])) (fun z hz=>h2 z (by simp [hz])) e2]
def sZ (ks:List (List Int)):List (AV×AV):=ks.map fun l=>(.str (ku (l,false)),.bool true)
theorem zqd {a:List Int} (ha:RB a):∀ (ks:List (List Int)) (i:Nat),(∀ b∈ks,RB b)->(a∈ks->∃ j,uC .str (.str (ku (a,false))) (sZ ks) i=some (some (j,.bool true)))/\(a∉ks->uC .str (.str (ku (a,false))) (sZ ks) i=some none)
 | [],i,_=>⟨fun h=>absurd h (by simp),fun _=>rfl⟩
 | b::ks,i,h=>by
  obtain ⟨r1,r2⟩:=zqd ha ks (i+1) fun c hc=>h c (by simp [hc])
  have e:uC .str (.str (ku (a,false))) (sZ (b::ks)) i=(match some (jD (ku (a,false)) (ku (b,false))) with
   | some true=>some (some (i,.bool true))
   | some false=>uC .str (.str (ku (a,false))) (sZ ks) (i+1)
   | none=>none):=rfl
  rw [e];by_cases c:a=b
  ·subst c;rw [qp.2 rfl];exact ⟨fun _=>⟨i,rfl⟩,fun q=>absurd (by simp) q⟩
  ·have hb:jD (ku (a,false)) (ku (b,false))=false:=by
    cases q:jD (ku (a,false)) (ku (b,false)) with
    | false=>rfl
    | true=>exact absurd (zg1 ha (h b (by simp)) (qp.1 q)) c
   rw [hb]
   exact ⟨fun q=>r1 (by
    rcases List.mem_cons.1 q with q | q
    ·exact absurd q c
    ·exact q),fun q=>r2 fun q2=>q (by simp [q2])⟩
theorem zz3 {a:List Int} (ha:RB a) {ks:List (List Int)} (hks:∀ b∈ks,RB b) {h0 h:T Blk} {nx:Pa} {L:List Ob} {k:Nat} {id:Pa} {op:AV->OP} (H:Hp h0 h nx L) (hk:L[k]? = some (.map id (sZ ks))):zex .str (.bool false) false (.map id) (.str (ku (a,false))) h op=op (.bool (decide (a∈ks))):=by
 have own:T.get .no id h=.map _ _:=H.own _ (Zaa hk);obtain ⟨r1,r2⟩:=zqd ha ks 0 hks;show bZ (T.get .no id h) _ _=_;rw [own]
 show (match gF .str (.str (ku (a,false))) (sZ ks) with
    | some (some (_,v))=>op (bif false then .tup [v,.bool true] else v)
    | some none=>op (bif false then .tup [.bool false,.bool false] else .bool false)
    | none=>.no 20)=_
 rw [show gF .str (.str (ku (a,false))) (sZ ks)=uC .str (.str (ku (a,false))) (sZ ks) 0 from rfl];by_cases c:a∈ks
 ·obtain ⟨j,hj⟩:=r1 c;rw [hj,decide_eq_true c];rfl
 ·rw [r2 c,decide_eq_false c];rfl
theorem Hp.zz4 {a:List Int} (ha:RB a) {ks:List (List Int)} (hks:∀ b∈ks,RB b) (hna:a∉ks) {K:AV->T Blk->Pa->OP} {h0 h:T Blk} {nx:Pa} {L:List Ob} {k:Nat} {id:Pa} (H:Hp h0 h nx L) (hk:L[k]? = some (.map id (sZ ks)))
  (hK:∀ h',Hp h0 h' nx (L.set k (.map id (sZ (ks++[a]))))->K .undef h' nx=.ok True):xP .str (.map id) (.str (ku (a,false))) (.bool true) h nx K=.ok True:=by
 have own:T.get .no id h=.map _ _:=H.own _ (Zaa hk);obtain ⟨_,r2⟩:=zqd ha ks 0 hks;show bZ (T.get .no id h) _ _=_;rw [own]
 show (match gF .str (.str (ku (a,false))) (sZ ks) with
    | some (some (i,_))=>T.xq (β:=OP) Blk.no (Blk.map (sZ ks).length ((sZ ks).modify i fun e=>(e.1,AV.bool true))) id h fun h'=>K .undef h' nx
    | some none=>qy ((sZ ks).length+1) fun n=>T.xq (β:=OP) Blk.no (Blk.map n (sZ ks++[(AV.str (ku (a,false)),AV.bool true)])) id h fun h'=>K .undef h' nx
    | none=>Out.no 45)=_
 rw [show gF .str (.str (ku (a,false))) (sZ ks)=uC .str (.str (ku (a,false))) (sZ ks) 0 from rfl,r2 hna];simp only [yF,T.yj];refine hK _ (H.upd hk (by simp [Ob.names]) rfl ?_);show T.get Blk.no id _=Blk.map _ _;rw [T.get_set_same];simp [sZ]
theorem zmg {cells:Int} {lines:List (List Int)} {h0 h:T Blk} {nx p:Pa} {L:List Ob} {K:Kw Prop} (H:Hp h0 h nx L) (hn:lines.length<=1000000) (hnd:lines.Nodup) (hb:∀ l∈lines,RB l/\l.length<=1000)
  (hK:∀ gm b b1 h' nx',Hp h0 h' nx' (.arr b [.map gm]::.map gm (sZ lines)::.arr b1 [I cells,pz lines]::L)->K (.fn 137 (.of 137) [.ptr b 0]) h' nx'=.ok True):(CS Tryz.prog B).fn 74 p [.agg [I cells,pz lines]] h nx K=.ok True:=by
 refine yE (p:=.of 74) (K:=K) (zM zP yh 10000000 fun hf => ?_) fun _ _ _ _ q=>q;rw [F74.go,F74.t20,zA,F74.fG];refine H.box (l:=[I cells,pz lines]) rfl fun b1 h1 nx1 H1 => ?_;rw [F74.t19,zA,F74.fK];refine H1.rF fun gm h2 nx2 H2 => ?_;refine H2.alloc fun b3 h3 nx3 H3 => ?_;refine H3.store (k:=0) rfl (by simp) rfl fun h4 H4 => ?_;rw [F74.t18,zA,F74.t15,zA,F74.rE,sFx,H4.load (k:=2) (i:=0+1) rfl rfl,zL,F74.t14,yI];refine F74.zmp (fun m x7 h' nx'=>∃ i:Nat,x7=I i/\m=lines.length-i/\i<=lines.length/\Hp h0 h' nx' (.arr b3 [.map gm]::.map gm (sZ (lines.take i))::.arr b1 [I cells,pz lines]::L)) (m:=lines.length) (by omega) ⟨0,rfl,by omega,by omega,H4⟩ ?_;rintro m z4 z7 z8 h5 nx5 R ⟨i,rfl,rfl,hi,H5⟩ hR;rw [F74.t12,zA,F74.aI,jk];by_cases hlt:i<lines.length
 case neg =>
  rw [decide_eq_false (by omega),F74.t11,zA,F74.t4,zR,F74.v8,zE,jP,uD,F74.t17,zA,F74.zae];simp only [yA,yP];rw [F74.ret];rw [Zap (by omega)] at H5;exact hK gm b3 b1 _ _ H5
 have hx:lines[i]? = some lines[i]:=List.getElem?_eq_getElem hlt;obtain ⟨hrb,hll⟩:=hb _ (Zal hlt);have hnew:lines[i]∉lines.take i:=fun q=>by
  obtain ⟨j,hj⟩:=List.getElem?_of_mem q;have hjl:=(List.getElem?_eq_some_iff.1 hj).1;rw [Zaz] at hjl;rw [List.getElem?_take_of_lt (by omega)] at hj;have:=List.pairwise_iff_getElem.1 hnd j i (by omega) hlt (by omega);rw [List.getElem?_eq_getElem (by omega)] at hj;exact this (Option.some.inj hj)
 have hld:∀ op:AV->OP,zB (.ptr b3 0) h5 op=op (.map gm):=fun op=>H5.load (k:=0) (i:=0) rfl rfl;have ebd:∀ op:AV->OP,y9 [.zh,.bool false] [(0,1,encI lines[i])] op=op (.agg [encI lines[i],.bool false]):=fun op=>nr rfl;rw [decide_eq_true (by omega),F74.t11,zA,F74.t4,zR,F74.v8,zD,yB,F74.t10,zA,F74.t8,yI,F74.t7,zA,F74.eH,cZ rfl hlt,ldL (getT hx),F74.tY,hld,ebd];refine pC (a:=(lines[i],false)) hrb hll _ _ _ _ ?_;rintro _ rfl _;rw [hld,zC];refine H5.zz4 hrb (fun b hb'=>(hb b (Zcf hb')).1) hnew (k:=1) rfl fun h6 H6 => ?_;rw [F74.ak,jf (by omega)];refine hR (lines.length-(i+1)) _ _ _ _ _ (by omega) ⟨i+1,rfl,rfl,by omega,?_⟩;have e:lines.take (i+1)=lines.take i++[lines[i]]:=by rw [Zaq,hx];rfl
 rw [e];exact H6
def imL (p l:List Int):List Int:=l.map fun x=>p.getD x.toNat 0
theorem zqe (p l:List Int) (x:Int):imL p (l++[x])=imL p l++[p.getD x.toNat 0]:=by unfold imL;rw [Zbk];rfl
theorem zxa {p l:List Int} (hp:RB p) (hl:∀ x∈l,0<=x/\x<(p.length:Int)):RB (imL p l):=fun y hy=>by
 obtain ⟨x,hx,rfl⟩:=List.mem_map.1 hy;obtain ⟨h1,h2⟩:=hl x hx;refine hp _ ?_;show p.getD x.toNat 0∈p;rw [Zab,List.getElem?_eq_getElem (by omega)];exact Zal _
theorem ztk {p l:List Int} {lines:List (List Int)} {h0 h:T Blk} {nx p0 b gm:Pa} {L:List Ob} {K:Kw Prop} (H:Hp h0 h nx (.arr b [.map gm]::.map gm (sZ lines)::L)) (hp:RB p) (hl:∀ x∈l,0<=x/\x<(p.length:Int)) (hl1:1<=l.length) (hl2:l.length<=1000) (hks:∀ q∈lines,RB q)
  (hK:∀ h' nx',Hp h0 h' nx' (.arr b [.map gm]::.map gm (sZ lines)::L)->K (.bool (decide (srt (imL p l)∈lines))) h' nx'=.ok True):(CS Tryz.prog B).fn 137 p0 [encI p,encI l,.ptr b 0] h nx K=.ok True:=by
 refine yE (p:=.of 137) (K:=K) (zM zP yh 10000000 fun hf => ?_) fun _ _ _ _ q=>q;rw [zx.go,zx.t22,zA,zx.fG,zx.t21,zA,zx.fK,zx.t20,zA,zx.t15,zA,zx.rE,zL,zx.t14,yI];refine zx.zmp (fun m x4 x8 h' nx'=>∃ (i:Nat) (o:Option Pa),x8=I i/\x4=xu o 1 i/\m=l.length-i/\i<=l.length/\Hp h0 h' nx' (.gro o 1 i ((imL p (l.take i)).map I)::.arr b [.map gm]::.map gm (sZ lines)::L)) (m:=l.length) (by omega) ⟨0,none,rfl,rfl,by omega,by omega,H.oh 1⟩ ?_;rintro m z4 z5 z8 z9 h5 nx5 R ⟨i,o,rfl,rfl,rfl,hi,H5⟩ hR;rw [zx.t12,zA,zx.aI,jk];by_cases hlt:i<l.length
 case pos =>
  have hx:l[i]? = some l[i]:=List.getElem?_eq_getElem hlt;obtain ⟨a1,a2⟩:=hl _ (Zal hlt);have hpx:p[l[i].toNat]? = some (p.getD l[i].toNat 0):=by rw [Zab,List.getElem?_eq_getElem (by omega)];rfl
  rw [decide_eq_true (by omega),zx.t11,zA,zx.t4,zR,zx.v9,zD,yB,zx.t10,zA,zx.t8,yI,zx.t7,zA,zx.eH,cZ rfl hlt,ldL (rJ hx),zx.tY,cZ (i:=l[i].toNat) (by omega) (by omega),ldL (rJ hpx)];refine H5.yc (l:=[I (p.getD l[i].toNat 0)]) rfl fun tb h15 nx15 H15 => ?_;refine H15.appN (k:=1) (o:=o) (c:=1) (esz:=1) (new:=[I (p.getD l[i].toNat 0)]) rfl (yw.rd (l:=[I (p.getD l[i].toNat 0)]) (n:=1) (e:=1) (H15.own _ (Zaj ..)) rfl) rfl rfl (by decide) (by decide) (by omega) fun o'' h16 nx16 _ H16 => ?_;rw [zx.ak,jf (by omega)];refine hR (l.length-(i+1)) _ _ _ _ _ _ (by omega) ⟨i+1,o'',rfl,rfl,rfl,by omega,?_⟩;have e:(imL p (l.take (i+1))).map I=(imL p (l.take i)).map I++[I (p.getD l[i].toNat 0)]:=by
   rw [Zaq,hx];show (imL p (l.take i++[l[i]])).map I=_;rw [zqe,Zbk];rfl
  rw [e];exact H16.drop
 obtain rfl:i=l.length:=by omega
 rw [Zap (Zai _)] at H5;obtain ⟨id,rfl⟩:∃ id,o=some id:=by
  cases o with
  | some id=>exact ⟨id,rfl⟩
  | none=>obtain ⟨h1,h2⟩:=H5.own _ (Zaj ..);omega
 rw [decide_eq_false (by omega),zx.t11,zA,zx.t4,zR,zx.v9,zE,jP,uD,zx.t19,zA,zx.zae];refine ztj H5 (k:=0) rfl (by omega) fun h6 H6 => ?_;have hsl:(srt (imL p l)).length=l.length:=by rw [(qA _).length_eq];exact Zas _
 have hrb:RB (srt (imL p l)):=fun x hx=>zxa hp hl x ((qA _).mem_iff.1 hx);have ebd:∀ op:AV->OP,y9 [.zh,.bool false] [(0,1,xu (some id) 1 l.length)] op=op (.agg [xu (some id) 1 l.length,.bool false]):=fun op=>nr rfl;rw [zx.t18,zA,zx.eU,H6.load (k:=1) (i:=0) rfl rfl,ebd];obtain ⟨h7,hkp,H7,hfz⟩:=Hp.zv2 (o:=some id) (e:=1) (n:=l.length) (l:=(srt (imL p l)).map I) H6 fun v hv=>by obtain ⟨a,_,rfl⟩:=List.mem_map.1 hv;rfl
 have hfz2:FrzL h7 h6 [.agg [xu (some id) 1 l.length,.bool false]] [encS (srt (imL p l),false)]:=by
  have e:AV.lst 1 l.length ((srt (imL p l)).map I)=encI (srt (imL p l)):=by rw [<- hsl]
  rw [e] at hfz;exact .cons (mC hfz (zK rfl) rfl) .nil
 refine zvy hkp hfz2 (pC (a:=(srt (imL p l),false)) hrb (show (srt (imL p l)).length<=1000 by omega) _ _ _ _ ?_);rintro _ rfl _;have hld:∀ op:AV->OP,zB (.ptr b 0) h7 op=op (.map gm):=fun op=>H7.load (k:=0) (i:=0) rfl rfl;rw [hld,zC,zz3 hrb hks H7 (k:=1) rfl];simp only [yA,yP];rw [zx.ret];exact hK _ _ H7
end Go.Ev
namespace Go.Ev
theorem bM {cells:Int}:∀ {r prev:List (List Int)},qC cells prev r=0->(∀ l∈r,l≠[]/\jT cells none l=0/\l∉prev)/\r.Nodup
 | [],_,_=>⟨fun l hl=>(by cases hl),.nil⟩
 | l::r,prev,h=>by
  rw [qC] at h;by_cases c:uV cells prev l=0
  case neg=>rw [if_pos c] at h;exact absurd h c
  rw [if_neg (fun q=>q c)] at h;obtain ⟨h1,h2⟩:=bM h;have hl:l≠[]/\jT cells none l=0/\l∉prev:=by
   rw [uV] at c;by_cases c1:l=[]
   ·rw [if_pos c1] at c;cases c
   rw [if_neg c1] at c;by_cases c2:jT cells none l=0
   case neg=>rw [if_pos c2] at c;exact absurd c c2
   rw [if_neg (fun q=>q c2)] at c;by_cases c3:l∈prev
   ·rw [if_pos c3] at c;cases c
   ·exact ⟨c1,c2,c3⟩
  refine ⟨fun q hq => ?_,List.nodup_cons.2 ⟨fun q=>(h1 l q).2.2 (by simp),h2⟩⟩;rcases List.mem_cons.1 hq with rfl | hq
  ·exact hl
  ·exact ⟨(h1 q hq).1,(h1 q hq).2.1,fun z=>(h1 q hq).2.2 (by simp [z])⟩
theorem bS {cells:Int}:∀ {l:List Int} {p:Option Int},jT cells p l=0->(∀ x∈l,0<=x/\x<cells)/\l.Pairwise (· < ·)/\∀ q,p=some q->∀ x∈l,q<x
 | [],p,_=>⟨fun x hx=>(by cases hx),.nil,fun q _ x hx=>(by cases hx)⟩
 | c::l,p,h=>by
  rw [jT] at h;by_cases c1:c<0\/cells<=c
  ·rw [if_pos c1] at h;cases h
  rw [if_neg c1] at h;by_cases c2:p.any (fun q=>decide (c<=q))=true
  ·rw [if_pos c2] at h;cases h
  rw [if_neg c2] at h;obtain ⟨h1,h2,h3⟩:=bS h;have hp:∀ q,p=some q->q<c:=fun q hq=>by
   subst hq;have:¬ c<=q:=fun z=>c2 (decide_eq_true z);omega
  refine ⟨fun x hx => ?_,List.pairwise_cons.2 ⟨fun x hx=>h3 c rfl x hx,h2⟩,fun q hq x hx => ?_⟩
  ·rcases List.mem_cons.1 hx with rfl | hx
   ·omega
   ·exact h1 x hx
  ·rcases List.mem_cons.1 hx with rfl | hx
   ·exact hp q hq
   ·have:=hp q hq;have:=h3 c rfl x hx;omega
theorem zmh {cells:Int} {lines:List (List Int)} (h:gA cells lines=0):1<=cells/\cells<=256/\lines.length<=128/\lines.Nodup/\∀ l∈lines,l≠[]/\(∀ x∈l,0<=x/\x<cells)/\l.Pairwise (· < ·):=by
 rw [gA] at h;by_cases c1:cells<1\/256<cells
 ·rw [if_pos c1] at h;cases h
 rw [if_neg c1] at h;by_cases c2:128<lines.length
 ·rw [if_pos c2] at h;cases h
 rw [if_neg c2] at h;obtain ⟨h1,h2⟩:=bM h;refine ⟨by omega,by omega,by omega,h2,fun l hl => ?_⟩;obtain ⟨a,b,_⟩:=h1 l hl;obtain ⟨d,e,_⟩:=bS b;exact ⟨a,d,e⟩
end Go.Ev
namespace Go.Ev
open Go Go.Proofs
variable {B:Nat}
set_option maxRecDepth 100000
theorem zqf {l:List Int} {n:Int} (h:∀ x∈l,0<=x/\x<n) (ha:l.Pairwise (· < ·)) (hn:n<=256):l.length<=256:=by
 have hnd:l.Nodup:=ha.imp fun h e=>by omega
 have:=lenG hnd (r:=(List.range 256).map fun k:Nat=>(k:Int)) fun x hx=>by
  obtain ⟨a,b⟩:=h x hx;exact List.mem_map.2 ⟨x.toNat,List.mem_range.2 (by omega),by omega⟩
 simpa using this
def zkm (lines:List (List Int)) (p:List Int):Bool:=lines.all fun l=>decide (srt (imL p l)∈lines)
def bO (cells:Int) (lines:List (List Int)) (p:List Int):Int:=if gA cells lines≠0 then gA cells lines else jK p cells
def zdl (cells:Int) (lines:List (List Int)) (p:List Int):AV:=if bO cells lines p≠0 then .tup [.bool false,I (bO cells lines p)] else .tup [.bool (zkm lines p),I 0]
theorem zkn {cells:Int} {lines:List (List Int)} {p:List Int} {c:Bool} (hw:∀ q∈lines,q.length<=1000000) (hpl:p.length<=100000):Pure Tryz.prog B 27 [.agg [I cells,pz lines],.agg [encI p,.bool c]] (· = zdl cells lines p):=by
 refine yC fun h nx K H0 hK=>zM zP yh 10000000 fun hf' => ?_;rw [F27.go,F27.t32,zA,F27.fG];refine H0.box (l:=[I cells,pz lines]) rfl fun b2 h1 nx1 H1 => ?_;refine H1.box (l:=[encI p,.bool c]) rfl fun b3 h2 nx2 H2 => ?_;have l1:∀ op:AV->OP,zN 2 (.ptr b2 0) h2 op=op (.agg [I cells,pz lines]):=fun op=>H2.zk (k:=1) (n:=2) rfl rfl;have l2:∀ op:AV->OP,zN 2 (.ptr b3 0) h2 op=op (.agg [encI p,.bool c]):=fun op=>H2.zk (k:=0) (n:=2) rfl rfl;have l3:∀ op:AV->OP,zB (.ptr b2 (0+0)) h2 op=op (I cells):=fun op=>H2.load (k:=1) (i:=0+0) rfl rfl;rw [F27.t31,zA,F27.t7,zA,F27.fK];simp only [l1,l2,sFx,l3];refine zzk hw _ _ _ _ ?_;rintro _ rfl _;simp only [l1,l2,sFx,l3,zC];refine zim (g:=p) (c:=c) hpl _ _ _ _ ?_;rintro _ rfl _;refine H2.yc (l:=[I (gA cells lines),I (jK p cells)]) rfl fun tb h5 nx5 H5 => ?_;refine u9 (l:=[gA cells lines,jK p cells]) H5 (k:=0) rfl (fun B=>vP (by simp)) (fun v hv=>by rw [hv];exact .int _ _) ?_;rintro _ rfl;have e1:gQ [gA cells lines,jK p cells]=bO cells lines p:=by
  unfold bO;show (if gA cells lines≠0 then gA cells lines else if jK p cells≠0 then jK p cells else 0)=_;by_cases z:gA cells lines=0 <;> by_cases z2:jK p cells=0 <;> simp [z,z2]
 rw [e1,F27.t6,zA,F27.rE,qm,F27.t5,zR,F27.v9];by_cases c1:bO cells lines p=0
 case neg =>
  rw [decide_eq_false c1,Zah,zD,F27.t4,zA,F27.aI];simp only [yA,yP];rw [F27.ret];exact hK _ _ _ _ _ H5 (uT (zK rfl) (zK rfl)) (by rw [zdl,if_pos c1])
 have c0:=c1;unfold bO at c0;by_cases z:gA cells lines=0
 case neg=>rw [if_pos z] at c0;exact absurd c0 z
 rw [if_neg (fun q=>q z)] at c0;obtain ⟨n1,n2,n3,n4,n5⟩:=zmh z;obtain ⟨_,s2,s3⟩:=dC c0;have hrb:∀ l∈lines,RB l:=fun l hl x hx=>by have:=(n5 l hl).2.1 x hx;omega
 have hpb:RB p:=fun x hx=>by have:=s3.2 x hx;omega
 have hll:∀ l∈lines,l.length<=256:=fun l hl=>zqf (n5 l hl).2.1 (n5 l hl).2.2 n2;rw [decide_eq_true c1,Zaf,zE,yB,F27.t30,zA,F27.oL,H5.zk (k:=2) (n:=2) rfl rfl];refine zmg H5 (by omega) n4 (fun l hl=>⟨hrb l hl,by have:=hll l hl;omega⟩) fun gm b b1 h6 nx6 H6 => ?_;rw [F27.t29,zA,F27.t26,zA,F27.ak,sFx,H6.load (k:=5) (i:=0+1) rfl rfl,zL,F27.t25,yI];have H7:Hp h h6 nx6 (.arr b [.map gm]::.map gm (sZ lines)::[.arr b1 [I cells,pz lines],.arr tb [I (gA cells lines),I (jK p cells)],.arr b3 [encI p,.bool c],.arr b2 [I cells,pz lines]]):=H6;refine F27.zmq (fun m x12 h' nx'=>∃ i:Nat,x12=I i/\m=lines.length-i/\i<=lines.length/\(lines.take i).all (fun l=>decide (srt (imL p l)∈lines))=true/\Hp h h' nx' (.arr b [.map gm]::.map gm (sZ lines)::[.arr b1 [I cells,pz lines],.arr tb [I (gA cells lines),I (jK p cells)],.arr b3 [encI p,.bool c],.arr b2 [I cells,pz lines]])) (m:=lines.length) (by omega) ⟨0,rfl,by omega,by omega,by simp,H7⟩ ?_;rintro m z4 z5 z8 z12 z13 z14 h8 nx8 R ⟨i,rfl,rfl,hi,hal,H8⟩ hR;rw [F27.t23,zA,F27.tq,jk];by_cases hlt:i<lines.length
 case neg =>
  rw [Zap (by omega)] at hal;rw [decide_eq_false (by omega),F27.t22,zA,F27.t11,zR,F27.v13,zE,jP,uD,F27.t28,zA,F27.zxg];simp only [yA,yP];rw [F27.ret];exact hK _ _ _ _ _ H8 (uT (zK rfl) (zK rfl)) (by rw [zdl,if_neg (fun q=>q c1),zkm,hal])
 have hx:lines[i]? = some lines[i]:=List.getElem?_eq_getElem hlt;have hm:=Zal hlt;obtain ⟨m1,m2,m3⟩:=n5 _ hm;have hpos:1<=lines[i].length:=by
  cases q:lines[i] with
  | nil=>exact absurd q m1
  | cons a l=>simp
 rw [decide_eq_true (by omega),F27.t22,zA,F27.t11,zR,F27.v13,zD,yB,F27.t21,zA,F27.t19,yI,F27.t18,zA,F27.eP,cZ rfl hlt,ldL (getT hx),F27.t17,zA,F27.zad,sFx,H8.load (k:=4) (i:=0+0) rfl rfl];show (CS Tryz.prog B).fn 137 (.of 137) [encI p,encI lines[i],.ptr b 0] h8 nx8 _=_;refine ztk H8 hpb (fun x hx=>by have:=m2 x hx;omega) hpos (by have:=hll _ hm;omega) hrb fun h9 nx9 H9 => ?_;rw [yW,F27.t16,zR,F27.v14];by_cases d:srt (imL p lines[i])∈lines
 ·rw [decide_eq_true d,Zaf,zE,yB,F27.ze1,jf (by omega)];exact hR (lines.length-(i+1)) _ _ _ _ _ _ _ _ (by omega) ⟨i+1,rfl,rfl,by omega,zcq hx hal (decide_eq_true d),H9⟩
 ·rw [decide_eq_false d,Zah,zD,F27.t15,zA,F27.aS];simp only [yA,pN,yP];rw [F27.ret];refine hK _ _ _ _ _ H9 (uT (zK rfl) (zK rfl)) ?_;have:zkm lines p=false:=Bool.eq_false_iff.2 fun q=>d (of_decide_eq_true (List.all_eq_true.1 q _ hm));rw [zdl,if_neg (fun q=>q c1),this]
end Go.Ev
namespace Go.Ev
def cst (x:Nat):Nat:=if x=1 then 0 else x
abbrev nxt (p:List Int) (c:Nat):Nat:=(p.getD c 0).toNat
def itN (p:List Int):Nat->Nat->Nat
 | 0,c=>c
 | k+1,c=>nxt p (itN p k c)
theorem zko (p:List Int):∀ a b c,itN p (a+b) c=itN p a (itN p b c)
 | 0,b,c=>by rw [Zav];rfl
 | a+1,b,c=>by rw [Nat.succ_add];show nxt p (itN p (a+b) c)=nxt p (itN p a (itN p b c));rw [zko p a b c]
structure PN (p:List Int):Prop where
 lt:∀ i,i<p.length->nxt p i<p.length
 inj:∀ i j,i<p.length->j<p.length->nxt p i=nxt p j->i=j
structure Cl (p:List Int) (S:List Nat):Prop where
 nd:S.Nodup
 lt:∀ x∈S,x<p.length
 cl:∀ x∈S,nxt p x∈S
theorem Cl.back {p:List Int} (h:PN p) {S:List Nat} (C:Cl p S) {x:Nat} (hx:x<p.length) (hn:nxt p x∈S):x∈S:=by
 have nd:(S.map (nxt p)).Nodup:=by
  rw [List.Nodup,Zbl];refine (List.Pairwise.and_mem.1 C.nd).imp ?_;rintro a b ⟨ha,hb,hab⟩ q;exact hab (h.inj a b (C.lt a ha) (C.lt b hb) q)
 have:=allG nd (fun y hy=>by obtain ⟨z,hz,rfl⟩:=List.mem_map.1 hy;exact C.cl z hz) (by simp) _ hn;obtain ⟨y,hy,e⟩:=List.mem_map.1 this;rw [<- h.inj y x (C.lt y hy) hx e];exact hy
structure zuu (p:List Int) (r h:Nat):Prop where
 pos:0<r
 back:itN p r h=h
 min:∀ j,0<j->j<r->itN p j h≠h
theorem zuu.mul {p:List Int} {r b:Nat} (c:zuu p r b):∀ q,itN p (q*r) b=b
 | 0=>by rw [Nat.zero_mul];rfl
 | q+1=>by rw [Nat.succ_mul,zko,c.back,c.mul q]
end Go.Ev
namespace Go.Ev
open Go Go.Proofs
variable {B:Nat}
set_option maxRecDepth 100000
theorem zz5 {a b:Int} {K:AV->OP} (h0:b≠0) (h : -9223372036854775808<=a.tdiv b/\a.tdiv b<=9223372036854775807):zf .quo .int (I a) (I b) K=K (I (a.tdiv b)):=by
 have e:zf .quo .int (I a) (I b) K=(bif ieq b 0 then Out.no 5 else wo (IntKind.wrap .i64 (a.tdiv b)) fun z=>K (.int .i64 z)):=rfl;rw [e,wD];have hb:(b==0)=false:=by simpa using h0
 rw [hb,cond_false,j8];have hw:IntKind.wrap .i64 (a.tdiv b)=a.tdiv b:=by simpa [kX] using uJ h
 rw [hw]
theorem zi4 {a b:Nat} {K:AV->OP} (hb:0<b):zf .rem .int (I (a:Int)) (I (b:Int)) K=K (I ((a%b:Nat):Int)):=by
 have e:zf .rem .int (I (a:Int)) (I (b:Int)) K=(bif ieq (b:Int) 0 then Out.no 5 else wo ((a:Int).tmod b) fun z=>K (.int .i64 z)):=rfl;have h0:ieq (b:Int) 0=false:=by rw [wD,beq_eq_false_iff_ne];omega
 rw [e,h0,cond_false,j8];rfl
theorem zi5 {a b:Nat} {K:AV->OP} (ha:a<=9223372036854775807) (hb:0<b):zf .quo .int (I (a:Int)) (I (b:Int)) K=K (I ((a / b:Nat):Int)):=by
 have h1:(a:Int).tdiv b=((a / b:Nat):Int):=by rw [Int.tdiv_eq_ediv_of_nonneg (by omega)];simp
 have h2:a / b<=a:=Nat.div_le_self a b;rw [zz5 (by omega) (by rw [h1];generalize a / b=q at *;omega),h1]
abbrev zI (T:List Nat):List Int:=T.map fun k:Nat=>(k:Int)
def appE (a:Sym) (f:List Int):Int:=if wN f≠0 then wN f else if jK a.1 f.length≠0 then jK a.1 f.length else uY (jH a.2 a.1 f)
def appV (a:Sym) (f:List Int):AV:=if appE a f≠0 then .tup [.zh,I (appE a f)] else .tup [encI (jH a.2 a.1 f),I 0]
theorem zg2 {a:Sym} {f:List Int} (ha:a.1.length<=100000) (hl:f.length<=100000):Pure Tryz.prog B 22 [encS a,encI f] (· = appV a f):=by
 refine yC fun h nx K H0 hK=>zM zP yh 10000 fun hf' => ?_;have hal:(jH a.2 a.1 f).length=f.length:=zdk ..;rw [F22.go,F22.t27,zA,F22.fG];refine H0.box (l:=[encI a.1,.bool a.2]) rfl fun b2 h1 nx1 H1 => ?_;rw [F22.t26,zA,F22.t7,zA,F22.fK]
 (refine zte (by omega) _ _ _ _ ?_;rintro _ rfl _)
 rw [F22.t6,zA,F22.rE,qm,F22.t5,zR,F22.v8];by_cases z:wN f=0
 case neg =>
  rw [decide_eq_false z,Zah,zD,F22.t4,zA,F22.aI];simp only [yA,yP];rw [F22.ret];have e:appE a f=wN f:=if_pos z;exact hK _ _ _ _ _ H1 (uT (zK rfl) (zK rfl)) (by rw [appV,e,if_pos z])
 obtain ⟨f1,f2⟩:=zme z;rw [decide_eq_true z,Zaf,zE,yB,F22.t25,zA,F22.t14,zA,F22.oL,H1.zk (k:=0) (n:=2) rfl rfl,zL];refine zim ha _ _ _ _ ?_;rintro _ rfl _;rw [F22.t13,zA,F22.ak,qm,F22.t12,zR,F22.v9];by_cases y:jK a.1 f.length=0
 case neg =>
  rw [decide_eq_false y,Zah,zD,F22.t11,zA,F22.tq];simp only [yA,yP];rw [F22.ret];have e:appE a f=jK a.1 f.length:=by rw [appE,if_neg (fun q=>q z),if_pos y]
  exact hK _ _ _ _ _ H1 (uT (zK rfl) (zK rfl)) (by rw [appV,e,if_pos y])
 obtain ⟨_,s2,s3⟩:=dC y;have e:appE a f=uY (jH a.2 a.1 f):=by rw [appE,if_neg (fun q=>q z),if_neg (fun q=>q y)]
 rw [decide_eq_true y,Zaf,zE,yB,F22.t24,zA,F22.zas,H1.zk (k:=0) (n:=2) rfl rfl];refine zqa (g:=a.1) (c:=a.2) (by omega) (by omega) s3 (fun y hy=>by have:=f2 y hy;omega) _ _ _ _ ?_;rintro _ rfl _;rw [F22.t23,zA,F22.t20,zA,F22.zae];refine zb4 (l:=jH a.2 a.1 f) (by omega) (fun x _ K hK=>zqb x _ _ _ _ fun v hv _=>by rw [hv];exact hK) ?_;rw [F22.t19,zR,F22.v10];cases hnf:(jH a.2 a.1 f).any aQ with
 | true =>
  have e2:uY (jH a.2 a.1 f)=3:=by rw [uY,hnf];rfl
  rw [zD,F22.t18,zA,F22.eU];simp only [yA,yP];rw [F22.ret];exact hK _ _ _ _ _ H1 (uT (zK rfl) (zK rfl)) (by rw [appV,e,e2];rfl)
 | false =>
  have e2:uY (jH a.2 a.1 f)=0:=by rw [uY,hnf];rfl
  rw [zE,yB,F22.t22,zA,F22.zmm];simp only [yA,yP];rw [F22.ret];exact hK _ _ _ _ _ H1 (uT (zK (uM _)) (zK rfl)) (by rw [appV,e,e2];rfl)
theorem fixI (l:List Int):∀ v∈l.map I,fH v=true:=fun v hv=>by obtain ⟨x,_,rfl⟩:=List.mem_map.1 hv;rfl
theorem QV.at {v:AV} {o:Ob} {q:List Sym} {i:Nat} (h:QV v o q) (hi:i<q.length):∃ id off,(∀ op:AV->OP,zS 2 v (I (i:Int)) op=op (.ptr id off))/\∀ {h0 hh:T Blk} {nx:Pa} {L:List Ob} {k:Nat},Hp h0 hh nx L->L[k]? = some o->∀ op:AV->OP,zN 2 (.ptr id off) hh op=op (encS q[i]):=by
 have hq:∃ a t,q=a::t:=by cases q with
  | nil=>simp at hi
  | cons a t=>exact ⟨a,t,rfl⟩
 obtain ⟨a,t,rfl⟩:=hq;obtain ⟨id,off,cap,l,rfl,g3,g4,g⟩:=h.cells;refine ⟨id,off+i*2,fun op=>qQ hi,fun {h0 hh nx L k} H hk op => ?_⟩;obtain ⟨op',t',g1,g2⟩:=g hh (H.own _ (Zaa hk));show jh (T.get .no id hh) _ _=_;rw [g1];show (bif Nat.ble (off+i*2+2) l.length then op (.agg (zY t' (off+i*2) 2)) else .no 8)=_;rw [Zac (by omega),cond_true];have e:∀ j,j<l.length->T.get .undef (.of j) t'=l.getD j .undef:=fun j hj=>by
  have:=zW t' 0 l.length j hj;rw [g2,Zav] at this;rw [Zab,this];rfl
 have d:∀ j,j<2->l.getD (off+i*2+j) .undef=((yY (a::t)).drop (i*2)).getD j .undef:=fun j hj=>by
  rw [<- g4,Zab,Zab,List.getElem?_drop,List.getElem?_take_of_lt (by omega),List.getElem?_drop]
  congr 2;omega
 have e2:zY t' (off+i*2) 2=[T.get .undef (.of (off+i*2)) t',T.get .undef (.of (off+i*2+1)) t']:=rfl;have d0:=d 0 (by omega);rw [Nat.add_zero] at d0;rw [e2,e _ (by omega),e _ (by omega),d 1 (by omega),d0,uZ hi]
 rfl
theorem QV.frzE {v:AV} {o:Ob} {q:List Sym} (h:QV v o q) (hq:q≠[]) {hh hz:T Blk} (ho:o.holds hh) (hn:∀ id,id∈o.names->T.get .no id hz=.no):rH hz hh v (fB q):=by
 obtain ⟨a,t,rfl⟩:∃ a t,q=a::t:=by cases q with
  | nil=>exact absurd rfl hq
  | cons a t=>exact ⟨a,t,rfl⟩
 have key:∀ (id:Pa) (off:Nat) (cap:Option Nat) (l:List AV),v=.sl id off (a::t).length cap 2->vW (a::t).length cap->id∈o.names->off+(a::t).length*2<=l.length->(l.drop off).take ((a::t).length*2)=yY (a::t)->(∃ op tt,T.get .no id hh=.cells op l.length tt/\zY tt 0 l.length=l)->rH hz hh v (fB (a::t)):=by
  rintro id off cap l rfl hc hid g3 g4 ⟨op,tt,g1,g2⟩;refine .sl _ _ _ _ _ op _ tt _ (hn id hid) hc g1 g3 (gO _) (zi3 _) fun i x hx => ?_;have hil:i<(a::t).length*2:=by have:=(List.getElem?_eq_some_iff.1 hx).1;rwa [gO] at this
  have:=zW tt 0 l.length (off+i) (by omega);rw [g2,Zav] at this;rw [<- g4,List.getElem?_take_of_lt hil,List.getElem?_drop,this] at hx;rw [Option.some.inj hx];exact zK (pJ x (by rw [<- g4];exact Zaa (i:=i) (by rw [List.getElem?_take_of_lt hil,List.getElem?_drop,this,Option.some.inj hx])))
 cases h with
 | cap id off l _ h1 h2=>exact key id off _ l rfl (Zai _) (by simp [Ob.names]) h1 h2 ho
 | opn id off m l _ h1 h2 h3 =>
  obtain ⟨tt,g1,g2,g3⟩:=ho;exact key id off _ l rfl trivial (by simp [Ob.names]) (by omega) (by rw [h3,Zap (by rw [gO];exact Zai _)]) ⟨true,tt,by rw [g1,h2],by rw [h2];exact g3⟩
end Go.Ev
namespace Go.Ev
open Go
variable {h0 h:T Blk} {nx:Pa} {L:List Ob}
theorem zkp {α:Type} (L:List α):∀ N:Nat,(List.range N).filterMap (fun k=>L[k]?)=L.take N
 | 0=>rfl
 | N+1=>by
  rw [List.range_succ,List.filterMap_append,zkp L N,Zaq];cases h:L[N]? <;> simp [h]
theorem Hp.zqg:∀ (E:List Ob) {L:List Ob},Hp h0 h nx (E++L)->Hp h0 h nx L
 | [],_,H=>H
 | _::E,_,H=>Hp.zqg E H.drop
theorem Hp.pick (N:Nat) (ks:List Nat) (H:Hp h0 h nx L) (hk:ks.Nodup) (hl:∀ k∈ks,k<N):Hp h0 h nx (ks.filterMap (fun k=>L[k]?)++L.drop N):=by
 obtain ⟨s,hs⟩:=subG ks (List.range N) hk fun k hk=>List.mem_range.2 (hl k hk);have h1:=hs.filterMap (fun k=>L[k]?);rw [zkp,List.filterMap_append] at h1;have h2:L.Perm (s.filterMap (fun k=>L[k]?)++(ks.filterMap (fun k=>L[k]?)++L.drop N)):=by
  have:=(h1.trans List.perm_append_comm).append_right (L.drop N);rw [List.take_append_drop,Zbp] at this;exact this
 exact (H.perm h2).zqg
end Go.Ev
namespace Go.Ev
open Go Go.Proofs
variable {B:Nat}
set_option maxRecDepth 100000
theorem zuv {m:Nat} (hm:m<=256) {a:Sym} (ha:DS m a):∀ (ps:List (AV×Sym)) (i:Nat),(∀ b∈ps,DS m b.2)->(∀ b∈ps,b.2≠a)->uC .str (.str (ku a)) (fM ps) i=some none
 | [],i,_,_=>rfl
 | b::ps,i,h1,h2=>by
  have e:uC .str (.str (ku a)) (fM (b::ps)) i=(match some (jD (ku a) (ku b.2)) with
   | some true=>some (some (i,agP b))
   | some false=>uC .str (.str (ku a)) (fM ps) (i+1)
   | none=>none):=rfl
  have hb:jD (ku a) (ku b.2)=false:=by
   cases q:jD (ku a) (ku b.2) with
   | false=>rfl
   | true=>exact absurd (zgl hm ha (h1 b (by simp)) (qp.1 q)).symm (h2 b (by simp))
  rw [e,hb];exact zuv hm ha ps (i+1) (fun c hc=>h1 c (by simp [hc])) fun c hc=>h2 c (by simp [hc])
theorem Hp.putP {m:Nat} (hm:m<=256) {p:AV×Sym} (ha:DS m p.2) {ps:List (AV×Sym)} (hps:∀ b∈ps,DS m b.2) (hna:∀ b∈ps,b.2≠p.2) {K:AV->T Blk->Pa->OP} {h0 h:T Blk} {nx:Pa} {L:List Ob} {k:Nat} {id:Pa} (H:Hp h0 h nx L) (hk:L[k]? = some (.map id (fM ps)))
  (hK:∀ h',Hp h0 h' nx (L.set k (.map id (fM (ps++[p]))))->K .undef h' nx=.ok True):xP .str (.map id) (.str (ku p.2)) (agP p) h nx K=.ok True:=by
 have own:T.get .no id h=.map _ _:=H.own _ (Zaa hk);have r2:=zuv hm ha ps 0 hps hna;show bZ (T.get .no id h) _ _=_;rw [own]
 show (match gF .str (.str (ku p.2)) (fM ps) with
    | some (some (i,_))=>T.xq (β:=OP) Blk.no (Blk.map (fM ps).length ((fM ps).modify i fun e=>(e.1,agP p))) id h fun h'=>K .undef h' nx
    | some none=>qy ((fM ps).length+1) fun n=>T.xq (β:=OP) Blk.no (Blk.map n (fM ps++[(AV.str (ku p.2),agP p)])) id h fun h'=>K .undef h' nx
    | none=>Out.no 45)=_
 rw [show gF .str (.str (ku p.2)) (fM ps)=uC .str (.str (ku p.2)) (fM ps) 0 from rfl,r2];simp only [yF,T.yj];refine hK _ (H.upd hk (by simp [Ob.names]) rfl ?_);show T.get Blk.no id _=Blk.map _ _;rw [T.get_set_same];simp [fM]
def sqV (n:Nat) (mv:Nat->Nat->Nat×Nat) (c:Nat):Int:=(n:Int)*(((mv (c / n) (c%n)).1:Nat):Int)+(((mv (c / n) (c%n)).2:Nat):Int)
def sqM (n:Nat) (mv:Nat->Nat->Nat×Nat):List Int:=(List.range (n*n)).map (sqV n mv)
theorem zev (n:Nat) (mv:Nat->Nat->Nat×Nat):(sqM n mv).length=n*n:=by simp [sqM]
theorem zdm {n c:Nat} (h:c<n*n):c / n<n:=Nat.div_lt_of_lt_mul h
theorem zqh {n:Nat} {mv:Nat->Nat->Nat×Nat} (hmv:∀ i j,i<n->j<n->(mv i j).1<n/\(mv i j).2<n) {c:Nat} (hc:c<n*n):0<=sqV n mv c/\sqV n mv c<((n*n:Nat):Int):=by
 have hn:0<n:=Nat.pos_of_ne_zero fun q=>by subst q;simp at hc
 obtain ⟨h1,h2⟩:=hmv (c / n) (c%n) (zdm hc) (Nat.mod_lt _ hn);unfold sqV
 generalize (mv (c / n) (c%n)).1=x at *
 generalize (mv (c / n) (c%n)).2=y at *
 have h3:n*x+y<n*n:=by
  have:n*x<=n*(n-1):=Nat.mul_le_mul_left n (by omega);have e:n*(n-1)+n=n*n:=by
   have:=Nat.mul_succ n (n-1);rw [show (n-1).succ=n by omega] at this;omega
  omega
 have e:(n:Int)*((x:Nat):Int)=((n*x:Nat):Int):=(Int.natCast_mul n x).symm;rw [e];omega
theorem zi6 {n:Nat} {mv:Nat->Nat->Nat×Nat} (hmv:∀ i j,i<n->j<n->(mv i j).1<n/\(mv i j).2<n):DS (n*n) (sqM n mv,false) :=
 ⟨zev n mv,fun x hx=>by
  obtain ⟨c,hc,rfl⟩:=List.mem_map.1 hx;exact zqh hmv (List.mem_range.1 hc)⟩
theorem zqi (rb:Pa) (n:Nat) (op:AV->OP):y9 [.zh,.bool false] [(0,1,.sl rb 0 n (some n) 1)] op=op (.agg [.sl rb 0 n (some n) 1,.bool false]):=nr rfl
theorem zqj (a:Sym):nns [encS a]=true:=by
 have h1:nn (encI a.1)=true:=fH.nn (uM a.1);have h2:nn (encS a)=true:=by
  show nns [encI a.1,.bool a.2]=true;rw [nns,h1];rfl
 rw [nns,h2];rfl
abbrev rowP (rb:Pa) (n:Nat) (mv:Nat->Nat->Nat×Nat):AV×Sym:=(.sl rb 0 (n*n) (some (n*n)) 1,(sqM n mv,false))
theorem getA {A L:List Ob} {k:Nat} {x:Ob} (h:L[k]? = some x):(A++L)[A.length+k]? = some x:=by
 rw [List.getElem?_append_right (by omega),Nat.add_sub_cancel_left];exact h
theorem zqk {n fid:Nat} {fp p0 gm:Pa} {caps:List AV} {mv:Nat->Nat->Nat×Nat} {ps:List (AV×Sym)} {h0 h:T Blk} {nx:Pa} {k:Nat} {L:List Ob} {K:Kw Prop} (hn1:1<=n) (hn:n<=16) (hmv:∀ i j,i<n->j<n->(mv i j).1<n/\(mv i j).2<n)
  (hcall:∀ (i j:Nat) (A:List Ob) (h':T Blk) (nx':Pa) (K':Kw Prop),i<n->j<n->Hp h0 h' nx' (A++L)->K' (.tup [I (((mv i j).1:Nat):Int),I (((mv i j).2:Nat):Int)]) h' nx'=.ok True->(CS Tryz.prog B).fn fid fp ([I (i:Int),I (j:Int)]++caps) h' nx' K'=.ok True)
  (hd:∀ b∈ps,DS (n*n) b.2) (hnew:∀ b∈ps,b.2≠(sqM n mv,false)) (H:Hp h0 h nx L) (hk:L[k]? = some (.map gm (fM ps)))
  (hK:∀ xb rb h' nx',Hp h0 h' nx' (.arr xb [.sl rb 0 (n*n) (some (n*n)) 1,.bool false]::.arr rb ((sqM n mv).map I)::L.set k (.map gm (fM (ps++[rowP rb n mv]))))->K (.tup []) h' nx'=.ok True) :
  (CS Tryz.prog B).fn 58 p0 [.map gm,I n,.fn fid fp caps] h nx K=.ok True:=by
 refine yE (p:=.of 58) (K:=K) (zM zP yh 10000000 fun hf => ?_) fun _ _ _ _ q=>q;have hnn:n*n<=256:=by
  have:=Zba hn hn;omega
 have emul:(n:Int)*(n:Int)=((n*n:Nat):Int):=(Int.natCast_mul n n).symm;rw [F58.go,F58.t19,zA,F58.fG,rV (by rw [emul];omega),emul];refine H.mk1 (z:=I 0) (n*n) rfl rfl (by omega) (by decide) fun rb h1 nx1 H1 => ?_;rw [zqi];refine H1.alloc fun xb h2 nx2 H2 => ?_;refine H2.qo (k:=0) (n:=2) rfl rfl rfl fun h3 H3 => ?_;have H3:Hp h0 h3 nx2 (.arr xb [.sl rb 0 (n*n) (some (n*n)) 1,.bool false]::.arr rb (List.replicate (n*n) (I 0))::L):=H3;rw [F58.t18,zA,F58.t16,zA,F58.fK,sFx,H3.load (k:=0) (i:=0+0) rfl rfl,yX,F58.t15,yI];refine F58.zmo (fun m x8 h' nx'=>∃ c:Nat,x8=I c/\m=n*n-c/\c<=n*n/\Hp h0 h' nx' (.arr xb [.sl rb 0 (n*n) (some (n*n)) 1,.bool false]::.arr rb (aC (n*n) fun j:Nat=>if j<c then I (sqV n mv j) else I 0)::L)) (m:=n*n) (by omega) ⟨0,rfl,by omega,by omega,H3.cast (by rw [zbs];rfl)⟩ ?_;rintro m z4 z5 z6 z8 z9 h5 nx5 R ⟨c,rfl,rfl,hc,H5⟩ hR;rw [F58.t13,zA,F58.rE,jk];by_cases hlt:c<n*n
 case pos =>
  have g1:=zdm hlt;have g2:=Nat.mod_lt c (show 0<n by omega);obtain ⟨m1,m2⟩:=hmv _ _ g1 g2;obtain ⟨v1,v2⟩:=zqh hmv hlt;have hsv:(n:Int)*(((mv (c / n) (c%n)).1:Nat):Int)+(((mv (c / n) (c%n)).2:Nat):Int)=sqV n mv c:=rfl;have hmx:n*(mv (c / n) (c%n)).1<=256:=Zbm (Nat.mul_le_mul_left n (Nat.le_of_lt m1)) hnn;have hmx':(n:Int)*(((mv (c / n) (c%n)).1:Nat):Int)=((n*(mv (c / n) (c%n)).1:Nat):Int):=(Int.natCast_mul n _).symm;rw [decide_eq_true (by omega),F58.t12,zA,F58.t3,zR,F58.v9,zD,yB,F58.t11,zA,F58.t9,yI,F58.t8,zA,F58.t4_s,F58.t7,zA,F58.eH,zi5 (by omega) (by omega),zi4 (by omega),j3];refine hcall (c / n) (c%n) [_,_] h5 nx5 _ g1 g2 H5 ?_;rw [jA,jB,F58.tY,sFx,H5.load (k:=0) (i:=0+0) rfl rfl,rV (by rw [hmx'];omega),jf (by rw [hsv];omega),hsv,sIx (i:=c) rfl hlt];refine H5.store (k:=1) rfl (by simpa [aC] using hlt) rfl fun h6 H6 => ?_;rw [F58.tq,jf (by omega)];refine hR (n*n-(c+1)) _ _ _ _ _ _ _ (by omega) ⟨c+1,rfl,rfl,by omega,H6.cast ?_⟩;simp only [List.set_cons_zero,List.set_cons_succ];rw [vH]
  congr 2
  congr 1
  refine q8 fun j _ => ?_;by_cases e:j=c
  ·subst e;rw [if_pos rfl,if_pos (by omega)]
  ·rw [if_neg e];by_cases e2:j<c
   ·rw [if_pos e2,if_pos (by omega)]
   ·rw [if_neg e2,if_neg (by omega)]
 obtain rfl:c=n*n:=by omega
 have em:(aC (n*n) fun j:Nat=>if j<n*n then I (sqV n mv j) else I 0)=(sqM n mv).map I:=by
  rw [sqM,List.map_map];exact q8 fun j hj=>if_pos hj
 rw [em] at H5;have hds:=zi6 hmv;have hml:=zev n mv;have ld:∀ op:AV->OP,zN 2 (.ptr xb 0) h5 op=op (.agg [.sl rb 0 (n*n) (some (n*n)) 1,.bool false]):=fun op=>H5.zk (k:=0) (n:=2) rfl rfl;rw [decide_eq_false (by omega),F58.t12,zA,F58.t3,zR,F58.v9,zE,jP,uD,F58.eU];simp only [ld];have hfr:FrzL .e h5 [.agg [.sl rb 0 (n*n) (some (n*n)) 1,.bool false]] [encS (sqM n mv,false)]:=by
  have e:AV.lst 1 (n*n) ((sqM n mv).map I)=encI (sqM n mv):=by rw [<- hml]
  have:=yw.frz (N:=fun id=>T.get Blk.no id .e=.no) (O:=fun v=>(∃ id off,v=.ptr id off/\T.get Blk.no id .e≠.no)\/(∃ id,v=.yld id/\T.get Blk.no id .e≠.no)\/(∃ id,v=.map id/\T.get Blk.no id .e≠.no)\/(∃ id off ln cap esz,v=.sl id off ln cap esz/\T.get Blk.no id .e≠.no)) (cap:=some (n*n)) (e:=1) (n:=n*n) (H5.own (.arr rb ((sqM n mv).map I)) (by simp)) (T.cu _ rb) (Zai _) (by simp [hml]) (fixI _);rw [e] at this;exact .cons (mC this (zK rfl) rfl) .nil
 refine dB (args':=[encS (sqM n mv,false)]) hfr (zqj _) (fun B=>pC (a:=(sqM n mv,false)) (fun x hx=>by have:=hds.2 x hx;omega) (by show (sqM n mv).length<=1000;omega)) (fun v hv=>by rw [hv];exact .str _) ?_;rintro _ rfl _;simp only [ld,zC];refine H5.putP (m:=n*n) (p:=rowP rb n mv) hnn hds hd hnew (k:=k+2) hk fun h6 H6 => ?_;rw [F58.ret];exact hK xb rb h6 nx5 H6
theorem zz6 {h0 h:T Blk} {nx:Pa} {L:List Ob} {k n:Nat} {o:Option Pa} {out:List (AV×Sym)} (H:Hp h0 h nx L) (hk:L[k]? = some (.gro o 2 n (jO out))) (hr:∀ p∈out,sV L p):rH h0 h (xu o 2 n) (fB (out.map (·.2))):=by
 have own:=H.own _ (Zaa hk);have hlen:=qU out;cases o with
 | none =>
  obtain ⟨e,rfl⟩:=own;rw [e] at hlen;obtain rfl:out=[]:=Zbc (by simp at hlen;omega);exact .zai 2
 | some id =>
  obtain ⟨t,h1,h2,h3⟩:=own;have hn:n=(out.map (·.2)).length:=by rw [Zas];omega
  subst hn;refine .sl _ _ _ _ _ true _ t _ (H.off id (List.mem_flatMap.2 ⟨_,Zaa hk,by simp [Ob.names]⟩)) trivial h1 (by omega) (gO _) (List.all_eq_true.2 fun v hv=>fH.jc (pJ v hv)) fun i v hi => ?_;have hil:i<(out.map (·.2)).length*2:=by have:=(List.getElem?_eq_some_iff.1 hi).1;rwa [gO] at this
  have:=zW t 0 ((out.map (·.2)).length*2) i hil;rw [h3,xJ] at this;rw [m9,List.getElem?_map] at hi;cases hq:out[i / 2]? with
  | none=>rw [hq] at hi;cases hi
  | some p =>
   rw [hq] at hi this;have hp:=hr p (Zaa hq);have hi:=Option.some.inj hi;have this:=Option.some.inj this;rw [<- this,<- hi];by_cases c:i%2=0
   ·simp only [c,if_true];rcases hp with e | ⟨rid,e,hm⟩
    ·rw [e];exact zK (uM _)
    ·rw [e];obtain ⟨j,hj⟩:=List.getElem?_of_mem hm;exact H.og hj (Zai _) (by simp) (fixI _)
   ·simp only [c,if_false];exact .bool _
def zql (n:Int):Int:=if n<1\/16<n then 3 else 0
theorem zg3 {n:Int}:Pure Tryz.prog B 57 [I n] (· = I (zql n)):=by
 refine yC fun h nx K H0 hK=>zM zP yh 1000 fun hf' => ?_;rw [F57.go,F57.t3,zA,F57.fG,F57.t2,zA,F57.fK,jk]
 have fin:∀ (b:Bool) (e:Int),e=(if b then 3 else 0)->(b=true↔n<1\/16<n)->K (I e) h nx=.ok True:=fun b e he hb=>hK _ _ _ _ _ H0 (zK rfl) (by
  rw [he,zql];cases b with
  | true=>rw [if_pos rfl,if_pos (hb.1 rfl)]
  | false=>rw [if_neg (by decide),if_neg (fun q=>by have:=hb.2 q;cases this)])
 by_cases c:n<1
 ·rw [decide_eq_true c];simp only [yQ,zV]
  (refine kF _ _ _ _ _ _ ?_;rintro _ rfl _)
  simp only [yA,yP];rw [F57.ret];exact fin true _ rfl ⟨fun _=>.inl c,fun _=>rfl⟩
 ·rw [decide_eq_false c];simp only [yL,xk,zT]
  (refine kF _ _ _ _ _ _ ?_;rintro _ rfl _)
  simp only [yA,yP];rw [F57.ret];exact fin (decide (16<n)) _ rfl ⟨fun q=>.inr (of_decide_eq_true q),fun q=>decide_eq_true (by omega)⟩
def mvT (n a b i j:Nat):Nat×Nat:=((i+a)%n,(j+b)%n)
def tS (n a b:Nat):Sym:=(sqM n (mvT n a b),false)
theorem zqm {n a b i j:Nat} (hi:i<n) (hj:j<n):(mvT n a b i j).1<n/\(mvT n a b i j).2<n:=⟨Nat.mod_lt _ (by omega),Nat.mod_lt _ (by omega)⟩
theorem ztl {n a b i j:Nat} {ab nb bb p0:Pa} {h0 h:T Blk} {nx:Pa} {L:List Ob} {ia inn ib:Nat} {K:Kw Prop} (hn:n<=16) (ha:a<n) (hb:b<n) (hi:i<n) (hj:j<n) (H:Hp h0 h nx L) (h1:L[ia]? = some (.arr ab [I a])) (h2:L[inn]? = some (.arr nb [I n])) (h3:L[ib]? = some (.arr bb [I b]))
  (hK:K (.tup [I (((mvT n a b i j).1:Nat):Int),I (((mvT n a b i j).2:Nat):Int)]) h nx=.ok True):(CS Tryz.prog B).fn 75 p0 [I (i:Int),I (j:Int),.ptr ab 0,.ptr nb 0,.ptr bb 0] h nx K=.ok True:=by
 refine yE (p:=.of 75) (K:=K) (zM zP yh 1000 fun hf => ?_) fun _ _ _ _ q=>q;have la:∀ op:AV->OP,zB (.ptr ab 0) h op=op (I a):=fun op=>H.load (k:=ia) (i:=0) h1 rfl;have ln:∀ op:AV->OP,zB (.ptr nb 0) h op=op (I n):=fun op=>H.load (k:=inn) (i:=0) h2 rfl;have lb:∀ op:AV->OP,zB (.ptr bb 0) h op=op (I b):=fun op=>H.load (k:=ib) (i:=0) h3 rfl;rw [F75.go,F75.t3,zA,F75.fG,F75.t2,zA,F75.fK,la,jf (by omega),ln,show ((i:Int)+(a:Int))=((i+a:Nat):Int) by omega,zi4 (by omega),lb,jf (by omega),ln,show ((j:Int)+(b:Int))=((j+b:Nat):Int) by omega,zi4 (by omega)];simp only [yA,yP];rw [F75.ret];exact hK
def SetQ (D:List Sym) (v:AV):Prop:=∃ s:List Sym,s.Perm D/\s.Pairwise (fun a b=>rQ a b<=0)/\v=.tup [fB s,I 0]
theorem zg4 {n:Nat} {h h1:T Blk} {nx1 gm p0:Pa} {ps:List (AV×Sym)} {A:List Ob} {D:List Sym} {K:Kw Prop} (hn:n<=16) (H1:Hp h h1 nx1 (.map gm (fM ps)::A)) (hps:ps.map (·.2)=D) (hnd:D.Nodup) (hr:∀ p∈ps,sV A p) (hl:∀ p∈ps,p.2.1.length=n*n) (h0:0<D.length) (h2:D.length<=2000)
  (hK:∀ v h' nx' L s,Hp h h' nx' L->rH h h' v (fB s)->s.Perm D->s.Pairwise (fun a b=>rQ a b<=0)->K v h' nx'=.ok True):(CS Tryz.prog B).fn 60 p0 [.map gm] h1 nx1 K=.ok True:=by
 have hpl:ps.length=D.length:=by rw [<- hps,Zas]
 have hnn:n*n<=256:=Zba hn hn;refine zkb H1 (k:=0) (q:=ps) (s:=srtP ps) rfl (by omega) (by omega) (fun p hp=>⟨(hr p hp).mono fun x hx=>by simp [hx],by rw [hl p hp];omega⟩) (by rw [hps];exact hnd) (wY ps) (pV ps) fun o h' nx' A' H' => ?_;refine hK _ _ _ _ ((srtP ps).map (·.2)) H' (zz6 H' (k:=0) rfl fun p hp=>((hr p ((wY ps).mem_iff.1 hp)).mono fun x hx=>by simp [hx])) ?_ (List.pairwise_map.2 (pV ps));rw [<- hps];exact (wY ps).map _
theorem zuw {n:Nat} (h1:1<=n) (h2:n<=16):zql n=0:=if_neg (by omega)
abbrev shR (n a:Nat):List Sym:=(List.range n).map (tS n a)
abbrev shL (n a:Nat):List Sym:=(List.range a).flatMap (shR n)
theorem zqn (n a:Nat):shL n (a+1)=shL n a++shR n a:=by unfold shL;rw [List.range_succ,Zch];simp
theorem zdn {n:Nat} {mv:Nat->Nat->Nat×Nat} {rb:Pa} {A:List Ob} (h:Ob.arr rb ((sqM n mv).map I)∈A):sV A (rowP rb n mv):=.inr ⟨rb,by
 show AV.sl rb 0 (n*n) (some (n*n)) 1=.sl rb 0 (sqM n mv).length (some (sqM n mv).length) 1;rw [zev],h⟩
theorem zqo {n:Nat} (hn1:1<=n) (hn:n<=16) (hinj:∀ a b a' b',a<n->b<n->a'<n->b'<n->tS n a b=tS n a' b'->a=a'/\b=b') (hnd:(shL n n).Nodup) (hlen:(shL n n).length=n*n):Pure Tryz.prog B 29 [I n] (SetQ (shL n n)):=by
 refine yC fun h nx K H0 hK=>zM zP yh 10000000 fun hf' => ?_;have hnn:n*n<=256:=Zba hn hn;have hn0:1<=n*n:=Zba hn1 hn1;rw [F29.go,F29.t41,zA,F29.fG];refine H0.box (l:=[I n]) rfl fun nb h1 nx1 H1 => ?_;rw [F29.t40,zA,F29.t7,zA,F29.fK,H1.load (k:=0) (i:=0) rfl rfl]
 (refine zg3 _ _ _ _ ?_;rintro _ rfl _)
 rw [zuw hn1 hn,F29.t6,zA,F29.rE,qm,decide_eq_true rfl,Zaf,F29.t5,zR,F29.v8,zE,yB,F29.t39,zA,F29.oL];refine H1.rF fun gm h2 nx2 H2 => ?_;rw [F29.t38,zA,F29.t35,zA,F29.ak,H2.load (k:=1) (i:=0) rfl rfl,F29.t34,yI];refine F29.zxh (fun m x10 h' nx'=>∃ (a:Nat) (ps:List (AV×Sym)) (A:List Ob),x10=I a/\m=n-a/\a<=n/\ps.map (·.2)=shL n a/\(∀ p∈ps,sV A p)/\Hp h h' nx' (.map gm (fM ps)::.arr nb [I n]::A)) (m:=n) (by omega) ⟨0,[],[],rfl,by omega,by omega,rfl,by simp,H2⟩ ?_;rintro m z6 z7 z10 z11 z12 z13 z14 h5 nx5 R ⟨a,ps,A,rfl,rfl,ha,hps,hr,H5⟩ hR;have hds:∀ {ps:List (AV×Sym)} {D:List Sym},ps.map (·.2)=D->(∀ s∈D,∃ a b,s=tS n a b)->∀ p∈ps,DS (n*n) p.2:=fun {ps D} e hD p hp=>by
  obtain ⟨a,b,q⟩:=hD p.2 (e ▸ List.mem_map.2 ⟨p,hp,rfl⟩);rw [q];exact zi6 fun i j hi hj=>zqm hi hj
 have memL:∀ (a:Nat),∀ s∈shL n a,∃ a' b',a'<a/\b'<n/\s=tS n a' b':=fun a s hs=>by
  obtain ⟨a',h1,h2⟩:=List.mem_flatMap.1 hs;obtain ⟨b',h3,rfl⟩:=List.mem_map.1 h2;exact ⟨a',b',List.mem_range.1 h1,List.mem_range.1 h3,rfl⟩
 rw [F29.t32,zA,F29.tq,jk];by_cases hlt:a<n
 case neg =>
  obtain rfl:a=n:=by omega
  rw [decide_eq_false (by omega),F29.t31,zA,F29.t11,zR,F29.v11,zE,jP,uD,F29.t37,zA,F29.zxi];refine zg4 (D:=shL a a) hn H5 hps hnd (fun p hp=>(hr p hp).mono fun x hx=>by simp [hx]) (fun p hp=>(hds hps (fun s hs=>by obtain ⟨x,y,_,_,q⟩:=memL a s hs;exact ⟨x,y,q⟩) p hp).1) (by omega) (by omega) fun v h' nx' L s H' hf hp hs => ?_;simp only [yA,yP];rw [F29.ret];exact hK _ _ _ _ _ H' (uT hf (zK rfl)) ⟨s,hp,hs,rfl⟩
 rw [decide_eq_true (by omega),F29.t31,zA,F29.t11,zR,F29.v11,zD,yB,F29.t30,zA,F29.t28,yI,F29.t27,zA,F29.eP];refine H5.alloc fun ab h6 nx6 H6 => ?_;refine H6.store (k:=0) rfl (by simp) rfl fun h7 H7 => ?_;have H7:Hp h h7 nx6 (.arr ab [I a]::.map gm (fM ps)::.arr nb [I n]::A):=H7;rw [F29.t26,zA,F29.zad,H7.load (k:=2) (i:=0) rfl rfl,F29.t25,yI];have H8:Hp h h7 nx6 (.map gm (fM ps)::.arr nb [I n]::.arr ab [I a]::A):=(H7.pick 3 [1,2,0] (by decide) (by decide)).cast rfl;refine F29.zmq (fun m x13 h' nx'=>∃ (b:Nat) (ps:List (AV×Sym)) (A:List Ob),x13=I b/\n-b=m/\b<=n/\ps.map (·.2)=shL n a++(List.range b).map (tS n a)/\(∀ p∈ps,sV A p)/\Hp h h' nx' (.map gm (fM ps)::.arr nb [I n]::.arr ab [I a]::A)) (m:=n) (by omega) ⟨0,ps,A,rfl,by omega,by omega,by simpa using hps,hr,H8⟩ ?_
 clear hps hr H5 H6 H7 H8
 rintro m y7 y13 y14 h8 nx8 R2 ⟨b,ps,A,rfl,rfl,hb,hps,hr,H8⟩ hR2;rw [F29.t23,zA,F29.aS,jk];by_cases hltb:b<n
 case neg =>
  obtain rfl:b=n:=by omega
  rw [decide_eq_false (by omega),F29.t22,zA,F29.t15,zR,F29.v14,zE,jP,uD,F29.zmr,jf (by omega)];exact hR (b-(a+1)) _ _ _ _ _ _ _ _ _ (by omega) ⟨a+1,ps,.arr ab [I a]::A,rfl,rfl,by omega,by rw [hps,zqn],fun p hp=>(hr p hp).mono fun x hx=>by simp [hx],H8⟩
 have hD:∀ s∈shL n a++(List.range b).map (tS n a),∃ a' b',a'<n/\b'<n/\s=tS n a' b'/\(a'<a\/(a'=a/\b'<b)):=fun s hs=>by
  rcases List.mem_append.1 hs with q | q
  ·obtain ⟨a',b',q1,q2,q3⟩:=memL a s q;exact ⟨a',b',by omega,q2,q3,.inl q1⟩
  ·obtain ⟨b',h3,rfl⟩:=List.mem_map.1 q;have:=List.mem_range.1 h3;exact ⟨a,b',hlt,by omega,rfl,.inr ⟨rfl,this⟩⟩
 rw [decide_eq_true (by omega),F29.t22,zA,F29.t15,zR,F29.v14,zD,yB,F29.t21,zA,F29.t19,yI,F29.t18,zA,F29.zae];refine H8.alloc fun bb h9 nx9 H9 => ?_;refine H9.store (k:=0) rfl (by simp) rfl fun h10 H10 => ?_;have H10:Hp h h10 nx9 (.arr bb [I b]::.map gm (fM ps)::.arr nb [I n]::.arr ab [I a]::A):=H10;rw [F29.eU,H10.load (k:=2) (i:=0) rfl rfl];refine zqk (mv:=mvT n a b) (k:=1) hn1 hn (fun i j hi hj=>zqm hi hj) (fun i j A' h' nx' K' hi hj H' hK' => ?_) (hds hps fun s hs=>by obtain ⟨x,y,_,_,q,_⟩:=hD s hs;exact ⟨x,y,q⟩) (fun p hp q => ?_) H10 rfl fun xb rb h11 nx11 H11 => ?_
 ·exact ztl (ia:=A'.length+3) (inn:=A'.length+2) (ib:=A'.length+0) hn hlt hltb hi hj H' (getA rfl) (getA rfl) (getA rfl) hK'
 ·obtain ⟨a',b',q1,q2,q3,q4⟩:=hD p.2 (hps ▸ List.mem_map.2 ⟨p,hp,rfl⟩);obtain ⟨e1,e2⟩:=hinj a' b' a b q1 q2 hlt hltb (q3.symm.trans q);omega
 rw [F29.ze1,jf (by omega)];have H12:Hp h h11 nx11 (.map gm (fM (ps++[rowP rb n (mvT n a b)]))::.arr nb [I n]::.arr ab [I a]::.arr rb ((sqM n (mvT n a b)).map I)::A):=(H11.pick 6 [3,4,5,1] (by decide) (by decide)).cast rfl;refine hR2 (n-(b+1)) _ _ _ _ _ (by omega) ⟨b+1,_,_,rfl,rfl,by omega,?_,?_,H12⟩
 ·rw [Zbk,hps,List.range_succ,Zbk,Zbp];rfl
 ·intro p hp;rcases List.mem_append.1 hp with q | q
  ·exact (hr p q).mono fun x hx=>by simp [hx]
  ·rw [List.mem_singleton.1 q];exact zdn (by simp)
def rcZ (n:Nat):Nat->List Nat->List (List Nat)
 | 0,pre=>[pre]
 | r+1,pre=>(List.range n).flatMap fun x=>if (x∈pre\/n-1-x∈pre)\/(decide (2*pre.length=n-1) != decide (2*x=n-1))=true then [] else rcZ n r (pre++[x])
def kA (n:Nat) (pre:List Nat):List Nat:=(List.range n).map fun i=>if i<pre.length then pre.getD i 0 else n-1-pre.getD (n-1-i) 0
def mvQ (q:List Nat) (i j:Nat):Nat×Nat:=(q.getD i 0,q.getD j 0)
def rcE (n:Nat) (pre:List Nat):Sym:=(sqM n (mvQ (kA n pre)),false)
theorem zdo {n i:Nat} {pre:List Nat} (h:i<n):(kA n pre).getD i 0=if i<pre.length then pre.getD i 0 else n-1-pre.getD (n-1-i) 0:=by
 rw [Zab,kA,List.getElem?_map,List.getElem?_range h];rfl
theorem zg5 {n i:Nat} {pre:List Nat} (hp:∀ x∈pre,x<n) (h:i<n):(kA n pre).getD i 0<n:=by
 rw [zdo h];by_cases c:i<pre.length
 ·rw [if_pos c];refine hp _ ?_;rw [Zab,List.getElem?_eq_getElem c];exact Zal c
 ·rw [if_neg c];omega
theorem zqp {n i j:Nat} {pre:List Nat} (hp:∀ x∈pre,x<n) (hi:i<n) (hj:j<n):(mvQ (kA n pre) i j).1<n/\(mvQ (kA n pre) i j).2<n:=⟨zg5 hp hi,zg5 hp hj⟩
structure QOk (n:Nat) (pre:List Nat) (q:List Int):Prop where
 len:q.length=n
 rng:∀ v∈q,0<=v/\v<(n:Int)
 at1:∀ i,i<pre.length->q.getD i 0=((pre.getD i 0:Nat):Int)
 at2:∀ i,i<pre.length->q.getD (n-1-i) 0=(n:Int)-1-((pre.getD i 0:Nat):Int)
theorem dM {l:List Int} {i j:Nat} {v:Int} (hi:i<l.length):(l.set i v).getD j 0=if i=j then v else l.getD j 0:=by
 rw [Zab,List.getElem?_set];by_cases c:i=j
 ·subst c;rw [if_pos rfl,if_pos hi,if_pos rfl];rfl
 ·rw [if_neg c,if_neg c,Zab]
theorem xU {l:List Nat} {i x:Nat}:(l++[x]).getD i 0=if i<l.length then l.getD i 0 else if i=l.length then x else 0:=by
 rw [Zab,Zab];by_cases c:i<l.length
 ·rw [if_pos c,List.getElem?_append_left c]
 ·rw [if_neg c,List.getElem?_append_right (by omega)];by_cases e:i=l.length
  ·subst e;simp
  ·rw [if_neg e,List.getElem?_eq_none (by simp;omega)];rfl
theorem QOk.snoc {n x:Nat} {pre:List Nat} {q:List Int} (h:QOk n pre q) (hk:pre.length<(n+1) / 2) (hx:x<n) (hm:decide (2*pre.length=n-1)=decide (2*x=n-1)):QOk n (pre++[x]) ((q.set pre.length (x:Int)).set (n-1-pre.length) ((n:Int)-1-(x:Int))):=by
 have hl:=h.len;have hm:2*pre.length=n-1↔2*x=n-1:=decide_eq_decide.1 hm;refine ⟨by simp [hl],fun v hv => ?_,fun i hi => ?_,fun i hi => ?_⟩
 ·rcases Zcn hv with q1 | rfl
  ·rcases Zcn q1 with q2 | rfl
   ·exact h.rng v q2
   ·omega
  ·omega
 ·rw [Zau,List.length_singleton] at hi;rw [dM (by simp;omega),dM (by omega),xU];by_cases e:i=pre.length
  ·subst e;rw [if_neg (Nat.lt_irrefl _),if_pos rfl,if_pos rfl];split
   ·omega
   ·rfl
  ·rw [if_neg (by omega),if_neg (by omega),if_pos (by omega)];exact h.at1 i (by omega)
 ·rw [Zau,List.length_singleton] at hi;rw [dM (by simp;omega),dM (by omega),xU];by_cases e:i=pre.length
  ·subst e;rw [if_pos rfl,if_neg (Nat.lt_irrefl _),if_pos rfl]
  ·rw [if_neg (by omega),if_neg (by omega),if_pos (by omega)];exact h.at2 i (by omega)
theorem QOk.weak {n x:Nat} {pre:List Nat} {q:List Int} (h:QOk n (pre++[x]) q):QOk n pre q:=by
 refine ⟨h.len,h.rng,fun i hi => ?_,fun i hi => ?_⟩
 ·have:=h.at1 i (by simp;omega);rw [xU,if_pos hi] at this;exact this
 ·have:=h.at2 i (by simp;omega);rw [xU,if_pos hi] at this;exact this
theorem QOk.full {n i:Nat} {pre:List Nat} {q:List Int} (h:QOk n pre q) (hp:∀ x∈pre,x<n) (hk:pre.length=(n+1) / 2) (hi:i<n):q.getD i 0=(((kA n pre).getD i 0:Nat):Int):=by
 rw [zdo hi];by_cases c:i<pre.length
 ·rw [if_pos c];exact h.at1 i c
 ·rw [if_neg c];have hj:n-1-i<pre.length:=by omega
  have:=h.at2 (n-1-i) hj;rw [show n-1-(n-1-i)=i by omega] at this
  have hlt:pre.getD (n-1-i) 0<n:=hp _ (by
   rw [Zab,List.getElem?_eq_getElem hj];exact Zal hj)
  rw [this];omega
def qY (n:Nat) (pre:List Nat):List AV:=aC n fun y:Nat=>.bool (decide (y∈pre\/n-1-y∈pre))
theorem zmi {n x:Nat} {pre:List Nat} (hx:x<n):((qY n pre).set x (.bool true)).set (n-1-x) (.bool true)=qY n (pre++[x]):=by
 unfold qY;rw [vH,vH];refine q8 fun j hj => ?_;by_cases c:j=n-1-x
 ·rw [if_pos c,decide_eq_true (.inr (by rw [c,show n-1-(n-1-x)=x by omega];simp))]
 ·rw [if_neg c];by_cases d:j=x
  ·rw [if_pos d,decide_eq_true (.inl (by rw [d];simp))]
  ·rw [if_neg d];have e1:j∈pre++[x]↔j∈pre:=by
    rw [Zat,Zay];exact ⟨fun q=>q.resolve_right d,.inl⟩
   have e2:n-1-j∈pre++[x]↔n-1-j∈pre:=by
    rw [Zat,Zay];exact ⟨fun q=>q.resolve_right (by omega),.inl⟩
   simp only [e1,e2]
theorem zg6 {n x:Nat} {pre:List Nat} (hx:x<n) (h1:x∉pre) (h2:n-1-x∉pre):((qY n (pre++[x])).set x (.bool false)).set (n-1-x) (.bool false)=qY n pre:=by
 unfold qY;rw [vH,vH];refine q8 fun j hj => ?_;by_cases c:j=n-1-x
 ·rw [if_pos c,decide_eq_false];rw [c,show n-1-(n-1-x)=x by omega];rintro (q | q)
  ·exact h2 q
  ·exact h1 q
 ·rw [if_neg c];by_cases d:j=x
  ·rw [if_pos d,decide_eq_false];rw [d];rintro (q | q)
   ·exact h1 q
   ·exact h2 q
  ·rw [if_neg d];have e1:j∈pre++[x]↔j∈pre:=by
    rw [Zat,Zay];exact ⟨fun q=>q.resolve_right d,.inl⟩
   have e2:n-1-j∈pre++[x]↔n-1-j∈pre:=by
    rw [Zat,Zay];exact ⟨fun q=>q.resolve_right (by omega),.inl⟩
   simp only [e1,e2]
theorem ztm {n i j:Nat} {q:List Int} {mv:Nat->Nat->Nat×Nat} {qb qa p0:Pa} {h0 h:T Blk} {nx:Pa} {L:List Ob} {i1 i2:Nat} {K:Kw Prop} (hq:q.length=n) (hi:i<n) (hj:j<n) (h1:L[i1]? = some (.arr qb [.sl qa 0 n (some n) 1])) (h2:L[i2]? = some (.arr qa (q.map I))) (e1:q.getD i 0=(((mv i j).1:Nat):Int)) (e2:q.getD j 0=(((mv i j).2:Nat):Int)) (H:Hp h0 h nx L)
  (hK:K (.tup [I (((mv i j).1:Nat):Int),I (((mv i j).2:Nat):Int)]) h nx=.ok True):(CS Tryz.prog B).fn 78 p0 [I (i:Int),I (j:Int),.ptr qb 0] h nx K=.ok True:=by
 refine yE (p:=.of 78) (K:=K) (zM zP yh 1000 fun hf => ?_) fun _ _ _ _ q=>q;have lq:∀ op:AV->OP,zB (.ptr qb 0) h op=op (.sl qa 0 n (some n) 1):=fun op=>H.load (k:=i1) (i:=0) h1 rfl;rw [F78.go,F78.t3,zA,F78.fG,F78.t2,zA,F78.fK,lq,sIx (i:=i) rfl hi,H.load (k:=i2) h2 (rJ (getD_some (by omega))),lq,sIx (i:=j) rfl hj,H.load (k:=i2) h2 (rJ (getD_some (by omega))),e1,e2];simp only [yA,yP];rw [F78.ret];exact hK
section
variable {h0:T Blk} {n:Nat} {nb gb qb ub zb gm qa ua:Pa}
noncomputable abbrev cloR (nb gb qb ub zb:Pa):AV:=.fn 77 (.of 77) [.ptr nb 0,.ptr gb 0,.ptr qb 0,.ptr ub 0,.ptr zb 0]
noncomputable abbrev Gr (n:Nat) (nb gb qb ub zb gm qa ua:Pa) (ps:List (AV×Sym)) (pre:List Nat) (q:List Int):List Ob :=
 [.map gm (fM ps),.arr gb [.map gm],.arr nb [I n],.arr qb [.sl qa 0 n (some n) 1],.arr ub [.sl ua 0 n (some n) 1],.arr zb [cloR nb gb qb ub zb],.arr qa (q.map I),.arr ua (qY n pre)]
theorem zdp (hn1:1<=n) (hn:n<=9) {D:List Sym} (hD:D.Nodup) (hDS:∀ s∈D,DS (n*n) s) :
  ∀ (r:Nat) (pre:List Nat) (q:List Int) (ps:List (AV×Sym)) (A:List Ob) (rest:List Sym) (p:Pa) (h:T Blk) (nx:Pa) (K:Kw Prop),pre.length+r=(n+1) / 2->(∀ x∈pre,x<n)->QOk n pre q->ps.map (·.2)++((rcZ n r pre).map (rcE n)++rest)=D->(∀ p∈ps,sV A p)->Hp h0 h nx (Gr n nb gb qb ub zb gm qa ua ps pre q++A) ->
   (∀ ps' A' q' h' nx',QOk n pre q'->ps'.map (·.2)=ps.map (·.2)++(rcZ n r pre).map (rcE n)->(∀ p∈ps',sV A' p)->Hp h0 h' nx' (Gr n nb gb qb ub zb gm qa ua ps' pre q'++A')->K (.tup []) h' nx'=.ok True) ->
   (CS Tryz.prog B).fn 77 p [I (pre.length:Int),.ptr nb 0,.ptr gb 0,.ptr qb 0,.ptr ub 0,.ptr zb 0] h nx K=.ok True
 | 0,pre,q,ps,A,rest,p,h,nx,K,hr,hpre,hq,hps,hrow,H,hK=>by
  refine yE (p:=.of 77) (K:=K) (zM zP yh 1000000 fun hf => ?_) fun _ _ _ _ q=>q;have ln:∀ op:AV->OP,zB (.ptr nb 0) h op=op (I n):=fun op=>H.load (k:=2) (i:=0) rfl rfl;rw [F77.go,F77.t29,zA,F77.t4,zA,F77.fG,ln,jf (by omega),show ((n:Int)+1)=((n+1:Nat):Int) by omega,show (I 2:AV)=I ((2:Nat):Int) from rfl,zi5 (by omega) (by decide),fQ,decide_eq_true (by omega),F77.t3,zR,F77.v7,zD,F77.t2,zA,F77.fK,H.load (k:=1) (i:=0) rfl rfl,ln];rw [rcZ,Zce,List.map_nil] at hps hK;have hdps:∀ b∈ps,DS (n*n) b.2:=fun b hb=>hDS _ (hps ▸ Zbt _ (List.mem_map.2 ⟨b,hb,rfl⟩));refine zqk (mv:=mvQ (kA n pre)) (k:=0) hn1 (by omega) (fun i j hi hj=>zqp hpre hi hj) (fun i j A' h' nx' K' hi hj H' hK' => ?_) hdps (fun b hb e => ?_) H rfl fun xb rb h8 nx8 H8 => ?_
  ·exact ztm (q:=q) (mv:=mvQ (kA n pre)) (i1:=A'.length+3) (i2:=A'.length+6) hq.len hi hj (getA rfl) (getA rfl) (hq.full hpre (by omega) hi) (hq.full hpre (by omega) hj) H' hK'
  ·rw [<- hps] at hD;exact (List.nodup_append.1 hD).2.2 b.2 (List.mem_map.2 ⟨b,hb,rfl⟩) (rcE n pre) (by simp) e
  simp only [yA,yP];rw [F77.ret];have H9:Hp h0 h8 nx8 (Gr n nb gb qb ub zb gm qa ua (ps++[rowP rb n (mvQ (kA n pre))]) pre q++(.arr rb ((sqM n (mvQ (kA n pre))).map I)::A)):=(H8.pick 10 [2,3,4,5,6,7,8,9,1] (by decide) (by decide)).cast rfl;refine hK _ _ q _ _ hq (by rw [Zbk];rfl) (fun p hp => ?_) H9;rcases List.mem_append.1 hp with z | z
  ·exact (hrow p z).mono fun x hx=>by simp [hx]
  ·rw [List.mem_singleton.1 z];exact zdn (by simp)
 | r+1,pre,q,ps,A,rest,p,h,nx,K,hr,hpre,hq,hps,hrow,H,hK=>by
  refine yE (p:=.of 77) (K:=K) (zM zP yh 1000000 fun hf => ?_) fun _ _ _ _ q=>q;have ln:∀ op:AV->OP,zB (.ptr nb 0) h op=op (I n):=fun op=>H.load (k:=2) (i:=0) rfl rfl;rw [F77.go,F77.t29,zA,F77.t4,zA,F77.fG,ln,jf (by omega),show ((n:Int)+1)=((n+1:Nat):Int) by omega,show (I 2:AV)=I ((2:Nat):Int) from rfl,zi5 (by omega) (by decide),fQ,decide_eq_false (by omega),F77.t3,zR,F77.v7,zE,yB,F77.t28,zA,F77.eH,ln,F77.t27,yI]
  let g:Nat->List (List Nat):=fun x=>if (x∈pre\/n-1-x∈pre)\/(decide (2*pre.length=n-1) != decide (2*x=n-1))=true then [] else rcZ n r (pre++[x])
  have hg:rcZ n (r+1) pre=(List.range n).flatMap g:=rfl;have hgs:∀ x:Nat,(List.range (x+1)).flatMap g=(List.range x).flatMap g++g x:=fun x=>by rw [List.range_succ,Zch];simp
  have hgn:∀ x:Nat,x<n->∃ t,(List.range n).flatMap g=(List.range x).flatMap g++(g x++t):=fun x hx=>by
   refine ⟨((List.range (n-(x+1))).map fun y=>x+1+y).flatMap g,?_⟩;have e:List.range n=List.range (x+1)++(List.range (n-(x+1))).map fun y=>x+1+y:=by rw [<- List.range_add,show x+1+(n-(x+1))=n by omega]
   rw [e,Zch,hgs,Zbp]
  rw [hg] at hps hK;refine F77.zxj (fun m x9 h' nx'=>∃ (x:Nat) (ps':List (AV×Sym)) (A:List Ob) (q:List Int),x9=I x/\n-x=m/\x<=n/\QOk n pre q/\ps'.map (·.2)=ps.map (·.2)++((List.range x).flatMap g).map (rcE n)/\(∀ p∈ps',sV A p)/\Hp h0 h' nx' (Gr n nb gb qb ub zb gm qa ua ps' pre q++A)) (m:=n) (by omega) ⟨0,ps,A,q,rfl,by omega,by omega,hq,by simp,hrow,H⟩ ?_
  clear hq hrow H ln
  rintro m z6 z9 z10 z11 h5 nx5 R ⟨x,ps',A,q,rfl,rfl,hx,hq,hps',hrow,H⟩ hR;have ln:∀ op:AV->OP,zB (.ptr nb 0) h5 op=op (I n):=fun op=>H.load (k:=2) (i:=0) rfl rfl;rw [F77.t25,zA,F77.tY,jk];by_cases hlt:x<n
  case neg =>
   obtain rfl:x=n:=by omega
   rw [decide_eq_false (by omega),F77.t24,zA,F77.t7,zR,F77.v10,zE,jP,uD];rw [F77.ret];exact hK _ _ _ _ _ hq hps' hrow H
  obtain ⟨tail,htail⟩:=hgn x hlt;have hk2:pre.length<(n+1) / 2:=by omega
  have hux:(qY n pre)[x]? = some (.bool (decide (x∈pre\/n-1-x∈pre))):=vI hlt;have lu:∀ op:AV->OP,zB (.ptr ub 0) h5 op=op (.sl ua 0 n (some n) 1):=fun op=>H.load (k:=4) (i:=0) rfl rfl;rw [decide_eq_true (by omega),F77.t24,zA,F77.t7,zR,F77.v10,zD,yB,F77.t23,zA,F77.t21,yI,F77.t20,zA,F77.oL,F77.t19,zA,F77.t11,zA,F77.ak,F77.r5_0,F77.zu1,lu,sIx (i:=x) rfl hlt,H.load (k:=7) rfl hux]
  have next:∀ (z6 z10 z11:AV) (ps2:List (AV×Sym)) (A2:List Ob) (q2:List Int) (h6:T Blk) (nx6:Pa),QOk n pre q2->ps2.map (·.2)=ps'.map (·.2)++(g x).map (rcE n)->(∀ p∈ps2,sV A2 p)->Hp h0 h6 nx6 (Gr n nb gb qb ub zb gm qa ua ps2 pre q2++A2) ->
    R (F77.fr (I (pre.length:Int)) (.ptr nb 0) (.ptr gb 0) (.ptr qb 0) (.ptr ub 0) (.ptr zb 0) z6 (.bool false) (I n) (I ((x:Int)+1)) z10 z11) h6 nx6=.ok True :=
   fun z6 z10 z11 ps2 A2 q2 h6 nx6 q1 q2' q3 q4=>hR (n-(x+1)) _ _ _ _ _ _ (by omega) ⟨x+1,ps2,A2,q2,rfl,rfl,by omega,q1,by rw [q2',hps',hgs,Zbk,Zbp],q3,q4⟩
  by_cases hmem:x∈pre\/n-1-x∈pre
  ·have e:g x=[]:=if_pos (.inl hmem);rw [e] at next;rw [decide_eq_true hmem];simp only [yQ];rw [F77.r5_1,F77.zms];simp only [yQ];rw [F77.r5_2,F77.zmt,zV,F77.t10,zR,F77.v11,zD,jP,uD,F77.zmu,jf (by omega)];exact next _ _ _ ps' A q _ _ hq (by simp) hrow H
  rw [decide_eq_false hmem];simp only [yL,ln];rw [rV (by omega),F77.r5_1,F77.zms];simp only [yL,ln];rw [pq (by omega),fQ,rV (by omega),pq (by omega),fQ,zj3];have ec:∀ y:Nat,decide (2*(y:Int)=(n:Int)-1)=decide (2*y=n-1):=fun y=>by rw [decide_eq_decide];omega
  rw [ec,ec,F77.r5_2,F77.zmt,zT];cases hm:(decide (2*pre.length=n-1) != decide (2*x=n-1)) with
  | true =>
   have e:g x=[]:=if_pos (.inr hm);rw [e] at next;rw [F77.t10,zR,F77.v11,zD,jP,uD,F77.zmu,jf (by omega)];exact next _ _ _ ps' A q _ _ hq (by simp) hrow H
  | false =>
  have hm':decide (2*pre.length=n-1)=decide (2*x=n-1):=by simpa using hm
  have e:g x=rcZ n r (pre++[x]):=if_neg (fun z=>by rcases z with z | z;exact hmem z;rw [hm] at z;cases z);have lq:∀ op:AV->OP,zB (.ptr qb 0) h5 op=op (.sl qa 0 n (some n) 1):=fun op=>H.load (k:=3) (i:=0) rfl rfl;have hql:=hq.len;rw [F77.t10,zR,F77.v11,zE,yB,F77.t18,zA,F77.eP,lq,lq,ln,pq (by omega),pq (by omega),ln,pq (by omega),pq (by omega),sIx (i:=pre.length) rfl (by omega)];refine H.store (k:=6) rfl (by simp;omega) rfl fun h6 H6 => ?_;have lq6:∀ op:AV->OP,zB (.ptr qb 0) h6 op=op (.sl qa 0 n (some n) 1):=fun op=>H6.load (k:=3) (i:=0) rfl rfl;have ln6:∀ op:AV->OP,zB (.ptr nb 0) h6 op=op (I n):=fun op=>H6.load (k:=2) (i:=0) rfl rfl;rw [pq (by omega),zC,zC,pq (by omega),zC,ln6,zC,pq (by omega),zC,zC,pq (by omega),zC,ln6,zC,lq6,zC,sIx (i:=n-1-pre.length) (by omega) (by omega)];refine H6.store (k:=6) rfl (by simp;omega) rfl fun h7 H7 => ?_;have hq2:=hq.snoc hk2 hlt hm'
  have H7:Hp h0 h7 nx5 (Gr n nb gb qb ub zb gm qa ua ps' pre ((q.set pre.length (x:Int)).set (n-1-pre.length) ((n:Int)-1-(x:Int)))++A):=H7.cast (by
   show _=.map gm (fM ps')::.arr gb [.map gm]::.arr nb [I n]::.arr qb [.sl qa 0 n (some n) 1]::.arr ub [.sl ua 0 n (some n) 1]::.arr zb [cloR nb gb qb ub zb]::.arr qa (((q.set pre.length (x:Int)).set (n-1-pre.length) ((n:Int)-1-(x:Int))).map I)::.arr ua (qY n pre)::A;rw [List.map_set,List.map_set];rfl)
  generalize (q.set pre.length (x:Int)).set (n-1-pre.length) ((n:Int)-1-(x:Int))=q2 at *
  have lu7:∀ op:AV->OP,zB (.ptr ub 0) h7 op=op (.sl ua 0 n (some n) 1):=fun op=>H7.load (k:=4) (i:=0) rfl rfl;have ln7:∀ op:AV->OP,zB (.ptr nb 0) h7 op=op (I n):=fun op=>H7.load (k:=2) (i:=0) rfl rfl;have hul:(qY n pre).length=n:=by simp [qY,aC]
  rw [F77.t17,zA,F77.zad,lu7,lu7,ln7,pq (by omega),pq (by omega),sIx (i:=x) rfl hlt];refine H7.store (k:=7) rfl (by omega) rfl fun h8 H8 => ?_;have lu8:∀ op:AV->OP,zB (.ptr ub 0) h8 op=op (.sl ua 0 n (some n) 1):=fun op=>H8.load (k:=4) (i:=0) rfl rfl;have ln8:∀ op:AV->OP,zB (.ptr nb 0) h8 op=op (I n):=fun op=>H8.load (k:=2) (i:=0) rfl rfl;rw [pq (by omega),zC,zC,pq (by omega),zC,ln8,zC,lu8,zC,sIx (i:=n-1-x) (by omega) (by omega)];refine H8.store (k:=7) rfl (by simp [hul];omega) rfl fun h9 H9 => ?_;have H9:Hp h0 h9 nx5 (Gr n nb gb qb ub zb gm qa ua ps' (pre++[x]) q2++A):=H9.cast (by rw [zmi hlt];rfl);have hlen:(pre++[x]).length=pre.length+1:=by simp
  rw [F77.t16,zA,F77.aS,H9.load (k:=5) (i:=0) rfl rfl,jf (by omega),j3];show (CS Tryz.prog B).fn 77 (.of 77) [I ((pre.length:Int)+1),.ptr nb 0,.ptr gb 0,.ptr qb 0,.ptr ub 0,.ptr zb 0] h9 nx5 _=_;rw [show ((pre.length:Int)+1)=(((pre++[x]).length:Nat):Int) by rw [hlen];omega]
  refine zdp hn1 hn hD hDS r (pre++[x]) q2 ps' A (tail.map (rcE n)++rest) _ h9 nx5 _ (by rw [hlen];omega) (fun y hy=>by
   rcases List.mem_append.1 hy with z | z
   ·exact hpre y z
   ·rw [List.mem_singleton.1 z];exact hlt) hq2 (by rw [hps',<- e,<- hps,htail,Zbk,Zbk];simp only [Zbp]) hrow H9 fun ps2 A2 q3 h10 nx10 r1 r2 r3 H10 => ?_
  have lu10:∀ op:AV->OP,zB (.ptr ub 0) h10 op=op (.sl ua 0 n (some n) 1):=fun op=>H10.load (k:=4) (i:=0) rfl rfl;have ln10:∀ op:AV->OP,zB (.ptr nb 0) h10 op=op (I n):=fun op=>H10.load (k:=2) (i:=0) rfl rfl;have hul2:(qY n (pre++[x])).length=n:=by simp [qY,aC]
  rw [F77.zas,lu10,lu10,ln10,pq (by omega),pq (by omega),sIx (i:=x) rfl hlt];refine H10.store (k:=7) rfl (by omega) rfl fun h11 H11 => ?_;have lu11:∀ op:AV->OP,zB (.ptr ub 0) h11 op=op (.sl ua 0 n (some n) 1):=fun op=>H11.load (k:=4) (i:=0) rfl rfl;have ln11:∀ op:AV->OP,zB (.ptr nb 0) h11 op=op (I n):=fun op=>H11.load (k:=2) (i:=0) rfl rfl;rw [pq (by omega),zC,zC,pq (by omega),zC,ln11,zC,lu11,zC,sIx (i:=n-1-x) (by omega) (by omega)];refine H11.store (k:=7) rfl (by simp [hul2];omega) rfl fun h12 H12 => ?_
  have H12:Hp h0 h12 nx10 (Gr n nb gb qb ub zb gm qa ua ps2 pre q3++A2):=H12.cast (by
   rw [zg6 hlt (fun z=>hmem (.inl z)) (fun z=>hmem (.inr z))];rfl)
  rw [F77.zmu,jf (by omega)];exact next _ _ _ ps2 A2 q3 _ _ r1.weak (by rw [r2,e]) r3 H12
end
end Go.Ev
namespace Go.Ev
theorem zkq {α β:Type} {R:β->β->Prop} {S:α->α->Prop} {f:α->List β}:∀ {l:List α},l.Pairwise S->(∀ x∈l,(f x).Pairwise R)->(∀ x∈l,∀ y∈l,S x y->∀ a∈f x,∀ b∈f y,R a b)->(l.flatMap f).Pairwise R
 | [],_,_,_=>.nil
 | x::l,h,h1,h2=>by
  obtain ⟨g1,g2⟩:=List.pairwise_cons.1 h;rw [Zbh,List.pairwise_append];refine ⟨h1 x (by simp),zkq g2 (fun y hy=>h1 y (by simp [hy])) fun y hy z hz=>h2 y (by simp [hy]) z (by simp [hz]),fun a ha b hb => ?_⟩;obtain ⟨y,hy,hb⟩:=List.mem_flatMap.1 hb;exact h2 x (by simp) y (by simp [hy]) (g1 y hy) a ha b hb
end Go.Ev
namespace Go.Ev
open Go Go.Proofs
variable {B:Nat}
set_option maxRecDepth 100000
def zi7 (L:List Ob) (p:AV×Sym):Prop:=∃ rid cap,p.1=.sl rid 0 p.2.1.length cap 1/\vW p.2.1.length cap/\Ob.arr rid (p.2.1.map I)∈L
theorem zi7.mono {L L':List Ob} {p:AV×Sym} (h:zi7 L p) (hl:∀ x∈L,x∈L'):zi7 L' p:=by
 obtain ⟨r,c,e,hc,m⟩:=h;exact ⟨r,c,e,hc,hl _ m⟩
section
variable {h0:T Blk} {n:Nat} {lines:List (List Int)} {b1 bo bc bu bd bk bz kb gm cb ub dn:Pa} {o:Nat->Option Pa}
end
end Go.Ev
namespace Go.Ev
open Go Go.Proofs
variable {B:Nat}
set_option maxRecDepth 100000
def rcL (n:Nat):List Sym:=(rcZ n ((n+1) / 2) []).map (rcE n)
theorem zqq {n:Nat} (hn1:1<=n) (hn:n<=9) (hD:(rcL n).Nodup) (hDS:∀ s∈rcL n,DS (n*n) s) (hlen:0<(rcL n).length/\(rcL n).length<=2000):Pure Tryz.prog B 30 [I n] (SetQ (rcL n)):=by
 refine yC fun h nx K H0 hK=>zM zP yh 1000 fun hf' => ?_;rw [F30.go,F30.t23,zA,F30.fG];refine H0.box (l:=[I n]) rfl fun nb h1 nx1 H1 => ?_;have ln:∀ op:AV->OP,zB (.ptr nb 0) h1 op=op (I n):=fun op=>H1.load (k:=0) (i:=0) rfl rfl;rw [F30.t22,zA,F30.t7,zA,F30.fK];simp only [ln,rC];refine zg3 _ _ _ _ ?_;rintro _ rfl _;simp only [ln,rC,zC,zuw hn1 (show n<=16 by omega),decide_eq_false (show ¬ (10:Int)<=(n:Int) by omega)];refine kF _ _ _ _ _ _ ?_;rintro _ rfl _;rw [if_neg (by decide)];refine H1.yc (l:=[I 0,I 0]) rfl fun tb h5 nx5 H5 => ?_;refine u9 (l:=[0,0]) H5 (k:=0) rfl (fun B=>vP (by simp)) (fun v hv=>by rw [hv];exact .int _ _) ?_;rintro _ rfl;rw [show gQ [0,0]=0 from rfl,F30.t6,zA,F30.rE,qm,decide_eq_true rfl,Zaf,F30.t5,zR,F30.v9,zE,yB,F30.t21,zA,F30.oL];refine H5.rF fun gm h6 nx6 H6 => ?_;refine H6.alloc fun gb h7 nx7 H7 => ?_;refine H7.store (k:=0) rfl (by simp) rfl fun h8 H8 => ?_;rw [F30.t20,zA,F30.ak,H8.load (k:=3) (i:=0) rfl rfl];refine H8.mk1 (z:=I 0) n rfl rfl (by omega) (by decide) fun qa h9 nx9 H9 => ?_;refine H9.alloc fun qb h10 nx10 H10 => ?_;refine H10.store (k:=0) rfl (by simp) rfl fun h11 H11 => ?_;rw [F30.t19,zA,F30.tq,H11.load (k:=5) (i:=0) rfl rfl];refine H11.mk1 (z:=.bool false) n rfl rfl (by omega) (by decide) fun ua h12 nx12 H12 => ?_;refine H12.alloc fun ub h13 nx13 H13 => ?_;refine H13.store (k:=0) rfl (by simp) rfl fun h14 H14 => ?_;rw [F30.t18,zA,F30.ze0];refine H14.alloc fun zb h15 nx15 H15 => ?_;rw [F30.t17,zA,F30.eP];refine H15.store (k:=0) rfl (by simp) rfl fun h16 H16 => ?_;have hu0:List.replicate n (AV.bool false)=qY n []:=by
  rw [zbs,qY];exact q8 fun j _=>by simp
 have hc0:List.replicate n (I 0)=(List.replicate n (0:Int)).map I:=by simp
 rw [hu0,hc0] at H16;have HA:Hp h h16 nx15 (Gr n nb gb qb ub zb gm qa ua [] [] (List.replicate n 0)++[]):=(H16.pick 9 [6,5,8,3,1,0,4,2] (by decide) (by decide)).cast rfl;rw [F30.t16,zA,F30.zad,HA.load (k:=5) (i:=0) rfl rfl,j3];show (CS Tryz.prog B).fn 77 (.of 77) [I (([]:List Nat).length:Int),.ptr nb 0,.ptr gb 0,.ptr qb 0,.ptr ub 0,.ptr zb 0] h16 nx15 _=_;refine zdp hn1 hn hD hDS ((n+1) / 2) [] (List.replicate n 0) [] [] [] _ h16 nx15 _ (by simp) (by simp) ⟨by simp,fun v hv=>by rw [(List.mem_replicate.1 hv).2];omega,fun i hi=>absurd hi (Nat.not_lt_zero i),fun i hi=>absurd hi (Nat.not_lt_zero i)⟩ (by rw [Zcp];rfl) (by simp) HA fun ps' A' q' h17 nx17 r1 r2 r3 H17 => ?_;have r2:ps'.map (·.2)=rcL n:=r2;rw [F30.t15,zA,F30.aS,H17.load (k:=1) (i:=0) rfl rfl];refine zg4 (D:=rcL n) (n:=n) (by omega) (H17.cast rfl) r2 hD (fun p hp=>(r3 p hp).mono fun x hx=>by simp [hx]) (fun p hp=>(hDS p.2 (r2 ▸ List.mem_map.2 ⟨p,hp,rfl⟩)).1) hlen.1 hlen.2 fun v h' nx' L s H' hf hp hs => ?_;simp only [yA,yP];rw [F30.ret];exact hK _ _ _ _ _ H' (uT hf (zK rfl)) ⟨s,hp,hs,rfl⟩
theorem zz7 {n c:Nat} {mv mv':Nat->Nat->Nat×Nat} (hc:c<n*n) (h:((sqM n mv,false):Sym)=(sqM n mv',false)):sqV n mv c=sqV n mv' c:=by
 have e:sqM n mv=sqM n mv':=congrArg Prod.fst h;have h1:(sqM n mv)[c]? = some (sqV n mv c):=by rw [sqM,List.getElem?_map,List.getElem?_range hc];rfl
 have h2:(sqM n mv')[c]? = some (sqV n mv' c):=by rw [sqM,List.getElem?_map,List.getElem?_range hc];rfl
 rw [e,h2] at h1;exact (Option.some.inj h1).symm
theorem zkr {n i j:Nat} {mv:Nat->Nat->Nat×Nat} (hj:j<n):sqV n mv (n*i+j)=((n*(mv i j).1+(mv i j).2:Nat):Int):=by
 unfold sqV;have d1:(n*i+j) / n=i:=by rw [Nat.mul_add_div (by omega),Nat.div_eq_of_lt hj];omega
 have d2:(n*i+j)%n=j:=by rw [Nat.mul_add_mod,Zbi hj]
 rw [d1,d2]
 push_cast
 rfl
theorem cell_lt {n i j:Nat} (hi:i<n) (hj:j<n):n*i+j<n*n:=by
 have h1:n*(i+1)<=n*n:=Nat.mul_le_mul_left n (by omega);have h2:n*(i+1)=n*i+n:=Nat.mul_succ n i;omega
theorem zks {n i j:Nat} {mv mv':Nat->Nat->Nat×Nat} (hi:i<n) (hj:j<n) (h:((sqM n mv,false):Sym)=(sqM n mv',false)):n*(mv i j).1+(mv i j).2=n*(mv' i j).1+(mv' i j).2:=by
 have:=zz7 (cell_lt hi hj) h;rw [zkr hj,zkr hj] at this;omega
theorem zi8 {n:Nat}:∀ a b a' b',a<n->b<n->a'<n->b'<n->tS n a b=tS n a' b'->a=a'/\b=b':=fun a b a' b' ha hb ha' hb' e=>by
 have e0:=zks (i:=0) (j:=0) (by omega) (by omega) e;simp only [mvT,Zav,Zbi ha,Zbi hb,Zbi ha',Zbi hb'] at e0;have d1:(n*a+b) / n=a:=by rw [Nat.mul_add_div (by omega),Nat.div_eq_of_lt hb];omega
 have d2:(n*a'+b') / n=a':=by rw [Nat.mul_add_div (by omega),Nat.div_eq_of_lt hb'];omega
 have h1:a=a':=by rw [<- d1,<- d2,e0]
 subst h1;exact ⟨rfl,by omega⟩
theorem zqr (n:Nat):(shL n n).Nodup:=by
 unfold shL;refine zkq (S:=fun a b=>a<n/\b<n/\a<b) ((List.Pairwise.and_mem.1 List.pairwise_lt_range).imp fun {a b} h=>⟨List.mem_range.1 h.1,List.mem_range.1 h.2.1,h.2.2⟩) (fun a ha => ?_) fun a _ b _ hab x hx y hy e => ?_
 ·rw [Zbl];refine (List.Pairwise.and_mem.1 List.pairwise_lt_range).imp ?_;rintro b c ⟨hb,hc,hbc⟩ e;have:=(zi8 a b a c (List.mem_range.1 ha) (List.mem_range.1 hb) (List.mem_range.1 ha) (List.mem_range.1 hc) e).2;omega
 ·obtain ⟨c,hc,rfl⟩:=List.mem_map.1 hx;obtain ⟨d,hd,rfl⟩:=List.mem_map.1 hy;have:=(zi8 a c b d hab.1 (List.mem_range.1 hc) hab.2.1 (List.mem_range.1 hd) e).1;omega
theorem zqs {n:Nat}:∀ (r:Nat) (pre:List Nat),(∀ x∈pre,x<n)->∀ f∈rcZ n r pre,∀ x∈f,x<n
 | 0,pre,h,f,hf=>by rw [rcZ,Zay] at hf;rw [hf];exact h
 | r+1,pre,h,f,hf=>by
  rw [rcZ,Zaw] at hf;obtain ⟨x,hx,hf⟩:=hf;split at hf
  ·cases hf
  ·exact zqs r _ (fun y hy=>by
    rcases List.mem_append.1 hy with q | q
    ·exact h y q
    ·rw [List.mem_singleton.1 q];exact List.mem_range.1 hx) f hf
theorem zqu {n:Nat}:∀ s∈rcL n,DS (n*n) s:=fun s hs=>by
 obtain ⟨pre,hp,rfl⟩:=List.mem_map.1 hs;exact zi6 fun i j hi hj=>zqp (zqs _ _ (by simp) pre hp) hi hj
theorem ztn {n:Nat} {a b:List Nat} (h:rcE n a=rcE n b):kA n a=kA n b:=by
 have hl:∀ c,(kA n c).length=n:=fun c=>by simp [kA]
 refine Zax fun i => ?_;by_cases hi:i<n
 ·have:=zks (i:=i) (j:=i) hi hi h;simp only [mvQ] at this;have e:(kA n a).getD i 0=(kA n b).getD i 0:=by
   have h2:(n+1)*(kA n a).getD i 0=(n+1)*(kA n b).getD i 0:=by rw [Nat.succ_mul,Nat.succ_mul];exact this
   exact Nat.eq_of_mul_eq_mul_left (by omega) h2
  rw [Zab,Zab,List.getElem?_eq_getElem (by rw [hl];exact hi),List.getElem?_eq_getElem (by rw [hl];exact hi)] at e;rw [List.getElem?_eq_getElem (by rw [hl];exact hi),List.getElem?_eq_getElem (by rw [hl];exact hi)];exact congrArg some e
 ·rw [List.getElem?_eq_none (by rw [hl];omega),List.getElem?_eq_none (by rw [hl];omega)]
abbrev rcQ (n:Nat):List (List Nat):=(rcZ n ((n+1) / 2) []).map (kA n)
def pK:Nat->Nat
 | 0=>1
 | k+1=>pK k*2*(k+1)
theorem zqv:((List.range 9).all fun n=>aF ((rcQ (n+1)).map fun q=>(zI q,false))&&decide ((rcQ (n+1)).length=pK ((n+1) / 2)))=true:=by decide +kernel
theorem zz8 {n:Nat} (h1:1<=n) (h9:n<=9):(rcQ n).Nodup/\(rcL n).length=pK (n / 2):=by
 have:=List.all_eq_true.1 zqv (n-1) (List.mem_range.2 (by omega));rw [show n-1+1=n by omega,Zad,decide_eq_true_eq] at this;obtain ⟨q1,q2⟩:=this;refine ⟨?_,by rw [<- q2];simp [rcL]⟩;have:=d8 q1;exact (List.pairwise_map.1 this).imp fun {a b} h e=>h (by rw [e])
theorem zqw {n:Nat} (h1:1<=n) (h9:n<=9):(rcL n).Nodup:=by
 have:=(zz8 h1 h9).1;unfold rcL;rw [List.Nodup,Zbl];exact (List.pairwise_map.1 this).imp fun {a b} h e=>h (ztn e)
theorem zkt {l:List (List UInt8)} {s:List UInt8} (hl:l.length<=1000):Pure Tryz.prog B 28 [zfz l,.str s] (· = .bool (decide (s∈l))):=by
 refine yC fun h nx K H0 hK=>zM zP yh 10000 fun hf => ?_;rw [F28.go,F28.t22,zA,F28.fG,F28.t21,zA,F28.t18,zA,F28.fK,zL,F28.t17,yI];refine F28.zxk (fun m x5 h' nx'=>∃ i:Nat,x5=I i/\m=l.length-i/\i<=l.length/\h'=h/\nx'=nx/\s∉l.take i) (m:=l.length) (by omega) ⟨0,rfl,by omega,by omega,rfl,rfl,by simp⟩ ?_;rintro m z2 z3 z5 z6 z7 h nx R ⟨i,rfl,rfl,hi,rfl,rfl,hn⟩ hR;rw [F28.t15,zA,F28.rE,jk];by_cases hlt:i<l.length
 case neg =>
  rw [decide_eq_false (by omega),F28.t14,zA,F28.t3,zR,F28.v6,zE,jP,uD,F28.t20,zA,F28.zmv];rw [Zap (by omega)] at hn;simp only [yA,yP];rw [F28.ret];exact hK _ _ _ _ _ H0 (zK rfl) (by rw [decide_eq_false hn])
 rw [decide_eq_true (by omega),F28.t14,zA,F28.t3,zR,F28.v6,zD,yB,F28.t13,zA,F28.t11,yI,F28.t10,zA,F28.t4_s,F28.t9,zA,F28.eH,cZ rfl hlt,ldL (getS hlt),zzx];by_cases c:l[i]=s
 ·rw [decide_eq_true c,F28.t8,zR,F28.v7,zD,F28.t7,zA,F28.tY];simp only [yA,pN,yP];rw [F28.ret];exact hK _ _ _ _ _ H0 (zK rfl) (by rw [decide_eq_true (by rw [<- c];exact Zal hlt)])
 ·rw [decide_eq_false c,F28.t8,zR,F28.v7,zE,yB,F28.eP,jf (by omega)];refine hR (l.length-(i+1)) _ _ _ _ _ _ _ (by omega) ⟨i+1,rfl,rfl,by omega,rfl,rfl,?_⟩;rw [Zaq,List.getElem?_eq_getElem hlt,Option.toList_some,Zat,Zay];exact fun q=>q.elim hn fun e=>c e.symm
theorem zb1 {n k:Nat} (h1:1<=n) (h2:n<=6) (hk:k<3):Pure Tryz.prog B 26 [.str (jG k),I (n:Int)] (· = sqVZ k n):=by
 match k,hk with
 | 0,_=>exact mZ zz0 ⟨h1,h2⟩
 | 1,_=>exact mZ zz1 ⟨h1,h2⟩
 | 2,_=>exact mZ zz2 ⟨h1,h2⟩
def srcP (p:List Int) (i:Nat):Nat:=p.idxOf (i:Int)
def dstP (p:List Int) (i:Nat):Nat:=(p.getD i 0).toNat
def zcj (N:Nat) (p:List Int):Bool:=decide (p.length=N)&&p.all (fun x=>decide (0<=x)&&decide (x<(N:Int)))&&(List.range N).all fun i=>decide (srcP p i<N)&&decide (dstP p i<N)&&decide (srcP p (dstP p i)=i)&&decide (dstP p (srcP p i)=i)
theorem zi9 {N:Nat} {p f:List Int} (hp:zcj N p=true) (hd:DP N (p,false)) (hf:f.length=N):jH false p f=pull N (srcP p) f:=by
 simp only [zcj,Zad,decide_eq_true_eq,Zae,Zam] at hp;obtain ⟨⟨p1,p2⟩,p3⟩:=hp;have hal:(jH false p f).length=f.length:=zdk ..;refine Zax fun i => ?_;by_cases hi:i<N
 ·obtain ⟨⟨⟨q1,q2⟩,q3⟩,q4⟩:=p3 i hi;have e:=apply_get (a:=(p,false)) hd hf q1;have e2:(p,false).1.getD (srcP p i) 0=(i:Int):=by
   have:(p.getD (srcP p i) 0).toNat=i:=q4;have hm:p.getD (srcP p i) 0∈p:=by
    rw [Zab,List.getElem?_eq_getElem (by omega)];exact Zal _
   have:=p2 _ hm;show p.getD (srcP p i) 0=_;omega
  rw [e2,Int.toNat_natCast] at e;rw [List.getElem?_eq_getElem (by omega),pull,List.getElem?_map,List.getElem?_range hi];show _=some (f.getD (srcP p i) 0);rw [<- List.getElem?_eq_getElem (by omega:i<(jH false p f).length)];simpa [xOf] using e
 ·rw [List.getElem?_eq_none (by omega),List.getElem?_eq_none (by rw [zch];omega)]
theorem zmj {N:Nat} {p f:List Int} (hp:zcj N p=true) (hf:f.length=N):pull N (dstP p) (pull N (srcP p) f)=f:=by
 simp only [zcj,Zad,decide_eq_true_eq,Zae,Zam] at hp;refine Zax fun i => ?_;by_cases hi:i<N
 ·obtain ⟨⟨⟨q1,q2⟩,q3⟩,q4⟩:=hp.2 i hi;rw [pull,List.getElem?_map,List.getElem?_range hi];show some ((pull N (srcP p) f).getD (dstP p i) 0)=_;rw [zgz q2,q3,Zab,List.getElem?_eq_getElem (by omega)];rfl
 ·rw [List.getElem?_eq_none (by rw [zch];omega),List.getElem?_eq_none (by omega)]
def zja (L:List (List Int)) (N:Nat) (p:List Int):Bool:=cloB L N (srcP p)&&cloB L N (dstP p)
theorem zqx {L:List (List Int)} {N:Nat} {p f:List Int} (hp:zcj N p=true) (hk:zja L N p=true) (hf:f.length=N):Cst L (pull N (srcP p) f)↔Cst L f:=by
 rw [zja,Zad] at hk;exact ⟨fun h=>by have:=zg0 hk.2 h;rwa [zmj hp hf] at this,zg0 hk.1⟩
def linB (L:List (List Int)) (p:List Int):Bool:=L.all fun l=>L.any fun m=>(imL p l).isPerm m&&ascB m
 where ascB:List Int->Bool
 | []=>true
 | [_]=>true
 | a::b::l=>decide (a<b)&&ascB (b::l)
theorem zqy:∀ l:List Int,linB.ascB l=true->l.Pairwise (· < ·)
 | [],_=>.nil
 | [_],_=>by simp
 | a::b::l,h=>by
  rw [linB.ascB,Zad,decide_eq_true_eq] at h;have ih:=zqy (b::l) h.2;refine List.pairwise_cons.2 ⟨fun x hx => ?_,ih⟩;rcases List.mem_cons.1 hx with rfl | hx
  ·exact h.1
  ·have:=(List.pairwise_cons.1 ih).1 x hx;omega
theorem zto {L:List (List Int)} {p:List Int} (h:linB L p=true):zkm L p=true:=by
 refine List.all_eq_true.2 fun l hl=>decide_eq_true ?_;obtain ⟨m,hm,e⟩:=List.any_eq_true.1 (List.all_eq_true.1 h l hl);rw [Zad] at e;rw [<- zb5 (List.isPerm_iff.1 e.1).symm ((zqy m e.2).imp fun h=>by omega)];exact hm
def moveB (n:Nat) (ks:List Nat) (p:List Int):Bool:=zcj (n*n) p&&ks.all fun k=>zja (sqL k n) (n*n) p&&linB (sqL k n) p
theorem zxb:((List.range 5).all fun n=>(List.range 3).all fun k=>decide (gA ((((n+1)*(n+1):Nat):Int)) (sqL k (n+1))=0))=true:=by decide +kernel
theorem zg7:((List.range 5).all fun n=>(shL (n+1) (n+1)).all fun s=>moveB (n+1) [0,2] s.1 && !s.2)=true:=by decide +kernel
theorem zmk:((List.range 5).all fun n=>(rcL (n+1)).all fun s=>moveB (n+1) [0,1] s.1 && !s.2)=true:=by decide +kernel
theorem zxc:((List.range 5).all fun n=>(List.range 3).all fun k=>(sqL k (n+1)).all fun l=>decide (l.length<=5))=true:=by decide +kernel
theorem zux {a b:Nat} {K:AV->OP} (hb:0<b):zf .rem .int (I (a:Int)) (I (b:Int)) K=K (I ((a%b:Nat):Int)):=by
 have e:zf .rem .int (I (a:Int)) (I (b:Int)) K=(bif ieq (b:Int) 0 then Out.no 5 else wo ((a:Int).tmod b) fun z=>K (.int .i64 z)):=rfl;have h0:ieq (b:Int) 0=false:=by rw [wD,beq_eq_false_iff_ne];omega
 rw [e,h0,cond_false,j8];rfl
theorem ztp {z:Int} {K:AV->OP} (h:0<=z/\z<256):kL .i64 (.int .u8 z) K=K (I z):=by
 show wo (kE .i64 z) (fun z=>K (.int .i64 z))=_;rw [j8,kX,uJ (by omega)]
theorem zqz {a b:AV} {l:List AV} {h:T Blk} {K:AV->OP}:zN 2 (.fp (a::b::l)) h K=K (.agg [a,b]):=nr rfl
theorem zq0 {a b:Bool} {K:AV->OP}:zf .neq .bool (.bool a) (.bool b) K=K (.bool (a != b)):=by cases a <;> cases b <;> exact nr rfl
theorem zg8 {n:Nat} {f:List Int} {K:AV->OP}:y9 [(I 0),(I 0),.zh] [(0,1,I (n:Int)),(1,1,I (n:Int)),(2,1,encI f)] K=K (.agg [I (n:Int),I (n:Int),encI f]):=nr rfl
structure Moved (n:Nat) (ks:List Nat) (s:Sym) (f:List Int):Prop where
 app:appV s f=.tup [encI (jH false s.1 f),I 0]
 len:(jH false s.1 f).length=n*n
 err:jQ n n (jH false s.1 f)=0
 cst:∀ k∈ks,mg k n (jH false s.1 f)=mg k n f
 kp:∀ k∈ks,zdl ((n*n:Nat):Int) (sqL k n) s.1=.tup [.bool true,I 0]
theorem zck {n k:Nat} (h1:1<=n) (h5:n<=5) (hk:k<3):gA ((n*n:Nat):Int) (sqL k n)=0/\∀ l∈sqL k n,l.length<=5:=by
 have a:=List.all_eq_true.1 (List.all_eq_true.1 zxb (n-1) (List.mem_range.2 (by omega))) k (List.mem_range.2 hk);have b:=List.all_eq_true.1 (List.all_eq_true.1 zxc (n-1) (List.mem_range.2 (by omega))) k (List.mem_range.2 hk);rw [show n-1+1=n by omega] at a b;exact ⟨of_decide_eq_true a,fun l hl=>of_decide_eq_true (List.all_eq_true.1 b l hl)⟩
theorem moved {n:Nat} {ks:List Nat} {s:Sym} {f:List Int} (h1:1<=n) (h5:n<=5) (hks:∀ k∈ks,k<3) (hm:(moveB n ks s.1 && !s.2)=true) (hd:DS (n*n) s) (hnd:s.1.Nodup) (hf:f.length=n*n) (hfe:wN f=0) (he:jQ n n f=0):Moved n ks s f:=by
 rw [Zad,moveB,Zad] at hm;obtain ⟨⟨hp,hk⟩,hs2⟩:=hm;have hs2:s.2=false:=by simpa using hs2
 have hdp:DP (n*n) (s.1,false):=⟨hd,hnd⟩;have hsy:jK s.1 ((n*n:Nat):Int)=0:=by
  have h25:n*n<=25:=Zba h5 h5;have hl:s.1.length=n*n:=hd.1;rw [jK,if_neg (by omega),if_neg (by omega),if_pos (DP.perm (a:=(s.1,false)) hdp)]
 have hpl:=zi9 hp hdp hf;have hlen:(jH false s.1 f).length=n*n:=by rw [hpl,zch]
 have hmem:∀ x∈jH false s.1 f,x∈f:=fun x hx=>by
  rw [hpl] at hx;obtain ⟨i,hi,rfl⟩:=List.mem_map.1 hx;have hi:=List.mem_range.1 hi;simp only [zcj,Zad,decide_eq_true_eq,Zae,Zam] at hp;have:=(hp.2 i hi).1.1.1;exact Zaa (show f[srcP s.1 i]? = some (f.getD (srcP s.1 i) 0) by rw [Zab,List.getElem?_eq_getElem (by omega)];rfl)
 have hfar:f.any aQ=false:=by
  rw [wN] at hfe;by_cases c:256<f.length
  ·rw [if_pos c] at hfe;cases hfe
  ·rw [if_neg c,uY] at hfe;cases q:f.any aQ with
   | false=>rfl
   | true=>rw [q] at hfe;cases hfe
 have zz9:(jH false s.1 f).any aQ=false:=List.any_eq_false.2 fun x hx q=>List.any_eq_false.1 hfar x (hmem x hx) q;have hfl:f.any eF=false:=by
  unfold jQ at he;by_cases c1:(n:Int)≠n\/(n:Int)<0\/1000<(n:Int)\/(f.length:Int)≠n*n
  ·rw [if_pos c1] at he;cases he
  ·rw [if_neg c1,if_neg (by omega)] at he;cases q:f.any eF with
   | false=>rfl
   | true=>rw [q] at he;cases he
 have hfl2:(jH false s.1 f).any eF=false:=List.any_eq_false.2 fun x hx q=>List.any_eq_false.1 hfl x (hmem x hx) q;refine ⟨?_,hlen,?_,fun k hk' => ?_,fun k hk' => ?_⟩
 ·have e0:appE s f=0:=by
   rw [appE,if_neg (fun q=>q hfe),hf,if_neg (fun q=>q hsy),hs2,uY,zz9];rfl
  rw [appV,if_neg (fun q=>q e0),hs2]
 ·rw [jQ,if_neg (by rw [hlen];simp;omega),if_neg (by omega),hfl2];rfl
 ·have hq:=List.all_eq_true.1 hk k hk';rw [Zad] at hq;rw [hpl];exact zaf (by rw [zp9,zp9];exact zqx hp hq.1 hf)
 ·have hq:=List.all_eq_true.1 hk k hk';rw [Zad] at hq;have:=(zck h1 h5 (hks k hk')).1;have e0:bO ((n*n:Nat):Int) (sqL k n) s.1=0:=by rw [bO,if_neg (fun q=>q this),hsy]
  rw [zdl,if_neg (fun q=>q e0),zto hq.2]
theorem zew {n k:Nat} {f:List Int} (hk:k<3):decide (jG k∈kinR n f)=mg k n f:=by
 obtain ⟨q0,q1,q2,_⟩:=zw7 (nrm f) (mg 0 n f) (mg 1 n f) (mg 2 n f) (asc n f) (mper n f) (bord n f) (bim n f)
 match k,hk with
 | 0,_=>exact q0
 | 1,_=>exact q1
 | 2,_=>exact q2
theorem kinL (n:Nat) (f:List Int):(kinR n f).length<=1000:=Zbm (zix knm _) (by decide)
theorem zq1 {r c:Int} {f:List Int} (h:jQ r c f=0):r=c/\1<=r/\r<=16/\(f.length:Int)=r*r:=by
 unfold jQ at h;by_cases c1:r≠c\/r<0\/1000<r\/(f.length:Int)≠r*r
 ·rw [if_pos c1] at h;cases h
 ·rw [if_neg c1] at h;by_cases c2:r<1\/16<r
  ·rw [if_pos c2] at h;cases h
  ·omega
end Go.Ev
