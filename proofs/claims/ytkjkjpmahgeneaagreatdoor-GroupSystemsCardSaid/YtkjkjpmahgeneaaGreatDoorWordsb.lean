import Derived.Test.YtkjkjpmahgeneaaGreatDoorWordsa
import Derived.Test.YtkjkjpmahgeneaaGreatDoorCodea
import Derived.Test.YtkjkjpmahgeneaaGreatDoorEvD
import Derived.IntWalk
import Derived.Test.YtkjkjpmahgeneaaGreatDoorLaws
import Derived.Shelf.SlSortCmp.Whole1
import Derived.Deep.Slices
import Derived.Sort.Grow
import Derived.Sort.Row
import Derived.Test.YtkjkjpmahgeneaaGreatDoorIrT
import Derived.KernelRfl
set_option linter.unusedSimpArgs false
set_option linter.unusedVariables false
noncomputable section
namespace Go.Ev
open Go Go.Proofs
variable {B:Nat}
def insP (x:AV×Sym):List (AV×Sym)->List (AV×Sym)
 | []=>[x]
 | y::l=>if bZ x.2 y.2<=0 then x::y::l else y::insP x l
def srtP:List (AV×Sym)->List (AV×Sym)
 | []=>[]
 | x::l=>insP x (srtP l)
theorem mH (x:AV×Sym):∀ l,(insP x l).Perm (x::l)
 | []=>.refl _
 | y::l=>by
  rw [insP];split
  ·exact .refl _
  ·exact ((mH x l).cons y).trans (.swap x y l)
theorem p5:∀ l,(srtP l).Perm l
 | []=>.refl _
 | x::l=>(mH x _).trans ((p5 l).cons x)
theorem zch {a b c:Sym} (h1:bZ a b<=0) (h2:bZ b c<=0):bZ a c<=0:=by
 have n1:=kB a b;have n2:=kB b c;have n3:=kB a c;have:=vU (a:=c) (b:=b) (c:=a) (by omega) (by omega);omega
theorem zga {x:AV×Sym}:∀ {l:List (AV×Sym)},l.Pairwise (fun a b=>bZ a.2 b.2<=0)->(insP x l).Pairwise (fun a b=>bZ a.2 b.2<=0)
 | [],_=>by simp [insP]
 | y::l,h=>by
  have h':=List.pairwise_cons.1 h;rw [insP];split
  ·rename_i c;refine List.pairwise_cons.2 ⟨fun z hz => ?_,h⟩;rcases List.mem_cons.1 hz with rfl | r
   ·exact c
   ·exact zch c (h'.1 z r)
  ·rename_i c;refine List.pairwise_cons.2 ⟨fun z hz => ?_,zga h'.2⟩;rcases List.mem_cons.1 ((mH x l).mem_iff.1 hz) with rfl | r
   ·have:=kB z.2 y.2;omega
   ·exact h'.1 z r
theorem zb4:∀ l,(srtP l).Pairwise (fun a b=>bZ a.2 b.2<=0)
 | []=>.nil
 | _::l=>zga (zb4 l)
def zgb:List AV->Option (List Int)
 | []=>some []
 | .int .i64 v::l=>match zgb l with
  | some r=>some (v::r)
  | none=>none
 | _=>none
theorem zgc:∀ {l:List AV} {xs:List Int},zgb l=some xs->l=xs.map I
 | [],xs,h=>by rw [zgb] at h;cases h;rfl
 | a::l,xs,h=>by
  unfold zgb at h;split at h
  ·rename_i he;cases he
  ·rename_i v l' he;cases he
   split at h
   ·rename_i r hr;cases h
    rw [zgc hr];rfl
   ·cases h
  ·cases h
def zh6 (h:T Blk) (a:AV):Option (Pa×List Int):=match a with
 | .sl rid off n (some c) e=>match T.get .no rid h with
  | .cells _ m t=>if off=0/\e=1/\m=n/\c=n then (match zgb (yJ t 0 n) with
   | some l=>some (rid,l)
   | none=>none) else none
  | _=>none
 | _=>none
theorem zk7 {h:T Blk} {a:AV} {rid:Pa} {l:List Int} (e:zh6 h a=some (rid,l)):a=.sl rid 0 l.length (some l.length) 1/\jc h rid (l.map I):=by
 unfold zh6 at e;split at e
 case h_2=>cases e
 rename_i r off n c ee he0;split at e
 case h_2=>cases e
 rename_i op m t ht;split at e
 case isFalse=>cases e
 rename_i hc;obtain ⟨rfl,rfl,rfl,rfl⟩:=hc;split at e
 case h_2=>cases e
 rename_i l' hl;cases e
 have e1:=zgc hl;have e2:l.length=ee:=by
  have:=congrArg List.length e1;rw [Zaq,uR] at this;exact this.symm
 subst e2;exact ⟨rfl,op,t,by rw [Zaq];exact ht,by rw [Zaq];exact e1⟩
def zb5 (h:T Blk):List (AV×AV)->Option (List (Pa×(AV×Sym)))
 | []=>some []
 |(.str k,.agg [a,.bool c])::es=>match zh6 h a,zb5 h es with
  | some (rid,l),some r=>if xk (l,c)=k then some ((rid,(a,(l,c)))::r) else none
  | _,_=>none
 | _=>none
theorem zc6 {h:T Blk}:∀ {es:List (AV×AV)} {r:List (Pa×(AV×Sym))},zb5 h es=some r->es=ak (r.map (·.2))/\∀ x∈r,x.2.1=.sl x.1 0 x.2.2.1.length (some x.2.2.1.length) 1/\jc h x.1 (x.2.2.1.map I)
 | [],r,e=>by rw [zb5] at e;cases e;exact ⟨rfl,fun x hx=>by cases hx⟩
 | p::es,r,e=>by
  unfold zb5 at e;split at e
  ·rename_i he;cases he
  ·rename_i k a c es' he;cases he
   split at e
   ·rename_i rid l r' h1 h2;split at e
    ·rename_i hk;cases e
     obtain ⟨i1,i2⟩:=zc6 h2;obtain ⟨j1,j2⟩:=zk7 h1;refine ⟨by rw [i1,<- hk];rfl,fun x hx => ?_⟩;rcases List.mem_cons.1 hx with rfl | q
     ·exact ⟨j1,j2⟩
     ·exact i2 x q
    ·cases e
   ·cases e
  ·cases e
def zjd (f:Nat) (a:List AV) (h:T Blk):Option (AV×T Blk):=if f=99 then (match a with
 | [.map g]=>match T.get .no g h with
  | .map n es=>match zb5 h es with
   | some r=>if n=es.length/\0<r.length/\r.length<=2000/\((g::r.map (·.1)).map Pa.toNat).Nodup/\(r.map (·.2.2)).Nodup/\(∀ x∈r,x.2.2.1.length<=1000000) then some (jd ((srtP (r.map (·.2))).map (·.2)),zb2 (g::r.map (·.1)) h) else none
   | none=>none
  | _=>none
 | _=>none) else none
theorem zb6:∀ (qs:List Sym),(yN qs).all jf=true
 | []=>rfl
 | _::qs=>zb6 qs
theorem mM:∀ (ps:List Sym) (i:Nat),(yN ps)[i]? = (ps[i / 2]?).map fun p=>if i%2=0 then encI p.1 else .bool p.2
 | [],i=>by simp [yN]
 | p::ps,0=>rfl
 | p::ps,1=>rfl
 | p::ps,i+2=>by
  rw [show (i+2) / 2=i / 2+1 by omega,show (i+2)%2=i%2 by omega,List.getElem?_cons_succ,<- mM ps i]
  rfl
theorem d6 {α β:Type} {f:α->β}:∀ {l:List α},(l.map f).Nodup->l.Nodup
 | [],_=>.nil
 | a::l,h=>by
  rw [List.map_cons,Zbr] at h;exact List.nodup_cons.2 ⟨fun m=>h.1 (List.mem_map.2 ⟨a,m,rfl⟩),d6 h.2⟩
theorem zfq:JOk Tryz.prog B zjd:=by
 intro E h nx w f args vs v h2 H hv hj;unfold zjd at hj;split at hj
 case isFalse=>cases hj
 rename_i hf;subst hf;split at hj
 case h_2=>cases hj
 rename_i g;split at hj
 case h_2=>cases hj
 rename_i n es hg;split at hj
 case h_2=>cases hj
 rename_i r hr;split at hj
 case isFalse=>cases hj
 rename_i hc;obtain ⟨rfl,hr0,hrl,hnd1,hnd2,hlen⟩:=hc;cases hj
 have hnd1:=d6 hnd1;obtain ⟨rfl,hrow⟩:=zc6 hr;have names:(Ob.map g (ak (r.map (·.2)))::r.map fun x=>Ob.arr x.1 (x.2.2.1.map I)).flatMap Ob.names=g::r.map (·.1):=by
  have e:∀ r:List (Pa×(AV×Sym)),(r.map fun x=>Ob.arr x.1 (x.2.2.1.map I)).flatMap Ob.names=r.map (·.1):=by
   intro r
   induction r with
   | nil=>rfl
   | cons x r ih=>show x.1::_=x.1::_;rw [<- ih];rfl
  show g::_=_;rw [<- e];rfl
 have H0:Hp (zb2 (g::r.map (·.1)) h) h nx (.map g (ak (r.map (·.2)))::r.map fun x=>.arr x.1 (x.2.2.1.map I)):=⟨fun j hj=>by
   by_cases q:j∈g::r.map (·.1)
   ·exact absurd (zb3 _ h j (.inl q)) hj
   ·exact (zc5 _ h j q).symm,fun y hy=>by
   rcases List.mem_cons.1 hy with rfl | q
   ·exact hg
   ·obtain ⟨x,hx,rfl⟩:=List.mem_map.1 q;exact (hrow x hx).2,fun m hm=>zb3 _ h m (.inl (by rw [names] at hm;exact hm)),by rw [names];exact hnd1,H.fr⟩
 refine zqu (h0:=zb2 (g::r.map (·.1)) h) H0.keep (fun K hK => ?_) H hv;have hp:=p5 (r.map (·.2));refine zjm (k:=0) (q:=r.map (·.2)) (s:=srtP (r.map (·.2))) H0 rfl (by rw [Zaq];exact hr0) (by rw [Zaq];exact hrl) (fun p hq => ?_) (by rw [List.map_map];exact hnd2) hp (zb4 _) fun o h' nx' A H'=>hK _ _ _ H'.fr H'.keep ?_
 ·obtain ⟨x,hx,rfl⟩:=List.mem_map.1 hq;exact ⟨.inr ⟨x.1,(hrow x hx).1,Zao _ (List.mem_map.2 ⟨x,hx,rfl⟩)⟩,hlen x hx⟩
 ·have:=zqv (k:=0) (l':=yN ((srtP (r.map (·.2))).map (·.2))) H' rfl (by rw [u4,qG,Zaq]) (zb6 _) fun i a b h1 h2 => ?_
  ·show sU _ _ (ku o 2 _) (.lst 2 ((srtP (r.map (·.2))).map (·.2)).length _);rw [Zaq];exact this
  rw [wO] at h1;rw [mM,List.getElem?_map] at h2;cases hx:(srtP (r.map (·.2)))[i / 2]? with
  | none=>rw [hx] at h1;cases h1
  | some p =>
   rw [hx] at h1 h2;simp only [Zbu,Option.some.injEq] at h1 h2;subst h1;subst h2;by_cases c:i%2=0
   ·rw [if_pos c,if_pos c];obtain ⟨x,hxm,rfl⟩:=List.mem_map.1 (hp.mem_iff.1 (Zaa hx));rw [(hrow x hxm).1];have hin:Ob.arr x.1 (x.2.2.1.map I)∈(.gro o 2 (srtP (r.map (·.2))).length (jJ (srtP (r.map (·.2))))::(A++(.map g (ak (r.map (·.2)))::r.map fun x=>Ob.arr x.1 (x.2.2.1.map I)))):=by
     refine Zao _ (List.mem_append_right _ (Zao _ (List.mem_map.2 ⟨x,hxm,rfl⟩)))
    obtain ⟨k,hk⟩:=List.getElem?_of_mem hin;exact H'.zd7 hk (by show pL _ (some _);simp [pL]) (by simp) (fun v hv=>by obtain ⟨z,_,rfl⟩:=List.mem_map.1 hv;rfl)
   ·rw [if_neg c,if_neg c];exact zJ rfl
end Go.Ev
namespace Go.Ev
open Go Go.Proofs
variable {B:Nat}
set_option maxRecDepth 100000
theorem zwd {α:Type} (a b c d e f g:α) (L:List α):(a::b::c::d::e::f::g::L).Perm (b::c::e::([a,d,f,g]++L)) :=
 (List.Perm.swap b a _).trans (.cons b ((List.Perm.swap c a _).trans (.cons c (((List.Perm.swap e d _).cons a).trans (List.Perm.swap e a _)))))
def subE (G S:List Sym) (n:Int):Int:=if jK G n≠0 then jK G n else if jK S n≠0 then jK S n else if S.all (fun a=>decide (a∈G)) then 0 else 28
theorem mR {h0 h:T Blk} {nx p:Pa} {K:Kw Prop} {L:List Ob} {n:Int} {G S:List Sym} (hG:G.length<=100000) (hw:∀ g∈G,g.1.length<=100000) (hS:S.length<=100000) (hw2:∀ g∈S,g.1.length<=100000) (H:Hp h0 h nx L)
  (hbad:∀ e h' nx' X,e=subE G S n->e≠0->Hp h0 h' nx' (X++L)->K (.tup [.jm,.agg [.zh,.zh],I e]) h' nx'=.ok True)
  (hok:∀ (n':Nat) (u1 q1 u2 q2:List Sym) g o1 o2 h' nx' X,n=n'->fU G n'->fU S n'->subE G S n=0->(∀ c∈u1,c∈G)->u1.length<=G.length->CloS n' u1 q1->(∀ a,a∈q1↔a∈G)->(∀ c∈u2,c∈S)->u2.length<=S.length->CloS n' u2 q2->(∀ a,a∈q2↔a∈S)->(∀ a∈S,a∈G) ->
   Hp h0 h' nx' (.map g (wo q2)::.gro o2 2 u2.length (yN u2)::.gro o1 2 u1.length (yN u1)::(X++L))->K (.tup [.map g,.agg [ku o1 2 u1.length,ku o2 2 u2.length],I 0]) h' nx'=.ok True) :
  (CS Tryz.prog B).fn 120 p [jd G,jd S,I n] h nx K=.ok True:=by
 refine jH (p:=.of 120) (K:=K) (zS zW yt 10000000 fun hf => ?_) fun _ _ _ _ q=>q;rw [zk.go,zk.t40,zA,zk.rV];refine H.alloc fun b4 h1 nx1 H1 => ?_;rw [zk.t39,zA,zk.rW];refine H1.alloc fun b6 h2 nx2 H2 => ?_;rw [zk.t38,zA,zk.rX];refine zeh hG hw H2 (fun h3 nx3 hg H3 => ?_) fun n' u1 q1 g1 o1 h3 nx3 hn ok1 hg1 hu1 hul1 hC1 hnd1 hq1 H3 => ?_
 ·rw [yM,yO,yV,zk.t37,zA,zk.t7,zA,zk.ay,gy,decide_eq_false hg,Zae,zk.t6,zK,zk.v13,zD,zk.t5,zA,zk.t4_s,H3.zi (k:=0) (n:=2) rfl rfl];refine H3.qm (k:=1) (n:=2) rfl rfl rfl fun h4 H4 => ?_;rw [zB];simp only [yX,jZ];rw [zk.ret,H4.zi (k:=1) (n:=2) rfl rfl];exact hbad _ _ _ [_,_] (by rw [subE,if_pos hg]) hg H4
 rw [yM,yO,yV,zk.t37,zA,zk.t7,zA,zk.ay,gy,decide_eq_true rfl,Zad,zk.t6,zK,zk.v13,zC,zX,zk.t36,zA,zk.eH];refine zeh hS hw2 H3 (fun h4 nx4 hg H4 => ?_) fun n2 u2 q2 g2 o2 h4 nx4 hn2 ok2 hg2 hu2 hul2 hC2 hnd2 hq2 H4 => ?_
 ·rw [yM,yO,yV,zk.t35,zA,zk.t13,zA,zk.sF,gy,decide_eq_false hg,Zae,zk.t12,zK,zk.v14,zD,zk.t11,zA,zk.aA,H4.zi (k:=2) (n:=2) rfl rfl];refine H4.qm (k:=3) (n:=2) rfl rfl rfl fun h5 H5 => ?_;rw [zB];simp only [yX,jZ];rw [zk.ret,H5.zi (k:=3) (n:=2) rfl rfl];exact hbad _ _ _ [_,_,_,_] (by rw [subE,if_neg (by simp [hg1]),if_pos hg]) hg H5
 subst hn;obtain rfl:n'=n2:=by omega
 rw [yM,yO,yV,zk.t35,zA,zk.t13,zA,zk.sF,gy,decide_eq_true rfl,Zad,zk.t12,zK,zk.v14,zC,zX,zk.t34,zA,zk.t29,zA,zk.oC];refine H4.range (k:=0) rfl fun it h5 nx5 H5 => ?_;have hlen:(wo q2).length=q2.length:=by simp [wo]
 have hql:q2.length<=S.length:=lenG hnd2 fun a ha=>(hq2 a).1 ha;have oU:n'<=256:=ok1.n256;have hd1:∀ b∈q1,DS n' b:=fun b hb=>(ok1.dp b ((hq1 b).1 hb)).1;rw [zk.t28,yB]
 refine zk.ztx (fun m' h' nx'=>∃ seen:List Nat,(gT q2.length seen).length=m'/\(∀ i∈seen,∀ a,q2[i]? = some a->a∈G) /\
  Hp h0 h' nx' (.iter it g2 (wo q2).length seen (wo q2).length::.map g2 (wo q2)::.gro o2 2 u2.length (yN u2)::.map g1 (wo q1)::.gro o1 2 u1.length (yN u1)::.arr b6 [.zh,.zh]::.arr b4 [.zh,.zh]::L)) (m:=q2.length) (by omega)
  ⟨[],by (have e:gT q2.length []=List.range q2.length:=List.filter_eq_self.2 (by simp));rw [e];simp,by simp,H5⟩ ?_
 rintro m' z3 z5 z12 z16 z17 h6 nx6 R ⟨seen,rfl,hse,H6⟩ hR;rw [zk.t26,zA,zk.aB];refine H6.next (k:=0) (j:=1) rfl rfl (fun hall => ?_) fun i a b h7 hi hnin hab H7 => ?_
 ·have hsub:∀ a∈S,a∈G:=fun a ha=>by
   obtain ⟨i,hi⟩:=List.getElem?_of_mem ((hq2 a).2 ha);exact hse i (hall i (by rw [hlen];exact (List.getElem?_eq_some_iff.1 hi).1)) a hi
  rw [yM,zk.t25,zA,zk.t16,zK,zk.v16,zC,jT,gN,zk.t33,zA,zk.zlo,sAx0];refine H6.store (k:=5) rfl (by simp) (uF _ _ _) fun h7 H7 => ?_;rw [sAx1];refine H7.store (k:=5) rfl (by simp) (uF _ _ _) fun h8 H8 => ?_;rw [zk.t32,zA,zk.zad,H8.zi (k:=5) (n:=2) rfl rfl];refine H8.qm (k:=6) (n:=2) rfl rfl rfl fun h9 H9 => ?_;simp only [yX,jZ];rw [zk.ret,H9.zi (k:=6) (n:=2) rfl rfl];refine hok n' u1 q1 u2 q2 g2 o1 o2 _ _ [_,_,_,_] rfl ok1 ok2 (by rw [subE,if_neg (by simp [hg1]),if_neg (by simp [hg2]),if_pos (List.all_eq_true.2 fun a ha=>decide_eq_true (hsub a ha))]) hu1 hul1 hC1 hq1 hu2 hul2 hC2 hq2 hsub (H9.perm (zwd _ _ _ _ _ _ _ _))
 ·have hi':i<q2.length:=by rw [<- hlen];exact hi
  have hx:q2[i]? = some q2[i]:=List.getElem?_eq_getElem hi';have hent:(wo q2)[i]? = some (.str (xk q2[i]),encS q2[i]):=by rw [wo,List.getElem?_map,hx];rfl
  rw [hent] at hab;cases hab
  rw [yM,zk.t25,zA,zk.t16,zK,zk.v16,zD,zX,zk.t24,yB,zk.t23,zA,zk.aS,H7.entry (k:=0) (j:=1) rfl rfl hent,yO];refine H7.alloc fun b5 h8 nx8 H8 => ?_;refine H8.qm (k:=0) (n:=2) rfl rfl rfl fun h9 H9 => ?_;rw [zk.t22,zA,zk.zln,H9.zi (k:=0) (n:=2) rfl rfl];have hd2:DS n' q2[i]:=(ok2.dp _ ((hq2 _).1 (Zai hi'))).1;refine zby (a:=q2[i]) oU hd2 hd1 H9 (k:=4) rfl ?_;rw [yA,zk.t21,zK,zk.v17];by_cases c:q2[i]∈q1
  ·rw [decide_eq_true c,Zad,zC,zX];refine hR _ _ _ _ _ _ _ _ (show (gT q2.length (i::seen)).length<_ by have:=zbi hi' hnin;omega) ⟨i::seen,rfl,fun j hj a ha => ?_,H9.drop⟩;rcases List.mem_cons.1 hj with rfl | r
   ·rw [hx] at ha;cases ha;exact (hq1 _).1 c
   ·exact hse j r a ha
  ·rw [decide_eq_false c,Zae,zD,zk.t20,zA,zk.zac,H9.zi (k:=6) (n:=2) rfl rfl];refine H9.qm (k:=7) (n:=2) rfl rfl rfl fun h10 H10 => ?_;simp only [yX,zhd,jZ];rw [zk.ret,H10.zi (k:=7) (n:=2) rfl rfl];refine hbad 28 _ _ [_,_,_,_,_,_,_,_] ?_ (by decide) H10;rw [subE,if_neg (by simp [hg1]),if_neg (by simp [hg2]),if_neg];intro hall;have:=List.all_eq_true.1 hall q2[i] ((hq2 _).1 (Zai hi'));exact c ((hq1 _).2 (of_decide_eq_true this))
def zbq (l:List Sym) (n:Int):Int:=if n<0\/256<n then 3 else if 256<l.length then 5 else jL n l
def zjb (l:List Sym) (n:Int) (v:AV):Prop:=if zbq l n≠0 then v=.tup [.zh,I (zbq l n)] else ∃ n':Nat,n=n'/\n'<=256/\(∀ a∈l,DP n' a) /\
 ((bJ n' 1536 l/\v=.tup [.zh,I 20])\/∃ u q s,(∀ c∈u,c∈l)/\(∀ a∈l,a∈q)/\q.Nodup/\CloS n' u q/\q.length<=1536/\s.Perm q/\s.Pairwise (fun a b=>bZ a b<=0)/\v=.tup [jd s,I 0])
abbrev fxP (a:Sym):AV×Sym:=(encI a.1,a)
theorem zek:∀ q:List Sym,(q.map fxP).map (·.2)=q
 | []=>rfl
 | a::q=>congrArg (a :: ·) (zek q)
theorem zqw (q:List Sym):∃ s:List Sym,s.Perm q/\s.Pairwise (fun a b=>bZ a b<=0) :=
 ⟨(srtP (q.map fxP)).map (·.2),by have:=(p5 (q.map fxP)).map (·.2);rw [zek] at this;exact this,List.pairwise_map.2 (zb4 _)⟩
theorem zqx (q:List Sym):ak (q.map fxP)=wo q:=by simp [ak,wo]
theorem zgd:∀ q:List Sym,jJ (q.map fxP)=yN q
 | []=>rfl
 | a::q=>by
  show encI a.1::.bool a.2::jJ (q.map fxP)=_;rw [zgd q];rfl
theorem dM {q:List Sym}:∀ v∈yN q,fO v=true:=fun v hv=>by
 obtain ⟨x,_,hx⟩:=List.mem_flatMap.1 hv;simp only [Zah,List.not_mem_nil,or_false] at hx;rcases hx with rfl | rfl
 ·exact wP _
 ·rfl
theorem zkr {l:List Sym} {n:Int} (hl:l.length<=100000) (hw:∀ g∈l,g.1.length<=100000):Pure Tryz.prog B 27 [jd l,I n] (zjb l n):=by
 refine y8 fun h nx K H0 hK=>zS zW yt 1000 fun hf' => ?_;rw [F27.go,F27.t27,zA,F27.rV,F27.t26,zA,F27.t7,zA,F27.rW]
 (refine zbx n _ _ _ _ ?_;rintro _ rfl _)
 rw [zG,qy]
 (refine qY _ _ _ _ _ _ ?_;rintro _ rfl _)
 refine H0.yc (l:=[I (if n<0\/256<n then 3 else 0),I (if decide ((256:Int)<(l.length:Int))=true then 5 else 0)]) rfl fun tb h1 nx1 H1 => ?_;refine kK (l:=[if n<0\/256<n then 3 else 0,if decide ((256:Int)<(l.length:Int))=true then 5 else 0]) H1 (k:=0) rfl (fun B=>xU (by simp)) (fun v hv=>by rw [hv];exact .int _ _) ?_;rintro _ rfl;have fE:gY [if n<0\/256<n then (3:Int) else 0,if decide ((256:Int)<(l.length:Int))=true then 5 else 0]=if n<0\/256<n then 3 else if 256<l.length then 5 else 0:=by
  by_cases c1:n<0\/256<n
  ·rw [if_pos c1,if_pos c1];rfl
  rw [if_neg c1,if_neg c1];by_cases c2:256<l.length
  ·rw [decide_eq_true (show (256:Int)<(l.length:Int) by omega),if_pos c2];rfl
  ·rw [decide_eq_false (show ¬ (256:Int)<(l.length:Int) by omega),if_neg c2];rfl
 rw [fE,F27.t6,zA,F27.rX,gy,F27.t5,zK,F27.v8];have bad:∀ (e:Int) h' nx' L',Hp h h' nx' L'->e=zbq l n->e≠0->K (.tup [.zh,I e]) h' nx'=.ok True:=fun e h' nx' L' H' he hne =>
  hK _ _ _ _ _ H' (uT (zJ rfl) (zJ rfl)) (by rw [zjb,<- he,if_pos hne])
 by_cases c1:(if n<0\/256<n then (3:Int) else if 256<l.length then 5 else 0)=0
 case neg =>
  rw [decide_eq_false c1,Zae,zD,F27.t4,zA,F27.ay];simp only [yX,jZ];rw [F27.ret];refine bad _ _ _ _ H1 ?_ c1;rw [zbq];split at c1
  ·rename_i q;rw [if_pos q,if_pos q]
  ·rename_i q;rw [if_neg q,if_neg q];split at c1
   ·rename_i q;rw [if_pos q,if_pos q]
   ·exact absurd rfl c1
 rw [decide_eq_true c1,Zad,zC,zX,F27.t25,zA,F27.t14,zA,F27.eH];obtain ⟨c2,c3⟩:¬ (n<0\/256<n)/\¬ 256<l.length:=by
  split at c1
  ·omega
  ·rename_i q;split at c1
   ·omega
   ·rename_i q2;exact ⟨q,q2⟩
 have e0:zbq l n=jL n l:=by rw [zbq,if_neg c2,if_neg c3]
 refine mZ hl hw _ _ _ _ ?_;rintro _ rfl _;rw [F27.t13,zA,F27.sF,gy,F27.t12,zK,F27.v9];by_cases c4:jL n l=0
 case neg =>
  rw [decide_eq_false c4,Zae,zD,F27.t11,zA,F27.aA];simp only [yX,jZ];rw [F27.ret];exact bad _ _ _ _ H1 e0.symm c4
 rw [decide_eq_true c4,Zad,zC,zX,F27.t24,zA,F27.aB];obtain ⟨n',rfl⟩:∃ n':Nat,n=(n':Int):=⟨n.toNat,by omega⟩;have hdp:∀ g∈l,DP n' g:=fun g hg=>by
  obtain ⟨_,q2,q3⟩:=gG (qL c4 g hg);exact DP.of q3 (by omega)
 have oU:n'<=256:=by omega
 have good:∀ {v h' nx' L' v'},Hp h h' nx' L'->sU h h' v v'->((bJ n' 1536 l/\v'=.tup [.zh,I 20])\/∃ u q s,(∀ c∈u,c∈l)/\(∀ a∈l,a∈q)/\q.Nodup/\CloS n' u q/\q.length<=1536/\s.Perm q/\s.Pairwise (fun a b=>bZ a b<=0)/\v'=.tup [jd s,I 0])->K v h' nx'=.ok True:=fun H' hF hq =>
  hK _ _ _ _ _ H' hF (by rw [zjb,e0,if_neg (by simp [c4])];exact ⟨n',rfl,oU,hdp,hq⟩)
 refine zbz (n:=n') (limit:=1536) oU (by omega) (by omega) (fun g hg=>(hdp g hg).1) (by omega) H1 (fun h16 nx16 hT H16 => ?_) fun u q g o h16 nx16 hu _ hin hqn hC hql H16 => ?_
 ·rw [yM,yO,yV,F27.t23,zA,F27.t20,zA,F27.rY,yA,Zae,F27.t19,zK,F27.v10,zD,F27.t18,zA,F27.aS];simp only [yX,jZ];rw [F27.ret];exact good H16 (uT (zJ rfl) (zJ rfl)) (.inl ⟨hT,rfl⟩)
 rw [yM,yO,yV,F27.t23,zA,F27.t20,zA,F27.rY,yA,Zad,F27.t19,zK,F27.v10,zC,zX,F27.t22,zA,F27.zty];have hdq:∀ a∈q,DP n' a:=hC.dom (jY n') fun b hb=>hdp b (hu b hb);have hone:idS n'∈q:=hC.one;have hq0:0<q.length:=List.length_pos_of_mem hone;obtain ⟨s,hs1,hs2⟩:∃ s:List Sym,s.Perm q/\s.Pairwise (fun a b=>bZ a b<=0):=by
  exact zqw q
 have hsm:=zek;have he:(Ob.map g (wo q))=.map g (ak (q.map fxP)):=by rw [zqx]
 rw [he] at H16;refine zjm (k:=0) (q:=q.map fxP) (s:=s.map fxP) H16 rfl (by simpa using hq0) (by simp;omega) (fun a ha => ?_) (by rw [hsm];exact hqn) (hs1.map _) (List.pairwise_map.2 hs2) fun o' h17 nx17 A H17 => ?_
 ·obtain ⟨b,hb,rfl⟩:=List.mem_map.1 ha;have:=(hdq b hb).1.1;exact ⟨.inl rfl,by show b.1.length<=_;omega⟩
 ·simp only [yX,jZ];rw [F27.ret];rw [Zaq,zgd] at H17;rw [Zaq];refine good H17 (uT (H17.zd8 (k:=0) rfl dM) (zJ rfl)) (.inr ⟨u,q,s,hu,hin,hqn,hC,hql,hs1,hs2,rfl⟩)
end Go.Ev
namespace Go.Ev
theorem zb7 {a b:Sym} (h:fJ a b=true):fJ b a=false:=by
 cases c:fJ b a with
 | false=>rfl
 | true=>have:=zb0 h c;rw [qV] at this;cases this
def j9 (S:List Sym) (a:Sym):Bool:=S.all fun b => !fJ (zP a b) a
def cosL (G S:List Sym):List Sym:=G.filter (j9 S)
def o9 (C S:List Sym):List Sym:=C.flatMap fun a=>S.map (zP a)
theorem oV {C S:List Sym} {x:Sym}:x∈o9 C S↔∃ a∈C,∃ b∈S,zP a b=x:=by
 simp [o9]
section
variable {G S:List Sym} {n:Nat}
theorem fU.inv2 (hS:fU S n) {b:Sym} (hb:b∈S):∃ c∈S,∀ a,DP n a->zP (zP a b) c=a:=by
 obtain ⟨c,hc,e⟩:=hS.inv b hb;exact ⟨c,hc,fun a ha=>by rw [(jY n).assoc a b c ha (hS.dp b hb) (hS.dp c hc),e,(jY n).er a ha]⟩
theorem zb8 (hS:fU S n) {a x b:Sym} (ha:DP n a) (hb:b∈S) (e:zP a b=x):∃ c∈S,zP x c=a:=by
 obtain ⟨c,hc,q⟩:=hS.inv2 hb;exact ⟨c,hc,by rw [<- e];exact q a ha⟩
theorem zh7 (hS:fU S n) {a x b c:Sym} (ha:DP n a) (hb:b∈S) (hc:c∈S) (e:zP a b=x):zP x c=zP a (zP b c)/\zP b c∈S :=
 ⟨by rw [<- e,(jY n).assoc a b c ha (hS.dp b hb) (hS.dp c hc)],hS.cl b hb c hc⟩
theorem zh8 (hG:fU G n) {i j:Nat} {a b:Sym} (hi:G[i]? = some a) (hj:G[j]? = some b) (h:i<j):fJ a b=true:=by
 obtain ⟨hi1,rfl⟩:=List.getElem?_eq_some_iff.1 hi;obtain ⟨hj1,rfl⟩:=List.getElem?_eq_some_iff.1 hj;exact List.pairwise_iff_getElem.1 (bC hG.ord) i j hi1 hj1 h
theorem zqy (hG:fU G n) {i j:Nat} {a b:Sym} (hi:G[i]? = some a) (hj:G[j]? = some b) (h:fJ a b=true):i<j:=by
 rcases Nat.lt_trichotomy i j with q | rfl | q
 ·exact q
 ·rw [hi] at hj;cases hj;rw [qV] at h;cases h
 ·have:=zh8 hG hj hi q;rw [zb7 this] at h;cases h
theorem zge (hG:fU G n) (hS:fU S n) (hs:∀ a∈S,a∈G) {i:Nat} {a:Sym} (hi:G[i]? = some a):∃ (j:Nat) (m:Sym),j<=i/\G[j]? = some m/\j9 S m=true/\(∃ b∈S,zP a b=m)/\∀ k x,G[k]? = some x->(∃ b∈S,zP a b=x)->j<=k:=by
  have haG:=Zaa hi;have hda:=hG.dp a haG;have hex:∃ (k:Nat) (x:Sym),G[k]? = some x/\∃ b∈S,zP a b=x:=⟨i,a,hi,idS n,hS.one,(jY n).er a hda⟩;have key:∀ N:Nat,(∃ (k:Nat) (x:Sym),k<=N/\G[k]? = some x/\∃ b∈S,zP a b=x)->∃ (j:Nat) (m:Sym),G[j]? = some m/\(∃ b∈S,zP a b=m)/\∀ (k:Nat) (x:Sym),G[k]? = some x->(∃ b∈S,zP a b=x)->j<=k:=by
    intro N
    induction N with
    | zero=>rintro ⟨k,x,hk,hx,hb⟩;obtain rfl:k=0:=by omega
            exact ⟨0,x,hx,hb,fun _ _ _ _=>Nat.zero_le _⟩
    | succ N ih =>
      rintro ⟨k,x,hk,hx,hb⟩;by_cases c:∃ (k:Nat) (x:Sym),k<=N/\G[k]? = some x/\∃ b∈S,zP a b=x
      · exact ih c
      · have hkN:k=N+1:=by
          rcases Nat.lt_or_ge k (N+1) with q | q
          · exact absurd ⟨k,x,by omega,hx,hb⟩ c
          · omega
        subst hkN;refine ⟨_,x,hx,hb,fun k' x' hk' hb' => ?_⟩;rcases Nat.lt_or_ge k' (N+1) with q | q
        · exact absurd ⟨k',x',by omega,hk',hb'⟩ c
        · exact q
  obtain ⟨k0,x0,h1,h2⟩:=hex;obtain ⟨j,m,hj,hm,hmin⟩:=key k0 ⟨k0,x0,Zak _,h1,h2⟩;refine ⟨j,m,hmin i a hi ⟨idS n,hS.one,(jY n).er a hda⟩,hj,List.all_eq_true.2 fun b hb => ?_,hm,hmin⟩;obtain ⟨c,hc,e⟩:=hm;obtain ⟨e2,hcb⟩:=zh7 hS hda hc hb e;have hin:zP m b∈G:=hG.cl m (Zaa hj) b (hs b hb);obtain ⟨k,hk⟩:=List.getElem?_of_mem hin;have hle:=hmin k _ hk ⟨_,hcb,e2.symm⟩;cases q:fJ (zP m b) m with
  | false=>rfl
  | true=>have:=zqy hG hk hj q;omega
theorem zh9 (hG:fU G n) (hS:fU S n) (hs:∀ a∈S,a∈G) {i:Nat} {a:Sym} (hi:G[i]? = some a):a∈o9 ((G.take i).filter (j9 S)) S↔j9 S a=false:=by
 rw [oV];have hda:=hG.dp a (Zaa hi);constructor
 ·rintro ⟨m,hm,b,hb,e⟩;obtain ⟨hm1,hm2⟩:=List.mem_filter.1 hm;obtain ⟨j,hj⟩:=List.getElem?_of_mem hm1;have hjl:=(List.getElem?_eq_some_iff.1 hj).1;rw [Zba] at hjl;rw [List.getElem?_take_of_lt (by omega)] at hj;have hlt:=zh8 hG hj hi (by omega);obtain ⟨c,hc,e2⟩:=zb8 hS (hG.dp m (Zaa hj)) hb e;cases q:j9 S a with
  | false=>rfl
  | true =>
   have:=List.all_eq_true.1 q c hc;rw [e2,hlt] at this;cases this
 ·intro hl;obtain ⟨j,m,hj1,hj,hm,⟨b,hb,e⟩,_⟩:=zge hG hS hs hi;have hne:j≠i:=by
   rintro rfl;rw [hi] at hj;cases hj;rw [hm] at hl;cases hl
  refine ⟨m,List.mem_filter.2 ⟨?_,hm⟩,zb8 hS hda hb e⟩;exact Zaa (i:=j) (by rw [List.getElem?_take_of_lt (by omega)];exact hj)
theorem zk8 (hG:fU G n) (hS:fU S n) {C:List Sym} (hC:∀ m∈C,m∈G) {a b:Sym} (ha:a∈G) (hb:b∈S) (hn:a∉o9 C S):zP a b∉o9 C S:=by
 intro h;obtain ⟨m,hm,c,hc,e⟩:=oV.1 h;obtain ⟨d,hd,q⟩:=hS.inv2 hb;have hdm:=hG.dp m (hC m hm);refine hn (oV.2 ⟨m,hm,zP c d,hS.cl c hc d hd,?_⟩);rw [<- (jY n).assoc m c d hdm (hS.dp c hc) (hS.dp d hd),e];exact q a (hG.dp a ha)
theorem zk9 (hS:fU S n) {a b c:Sym} (ha:DP n a) (hb:b∈S) (hc:c∈S) (e:zP a b=zP a c):b=c:=(jY n).cl a b c ha (hS.dp b hb) (hS.dp c hc) e
end
end Go.Ev
namespace Go.Ev
open Go Go.Proofs
variable {B:Nat}
set_option maxRecDepth 100000
theorem zia (q:List Sym) (a:Sym):yN (q++[a])=yN q++[encI a.1,.bool a.2]:=by unfold yN;rw [Zbt];rfl
theorem zla {h0 h:T Blk} {nx p:Pa} {L:List Ob} {f:List Int} {K:Kw Prop} (hf:0<f.length) (hl:f.length<=1000) (H:Hp h0 h nx L)
  (hK:∀ id cap h' nx',pL f.length cap->Hp h0 h' nx' (.arr id (f.map I)::L)->K (.sl id 0 f.length cap 1) h' nx'=.ok True):(CS Tryz.prog B).fn 106 p [encI f] h nx K=.ok True:=by
 refine jH (p:=.of 106) (K:=K) (zS zW yt 9 fun hf => ?_) fun _ _ _ _ q=>q;cases f with
 | nil=>simp at hf
 | cons x t =>
  rw [sO.go];have e:∀ A C:OP,(zo .eql (.nil .sl) (encI (x::t)) .zh fun v1=>zT v1 A C)=C:=fun A C=>nr rfl;rw [e];exact H.zol (new:=(x::t).map I) (c:=(x::t).length) (fun e h1 n1 H1=>zvz 1) (by simp) (List.all_eq_true.2 fun v hv=>by obtain ⟨z,_,rfl⟩:=List.mem_map.1 hv;rfl) (by decide) (by omega) hK
def zb9 (L:List Ob) (p:AV×Sym):Prop:=∃ rid cap,p.1=.sl rid 0 p.2.1.length cap 1/\pL p.2.1.length cap/\Ob.arr rid (p.2.1.map I)∈L
theorem zb9.mono {L L':List Ob} {p:AV×Sym} (h:zb9 L p) (hl:∀ x∈L,x∈L'):zb9 L' p:=by
 obtain ⟨r,c,e,hc,m⟩:=h;exact ⟨r,c,e,hc,hl _ m⟩
theorem zqz {h0 h:T Blk} {nx:Pa} {L:List Ob} {id:Pa} {l:List Int} {cap:Option Nat} (H:Hp h0 h nx L) (hm:Ob.arr id (l.map I)∈L) (hc:pL l.length cap):Frz False (fun _=>True) (fun _=>False) h (.sl id 0 l.length cap 1) (encI l):=by
 obtain ⟨op,t,h1,h2⟩:=H.own _ hm;rw [Zaq] at h1 h2;refine .sl _ _ _ _ _ op _ t _ trivial hc h1 (by omega) (by simp) (List.all_eq_true.2 fun v hv=>by obtain ⟨z,_,rfl⟩:=List.mem_map.1 hv;rfl) fun i v hi => ?_;have hil:i<l.length:=by have:=(List.getElem?_eq_some_iff.1 hi).1;simpa using this
 have:=yC t 0 l.length i hil;rw [h2,hi] at this;rw [<- Option.some.inj this];obtain ⟨z,_,rfl⟩:=List.mem_map.1 (Zaa hi);exact .int _ _
theorem ztr {h0 h:T Blk} {nx:Pa} {L:List Ob} {k n:Nat} {o:Option Pa} {out:List (AV×Sym)} (H:Hp h0 h nx L) (hk:L[k]? = some (.gro o 2 n (jJ out))) (hr:∀ p∈out,zb9 L p):Frz False (fun _=>True) (fun _=>False) h (ku o 2 n) (jd (out.map (·.2))):=by
 have own:=H.own _ (Zaa hk);have hlen:=qG out;cases o with
 | none =>
  obtain ⟨e,rfl⟩:=own;rw [e] at hlen;obtain rfl:out=[]:=Zau (by simp at hlen;omega);exact .zbd 2
 | some id =>
  obtain ⟨t,h1,h2,h3⟩:=own;have hn:n=(out.map (·.2)).length:=by rw [Zaq];omega
  subst hn;refine .sl _ _ _ _ _ true _ t _ trivial trivial h1 (by omega) (u4 _) (List.all_eq_true.2 fun v hv=>fO.jf (dM v hv)) fun i v hi => ?_;have hil:i<(out.map (·.2)).length*2:=by have:=(List.getElem?_eq_some_iff.1 hi).1;rwa [u4] at this
  have:=yC t 0 ((out.map (·.2)).length*2) i hil;rw [h3,wO] at this;rw [mM,List.getElem?_map] at hi;cases hq:out[i / 2]? with
  | none=>rw [hq] at hi;cases hi
  | some p =>
   rw [hq] at hi this;obtain ⟨rid,cap,e,hc,hm⟩:=hr p (Zaa hq);have hi:=Option.some.inj hi;have this:=Option.some.inj this;by_cases c:i%2=0
   ·simp only [if_pos c] at hi this;rw [<- this,<- hi,e];exact zqz H hm hc
   ·simp only [if_neg c] at hi this;rw [<- this,<- hi];exact .bool _
theorem zlb {N:Pa->Prop} {O:AV->Prop} {A:Prop} {hh:T Blk} {a b a' b':AV} (h1:Frz A N O hh a a') (h2:Frz A N O hh b b'):Frz A N O hh (.tup [a,b]) (.tup [a',b']):=by
 refine .tup _ _ rfl fun i v v' hi hi' => ?_
 match i with
 | 0=>simp at hi hi';subst hi;subst hi';exact h1
 | 1=>simp at hi hi';subst hi;subst hi';exact h2
 | i+2=>simp at hi
theorem zks {G S:List Sym} {n:Int} (hG:G.length<=100000) (hw:∀ g∈G,g.1.length<=100000) (hS:S.length<=100000) (hw2:∀ g∈S,g.1.length<=100000) (hse0:subE G S n=0) (hn0:0<n):zi5 Tryz.prog 39 [jd G,jd S,I n] (.tup [jd (cosL G S),I 0]):=by
 intro B K hK0;have hK:∀ v h' nx' L v',Hp .e h' nx' L->Frz False (fun _=>True) (fun _=>False) h' v v'->v'=.tup [jd (cosL G S),I 0]->K v h' nx'=.ok True:=fun v h' nx' L v' _ hF e=>hK0 _ _ _ (e ▸ hF);refine zS zW yt 10000000 fun hf' => ?_;have H0:Hp .e .e .z []:=Hp.init hf';rw [F39.go,F39.t37,zA,F39.rV];refine H0.box (l:=[jd S]) rfl fun b3 h1 nx1 H1 => ?_;rw [F39.t36,zA,F39.t7,zA,F39.rW,H1.load (k:=0) (i:=0) rfl rfl];refine mR hG hw hS hw2 H1 (fun e h2 nx2 X he hne H2 => ?_) fun n' u1 q1 u2 q2 g o1 o2 h2 nx2 X hn ok1 ok2 hse _ _ _ _ _ _ _ _ hsub H2 => ?_
 ·rw [yM,yO,yV];refine H2.alloc fun b6 h3 nx3 H3 => ?_;refine H3.qm (k:=0) (n:=2) rfl rfl rfl fun h4 H4 => ?_;rw [hse0] at he;exact absurd he hne
 subst hn;have oU:=ok1.n256;have H2:Hp .e h2 nx2 [.arr b3 [jd S]]:=Hp.pre (_::_::_::X) H2;rw [yM,yO,yV];refine H2.alloc fun b6 h3 nx3 H3 => ?_;refine H3.qm (k:=0) (n:=2) rfl rfl rfl fun h4 H4 => ?_;rw [F39.t6,zA,F39.rX,gy,decide_eq_true rfl,Zad,F39.t5,zK,F39.v12,zC,zX,F39.t35,zA,F39.eH];refine H4.fP fun gm h5 nx5 H5 => ?_;refine H5.alloc fun b7 h6 nx6 H6 => ?_;refine H6.store (k:=0) rfl (by simp) rfl fun h7 H7 => ?_;rw [F39.t34,zA,F39.sF];refine H7.alloc fun b8 h8 nx8 H8 => ?_;rw [F39.t33,zA,F39.t30,zA,F39.aA];refine zef _ _ _ _ ?_;rintro _ rfl _;rw [F39.t29,yB,F39.t28];have H9:=H8.aG 2;have T:∃ T:List Ob,T=[.arr b6 [ku o1 2 u1.length,ku o2 2 u2.length],.arr b3 [jd S]]:=⟨_,rfl⟩;obtain ⟨T,hT⟩:=T;have hout:∀ i,((G.take i).filter (j9 S)).length<=G.length:=fun i=>by
  have:=List.length_filter_le (j9 S) (G.take i);rw [Zba] at this;omega
 refine zru H9 F39.zt1 (fun v w k=>F39.zt2 k) (by omega)
  (fun i L'=>∃ (o:Option Pa) (out:List (AV×Sym)) (rows:List Ob),out.map (·.2)=(G.take i).filter (j9 S)/\(∀ p∈out,zb9 rows p)/\L'=.gro o 2 out.length (jJ out)::.arr b8 [ku o 2 out.length]::.arr b7 [.map gm]::.map gm (wo (o9 ((G.take i).filter (j9 S)) S))::(T++rows))
  (fun _=>False) (fun _ _=>False) ⟨none,[],[],by simp,by simp,by subst hT;rfl⟩
  (fun i x Rb Rb' h10 nx10 L' M E O1 O2 hx hJ H10 hM hE hR hX => ?_) (fun h10 nx10 L' hJ H10 => ?_) (fun _ _ _ hX _=>hX.elim) (fun _ _ _ _ hX _=>hX.elim)
 case refine_2 =>
  obtain ⟨o,out,rows,ho,hr,rfl⟩:=hJ;rw [Zal (Zak _)] at H10 ho;rw [F39.t32,zA,F39.zad,H10.load (k:=1) (i:=0) rfl rfl];simp only [yX,jZ];rw [F39.ret];refine hK _ _ _ _ (.tup [jd (cosL G S),I 0]) H10 (zlb ?_ (.int _ _)) rfl;have:=ztr (k:=0) H10 rfl fun p hp=>(hr p hp).mono fun x hx=>by simp [hx]
  rw [ho] at this;exact this
 obtain ⟨o,out,rows,ho,hr,rfl⟩:=hJ;have hol:out.length=((G.take i).filter (j9 S)).length:=by rw [<- ho,Zaq]
 have hxm:=Zaa hx;have hdx:=ok1.dp x hxm;have htake:G.take (i+1)=G.take i++[x]:=by rw [Zam,hx];rfl
 have hCm:∀ m∈(G.take i).filter (j9 S),m∈G:=fun m hm=>Zcc (List.mem_filter.1 hm).1;have hks:∀ b∈o9 ((G.take i).filter (j9 S)) S,DS n' b:=fun b hb=>by
  obtain ⟨m,hm,c,hc,rfl⟩:=oV.1 hb;exact (ok1.dp _ (ok1.cl m (hCm m hm) c (hsub c hc))).1
 rw [F39.zae];refine H10.alloc fun b9 h11 nx11 H11 => ?_;refine H11.qm (k:=0) (n:=2) rfl rfl rfl fun h12 H12 => ?_;refine hM _ _ _ [_] H12 fun h13 H13 => ?_;rw [F39.t27,yB,F39.t26,zA,F39.t14,zA,F39.zaf,H13.load (k:=4) (i:=0) rfl rfl,H13.zi (k:=0) (n:=2) rfl rfl];refine zby (a:=x) oU hdx.1 hks H13 (k:=5) rfl ?_;rw [F39.t13,zK,F39.v16];have zrx:=zh9 ok1 ok2 hsub hx;by_cases c:x∈o9 ((G.take i).filter (j9 S)) S
 ·rw [decide_eq_true c,zD,jT,gN];have hfl:(G.take (i+1)).filter (j9 S)=(G.take i).filter (j9 S):=by
   rw [htake,List.filter_append,List.filter_cons_of_neg (by rw [zrx.1 c];decide)];simp
  exact hE _ _ _ [_] _ ⟨o,out,rows,by rw [hfl];exact ho,hr,by rw [hfl]⟩ H13
 have hlx:j9 S x=true:=by
  cases q:j9 S x with
  | true=>rfl
  | false=>exact absurd (zrx.2 q) c
 have hfl:(G.take (i+1)).filter (j9 S)=(G.take i).filter (j9 S)++[x]:=by
  rw [htake,List.filter_append,List.filter_cons_of_pos hlx];rfl
 rw [decide_eq_false c,zC,zX,F39.t25,zA,F39.t23,zA,F39.aB];subst hT;rw [H13.load (k:=7) (i:=0) rfl rfl];refine zef _ _ _ _ ?_;rintro _ rfl _;rw [F39.t22,yB,F39.t21]
 refine zru H13 F39.ztz (fun v w k=>F39.zt0 k) (by omega)
  (fun k L'=>L'=.arr b9 [encI x.1,.bool x.2]::Rb'::.gro o 2 out.length (jJ out)::.arr b8 [ku o 2 out.length]::.arr b7 [.map gm]::.map gm (wo (o9 ((G.take i).filter (j9 S)) S++(S.take k).map (zP x)))::([.arr b6 [ku o1 2 u1.length,ku o2 2 u2.length],.arr b3 [jd S]]++rows))
  (fun _=>False) (fun _ _=>False) (by simp)
  (fun k y Sb Sb' h14 nx14 L' M' E' O1' O2' hy hJ H14 hM' hE' hR' hX' => ?_) (fun h14 nx14 L' hJ H14 => ?_) (fun _ _ _ hX _=>hX.elim) (fun _ _ _ _ hX _=>hX.elim)
 ·subst hJ;have hym:=Zaa hy;have hdy:=ok2.dp y hym;have htk:S.take (k+1)=S.take k++[y]:=by rw [Zam,hy];rfl
  have hxy:DS n' (zP x y):=(ok1.dp _ (ok1.cl x hxm y (hsub y hym))).1;rw [F39.rY];refine H14.alloc fun b10 h15 nx15 H15 => ?_;refine H15.qm (k:=0) (n:=2) rfl rfl rfl fun h16 H16 => ?_;refine hM' _ _ _ [_] H16 fun h17 H17 => ?_;rw [F39.t20,yB,F39.t19,zA,F39.aS,H17.zi (k:=2) (n:=2) rfl rfl,H17.zi (k:=0) (n:=2) rfl rfl];refine pT (a:=x) (b:=y) (fun z hz=>by rw [hdx.1.1];exact hdy.1.2 z hz) (by rw [hdy.1.1];omega) _ _ _ _ ?_;rintro _ rfl _;refine H17.alloc fun b11 h18 nx18 H18 => ?_;refine H18.qm (k:=0) (n:=2) rfl rfl rfl fun h19 H19 => ?_;rw [F39.zln,H19.load (k:=7) (i:=0) rfl rfl,H19.zi (k:=0) (n:=2) rfl rfl,H19.zi (k:=0) (n:=2) rfl rfl];refine xP (a:=zP x y) (fun z hz=>by have:=hxy.2 z hz;omega) (by rw [hxy.1];omega) _ _ _ _ ?_;rintro _ rfl _;rw [H19.zi (k:=0) (n:=2) rfl rfl,zB,H19.load (k:=7) (i:=0) rfl rfl,zB];refine H19.putS (a:=zP x y) oU hxy (fun b hb => ?_) (fun hin => ?_) (k:=8) rfl fun h20 H20 => ?_
  ·rcases List.mem_append.1 hb with q | q
   ·exact hks b q
   ·obtain ⟨z,hz,rfl⟩:=List.mem_map.1 q;exact (ok1.dp _ (ok1.cl x hxm z (hsub z (Zcc hz)))).1
  ·rcases List.mem_append.1 hin with q | q
   ·exact zk8 ok1 ok2 hCm hxm hym c q
   ·obtain ⟨z,hz,e⟩:=List.mem_map.1 q;have:=zk9 ok2 hdx (Zcc hz) hym e;subst this;obtain ⟨j,hj⟩:=List.getElem?_of_mem hz;have hjl:=(List.getElem?_eq_some_iff.1 hj).1;rw [Zba] at hjl;rw [List.getElem?_take_of_lt (by omega)] at hj;have:=zh8 ok2 hj hy (by omega);rw [qV] at this;cases this
  ·refine hE' _ _ _ [_,_] _ ?_ H20;rw [htk,Zbz,<- Zbn]
   rfl
 ·subst hJ;rw [Zal (Zak _)] at H14;rw [F39.zlp,H14.load (k:=3) (i:=0) rfl rfl,sFx,H14.load (k:=0) (i:=0+0) rfl rfl,sFx,H14.load (k:=0) (i:=0+1) rfl rfl];refine zla (f:=x.1) (by rw [hdx.1.1];omega) (by rw [hdx.1.1];omega) H14 fun rid cap h15 nx15 hcap H15 => ?_;rw [H15.load (k:=1) (i:=0+1) rfl rfl,zB,sFx,zB,H15.load (k:=4) (i:=0) rfl rfl,zB,dW rfl rfl];refine H15.yc (l:=[.sl rid 0 x.1.length cap 1,.bool x.2]) rfl fun tb h16 nx16 H16 => ?_;rw [H16.load (k:=5) (i:=0) rfl rfl,zB,sZ];refine H16.appN (k:=4) (o:=o) (c:=1) (esz:=2) (new:=[.sl rid 0 x.1.length cap 1,.bool x.2]) rfl (jc.rd (l:=[.sl rid 0 x.1.length cap 1,.bool x.2]) (n:=1) (e:=2) (H16.own _ (Zaj ..)) rfl) rfl rfl (by decide) (by decide) (by have:=hout i;omega) fun o'' h17 nx17 _ H17 => ?_;refine H17.store (k:=5) rfl (by simp) (uF _ _ _) fun h18 H18 => ?_;have hp:Hp .e h18 nx17 ([.arr tb [.sl rid 0 x.1.length cap 1,.bool x.2],.arr b9 [encI x.1,.bool x.2]]++Rb'::(.gro o'' 2 (out.length+1) (jJ out++[.sl rid 0 x.1.length cap 1,.bool x.2])::.arr b8 [ku o'' 2 (out.length+1)]::.arr b7 [.map gm]::.map gm (wo (o9 ((G.take i).filter (j9 S)) S++S.map (zP x)))::([.arr b6 [ku o1 2 u1.length,ku o2 2 u2.length],.arr b3 [jd S]]++(.arr rid (x.1.map I)::rows)))):=by
   refine H18.perm ?_;show List.Perm (_::_::_::_::_::_::_::_::_::_::rows) (_::_::_::_::_::_::_::_::_::_::rows);exact .cons _ (Zbm (l₁:=[_,_,_,_,_,_,_,_]) (a:=Ob.arr rid (x.1.map I)) (l₂:=rows)).symm
  refine hE _ _ _ [_,_] _ ⟨o'',out++[(.sl rid 0 x.1.length cap 1,x)],.arr rid (x.1.map I)::rows,?_,?_,?_⟩ hp
  ·rw [Zbz,ho,hfl];rfl
  ·intro p hp;rcases List.mem_append.1 hp with q | q
   ·exact (hr p q).mono fun z hz=>Zao _ hz
   ·obtain rfl:=List.mem_singleton.1 q;exact ⟨rid,cap,rfl,hcap,Zaj ..⟩
  ·rw [hfl];have e1:o9 ((G.take i).filter (j9 S)++[x]) S=o9 ((G.take i).filter (j9 S)) S++S.map (zP x):=by simp [o9]
   have e2:jJ (out++[(.sl rid 0 x.1.length cap 1,x)])=jJ out++[.sl rid 0 x.1.length cap 1,.bool x.2]:=by unfold jJ;rw [Zbt];rfl
   rw [e1,e2,Zat]
   subst_vars
   rfl
end Go.Ev
namespace Go.Ev
theorem zc7 {α:Type} [DecidableEq α]:∀ (l r:List α),l.Nodup->(∀ x∈l,x∈r)->∃ s,r.Perm (l++s)
 | [],r,_,_=>⟨r,.refl _⟩
 | a::l,r,hn,hs=>by
  obtain ⟨h1,h2⟩:=List.nodup_cons.1 hn;have ha:=hs a (by simp);obtain ⟨s,hp⟩:=zc7 l (r.erase a) h2 fun x hx=>(List.mem_erase_of_ne (by rintro rfl;exact h1 hx)).2 (hs x (by simp [hx]));exact ⟨s,(List.perm_cons_erase ha).trans (.cons a hp)⟩
theorem zgf {α:Type} [DecidableEq α] {l r:List α} (h1:l.Nodup) (h2:∀ x∈l,x∈r) (h3:r.length<=l.length):r.Perm l:=by
 obtain ⟨s,hs⟩:=zc7 l r h1 h2;have hl:=hs.length_eq;obtain rfl:s=[]:=Zau (by rw [Zat] at hl;omega);simpa using hs
theorem zlc {α:Type} {l:List α} (h:l.Nodup) {i j:Nat} {x:α} (hi:l[i]? = some x) (hj:l[j]? = some x):i=j:=by
 obtain ⟨a1,a2⟩:=List.getElem?_eq_some_iff.1 hi;obtain ⟨b1,b2⟩:=List.getElem?_eq_some_iff.1 hj;have hp:=List.pairwise_iff_getElem.1 h;rcases Nat.lt_trichotomy i j with c | c | c
 ·exact absurd (a2.trans b2.symm) (hp i j a1 b1 c)
 ·exact c
 ·exact absurd (b2.trans a2.symm) (hp j i b1 a1 c)
theorem getD_some {l:List Int} {i:Nat} (h:i<l.length):l[i]? = some (l.getD i 0):=by
 rw [Zac,List.getElem?_eq_getElem h];rfl
theorem fA.surj {g:List Int} (h:fA g) {j:Nat} (hj:j<g.length):∃ i,i<g.length/\g[i]? = some (j:Int):=by
 have hp:((List.range g.length).map fun (i:Nat)=>(i:Int)).Perm g:=zgf h.1 (fun x hx=>by
  have:=h.2 x hx;exact List.mem_map.2 ⟨x.toNat,List.mem_range.2 (by omega),by omega⟩) (by simp)
 have hm:(j:Int)∈g:=hp.mem_iff.1 (List.mem_map.2 ⟨j,List.mem_range.2 hj,rfl⟩);obtain ⟨i,hi⟩:=List.mem_iff_getElem?.1 hm;exact ⟨i,(List.getElem?_eq_some_iff.1 hi).1,hi⟩
theorem zca {n:Nat} {c:Bool} {g f:List Int} (hg:fA g) (hgn:g.length=n):∀ (i k:Nat),i<=n->k<i->(kX n c g f i)[(g.getD k 0).toNat]? = some (xOf n c (f.getD k 0))
 | 0,k,_,h=>by omega
 | i+1,k,hi,h=>by
  rw [xZ];have hk:=hg.2 _ (Zaa (getD_some (l:=g) (i:=k) (by omega)));have hi':=hg.2 _ (Zaa (getD_some (l:=g) (i:=i) (by omega)));by_cases e:k=i
  ·subst e;rw [List.getElem?_set,if_pos rfl,if_pos (by rw [uU];omega)]
  ·rw [List.getElem?_set_ne,zca hg hgn i k (by omega) (by omega)];intro q;have e1:g.getD i 0=g.getD k 0:=by omega
   have:=zlc hg.1 (getD_some (l:=g) (i:=i) (by omega)) (e1 ▸ getD_some (l:=g) (i:=k) (by omega));omega
theorem zib {c:Bool} {g f:List Int} (hg:fA g) (hgn:g.length=f.length) {k:Nat} (h:k<f.length):(zbr c g f)[(g.getD k 0).toNat]? = some (xOf f.length c (f.getD k 0)):=zca hg hgn _ k (Zak _) h
theorem zld (c:Bool) (g f:List Int):(zbr c g f).length=f.length:=uU _ _ _ _ _
theorem DP.surj {n:Nat} {a:Sym} (ha:DP n a) {j:Nat} (hj:j<n):∃ i,i<n/\a.1.getD i 0=(j:Int):=by
 have h1:=ha.1.1;obtain ⟨i,hi,e⟩:=ha.perm.surj (show j<a.1.length by omega);exact ⟨i,by omega,by rw [Zac,e];rfl⟩
def idL (n:Nat):List Int:=(List.range n).map fun j:Nat=>(j:Int)
theorem bE (n:Nat):(idL n).length=n:=by simp [idL]
theorem zel {n i:Nat} (h:i<n):(idL n).getD i 0=(i:Int):=by
 rw [idL,Zac,List.getElem?_map,List.getElem?_range h];rfl
def invS (a:Sym):Sym:=(zbr false a.1 (idL a.1.length),a.2)
theorem zjn {n:Nat} {a:Sym} (ha:DP n a) {k:Nat} (hk:k<n):(invS a).1[(a.1.getD k 0).toNat]? = some (k:Int):=by
 have h1:=ha.1.1;have:=zib (c:=false) ha.perm (f:=idL a.1.length) (by rw [bE]) (k:=k) (by rw [bE];omega);rw [zel (by omega)] at this;exact this
theorem xQ {n:Nat} {a:Sym} (ha:DP n a):DP n (invS a):=by
 have h1:=ha.1.1;have hl:(invS a).1.length=n:=by show (zbr _ _ _).length=n;rw [zld,bE,h1]
 have hv:∀ j,j<n->∃ i,i<n/\a.1.getD i 0=(j:Int)/\(invS a).1[j]? = some (i:Int):=fun j hj=>by
  obtain ⟨i,hi,e⟩:=ha.surj hj;have:=zjn ha hi;rw [e,Int.toNat_natCast] at this;exact ⟨i,hi,e,this⟩
 refine ⟨⟨hl,fun x hx => ?_⟩,?_⟩
 ·obtain ⟨j,hj⟩:=List.getElem?_of_mem hx;obtain ⟨i,hi,_,e⟩:=hv j (by rw [<- hl];exact (List.getElem?_eq_some_iff.1 hj).1);rw [hj] at e;cases e;omega
 ·rw [List.Nodup,Zbi];intro i j hi hj hij e;obtain ⟨a1,_,b1,c1⟩:=hv i (by omega);obtain ⟨a2,_,b2,c2⟩:=hv j (by omega);rw [List.getElem?_eq_getElem hi] at c1;rw [List.getElem?_eq_getElem hj] at c2;have e1:=Option.some.inj c1;have e2:=Option.some.inj c2;have:a1=a2:=by omega
  subst this;rw [b1] at b2;omega
theorem zjo {n:Nat} {a:Sym} (ha:DP n a):zP (invS a) a=idS n:=by
 refine Prod.ext (vL (n:=n) (by show (uD _ _).length=n;rw [uL,ha.1.1]) (by simp [idS]) fun i hi => ?_) (by show (a.2 != a.2)=false;cases a.2 <;> rfl);rw [u6 ha.1 hi,Zac (l:=(invS a).1),zjn ha hi];show some (i:Int)=((List.range n).map fun j:Nat=>(j:Int))[i]?;rw [List.getElem?_map,List.getElem?_range hi];rfl
theorem zot {n:Nat} {a:Sym} (ha:DP n a):zP a (invS a)=idS n:=by
 have L:=jY n;have hb:=xQ ha;have hc:=xQ hb;have e1:=zjo ha;have e2:=zjo hb;have:a=invS (invS a):=by
  have q:=L.assoc (invS (invS a)) (invS a) a hc hb ha;rw [e2,e1,L.el a ha,L.er _ hc] at q;exact q
 rw [show zP a (invS a)=zP (invS (invS a)) (invS a) by rw [<- this]];exact e2
theorem zgg {n:Nat} {a b:Sym} (ha:DP n a) (hb:DP n b) (h:zP a b=idS n):b=invS a:=by
 have L:=jY n;have hi:=xQ ha;have q:=L.assoc (invS a) a b hi ha hb;rw [zjo ha,h,L.el b hb,L.er _ hi] at q;exact q
def conj (a b:Sym):Sym:=zP (zP a b) (invS a)
theorem zou {n:Nat} {a b c:Sym} (ha:DP n a) (hb:DP n b) (hc:DP n c):conj a (zP b c)=zP (conj a b) (conj a c):=by
 have L:=jY n;have hi:=xQ ha;have hab:=L.dm a b ha hb;have hac:=L.dm a c ha hc;have hci:=L.dm _ _ hac hi;unfold conj;rw [L.assoc (zP a b) (invS a) (zP (zP a c) (invS a)) hab hi hci,<- L.assoc (invS a) (zP a c) (invS a) hi hac hi,<- L.assoc (invS a) a c hi ha hc,zjo ha,L.el c hc,<- L.assoc (zP a b) c (invS a) hab hc hi,L.assoc a b c ha hb hc]
theorem zle {n:Nat} {a b c:Sym} (ha:DP n a) (hb:DP n b) (hc:DP n c):conj (zP a b) c=conj a (conj b c):=by
 have L:=jY n;have hia:=xQ ha;have hib:=xQ hb;have hab:=L.dm a b ha hb;have e:invS (zP a b)=zP (invS b) (invS a):=by
  refine (zgg hab (L.dm _ _ hib hia) ?_).symm;rw [L.assoc a b _ ha hb (L.dm _ _ hib hia),<- L.assoc b (invS b) (invS a) hb hib hia,zot hb,L.el _ hia,zot ha]
 have hbc:=L.dm b c hb hc;unfold conj;rw [e,L.assoc a b c ha hb hc,<- L.assoc (zP a (zP b c)) (invS b) (invS a) (L.dm _ _ ha hbc) hib hia,L.assoc a (zP b c) (invS b) ha hbc hib]
theorem zq0 {n:Nat} {a b:Sym} (ha:DP n a) (hb:DP n b):DP n (conj a b):=(jY n).dm _ _ ((jY n).dm _ _ ha hb) (xQ ha)
def zjc (G S:List Sym):Bool:=G.all fun a=>S.all fun b=>decide (conj a b∈S)
theorem zlf {G S u1 q1 u2 q2:List Sym} {n:Nat} (hG:fU G n) (hS:fU S n) (hu1:∀ c∈u1,c∈G) (h1:CloS n u1 q1) (hq1:∀ a,a∈q1↔a∈G) (hu2:∀ c∈u2,c∈S) (h2:CloS n u2 q2) (hq2:∀ a,a∈q2↔a∈S) :
  (u1.all fun a=>u2.all fun b=>decide (conj a b∈S))=zjc G S:=by
 rw [Zbs];simp only [zjc,Zaf,decide_eq_true_eq];have L:=jY n;constructor
 ·intro h;have k1:∀ a∈u1,∀ b∈S,conj a b∈S:=fun a ha b hb=>by
   have da:=hG.dp a (hu1 a ha)
   have:=h2.ind (fun b=>DP n b/\conj a b∈S) ⟨L.de,by unfold conj;rw [L.er a da,zot da];exact hS.one⟩ (fun x hx c hc=>by
    have dc:=hS.dp c (hu2 c hc);exact ⟨L.dm _ _ dc hx.1,by rw [zou da dc hx.1];exact hS.cl _ (h a ha c hc) _ hx.2⟩) b ((hq2 b).2 hb)
   exact this.2
  intro a ha
  have:=h1.ind (fun a=>DP n a/\∀ b∈S,conj a b∈S) ⟨L.de,fun b hb=>by
   have e:invS (idS n)=idS n:=(zgg L.de L.de (L.el _ L.de)).symm;unfold conj
   rw [e,L.er _ (L.dm _ _ L.de (hS.dp b hb)),L.el b (hS.dp b hb)];exact hb⟩ (fun x hx c hc=>by
    have dc:=hG.dp c (hu1 c hc);exact ⟨L.dm _ _ dc hx.1,fun b hb=>by rw [zle dc hx.1 (hS.dp b hb)];exact k1 c hc _ (hx.2 b hb)⟩) a ((hq1 a).2 ha)
  exact this.2
 ·intro h a ha b hb;exact h a (hu1 a ha) b (hu2 b hb)
end Go.Ev
namespace Go.Ev
open Go Go.Proofs
variable {B:Nat}
set_option maxRecDepth 100000
theorem zts {a:Sym} {n:Nat} (ha:DP n a) (hn:n<=1000):Pure Tryz.prog B 124 [encS a] (· = encS (invS a)):=by
 have hl:=ha.1.1;refine y8 fun h nx K H0 hK=>zS zW yt 10000 fun hf' => ?_;rw [yh.go,yh.t20,zA,yh.rV];refine H0.box (l:=[encI a.1,.bool a.2]) rfl fun b1 h1 nx1 H1 => ?_;refine H1.alloc fun b2 h2 nx2 H2 => ?_;have ld0:∀ {hh nn L'} (HH:Hp h hh nn (L'++[.arr b2 [.zh,.bool false],.arr b1 [encI a.1,.bool a.2]])) (op:AV->OP),zE (.ptr b1 (0+0)) hh op=op (encI a.1):=fun {hh nn L'} HH op=>HH.load (k:=L'.length+1) (i:=0) (l:=[encI a.1,.bool a.2]) (by rw [List.getElem?_append_right (by omega)];simp) rfl;have ld1:∀ {hh nn L'} (HH:Hp h hh nn (L'++[.arr b2 [.zh,.bool false],.arr b1 [encI a.1,.bool a.2]])) (op:AV->OP),zE (.ptr b1 (0+1)) hh op=op (.bool a.2):=fun {hh nn L'} HH op=>HH.load (k:=L'.length+1) (i:=1) (l:=[encI a.1,.bool a.2]) (by rw [List.getElem?_append_right (by omega)];simp) rfl;have mk:mkSl 8 (I (a.1.length:Int)) (I (a.1.length:Int))=true:=by
  show (Nat.ble a.1.length a.1.length&&Nat.ble a.1.length 1000000&&Nat.ble (8*a.1.length) 281474976710656)=true;rw [Zab (Zak _),Zab (by omega),Zab (by omega)];rfl
 rw [yh.t19,zA,yh.rW];simp only [Bool.and_self,yP,sFx];rw [ld0 (L':=[]) H2,zG,mk];simp only [Bool.and_self,yP];rw [ld1 (L':=[]) H2];refine H2.mk1 a.1.length rfl rfl (by omega) (by decide) fun tb h3 nx3 H3 => ?_;rw [ld1 (L':=[_]) H3];simp only [zB,zG];rw [ld0 (L':=[_]) H3]
 try simp only [zB]
 rw [dW rfl rfl];refine H3.alloc fun b3 h4 nx4 H4 => ?_;rw [dW rfl rfl]
 try simp only [zB]
 rw [ld1 (L':=[_,_]) H4]
 try simp only [zB,zG]
 rw [ld0 (L':=[_,_]) H4]
 try simp only [zB]
 refine H4.qm (k:=0) (n:=2) rfl rfl rfl fun h5 H5 => ?_;rw [yh.t18,zA,yh.t15,zA,yh.rX,sFx,ld0 (L':=[_,_]) H5,zG];have e0:List.replicate a.1.length (I 0)=(kX a.1.length false a.1 (idL a.1.length) 0).map I:=by simp [kX]
 rw [e0] at H5;rw [yh.t14,yB]
 refine yh.zci (fun m x8 h' nx'=>∃ i:Nat,x8=I i/\m=a.1.length-i/\i<=a.1.length/\Hp h h' nx' [.arr b3 [.sl tb 0 a.1.length (some a.1.length) 1,.bool a.2],.arr tb ((kX a.1.length false a.1 (idL a.1.length) i).map I),.arr b2 [.zh,.bool false],.arr b1 [encI a.1,.bool a.2]]) (m:=a.1.length) (by omega)
  ⟨0,rfl,by omega,by omega,H5⟩ ?_
 rintro m z4 z5 z8 z9 h6 nx6 R ⟨i,rfl,rfl,hi,H6⟩ hR;rw [yh.t12,zA,yh.ay,je];by_cases hlt:i<a.1.length
 case neg =>
  rw [decide_eq_false (by omega),yh.t11,zA,yh.t4,zK,yh.v9,zC,jT,gN,yh.t17,zA,yh.rY,H6.zi (k:=0) (n:=2) rfl rfl];refine H6.qm (k:=2) (n:=2) rfl rfl rfl fun h7 H7 => ?_;simp only [yX,jZ];rw [yh.ret,H7.zi (k:=2) (n:=2) rfl rfl];obtain rfl:i=a.1.length:=by omega
  have hal:=uU a.1.length false a.1 (idL a.1.length) a.1.length;have e:invS a=(kX a.1.length false a.1 (idL a.1.length) a.1.length,a.2):=by
   unfold invS zbr;rw [bE]
  refine hK _ _ _ _ (encS (invS a)) H7 (xT ?_ (zJ rfl) rfl) rfl;rw [e];have:=H7.zd7 (k:=1) (e:=1) (n:=a.1.length) (cap:=some a.1.length) rfl (Zak _) (by simp [hal]) zv9;show sU h h7 _ (AV.lst 1 (kX _ _ _ _ _).length _);rw [hal];exact this
 rw [decide_eq_true (by omega),yh.t11,zA,yh.t4,zK,yh.v9,zD,zX];have hx:a.1[i]? = some a.1[i]:=List.getElem?_eq_getElem hlt;have hgb:=ha.perm.2 _ (Zai hlt);have hgd:a.1.getD i 0=a.1[i]:=by rw [Zac,hx];rfl
 rw [yh.t10,zA,yh.t8,yB,yh.t7,zA,yh.t5_s,xg rfl hlt,ldL (cZ hx),yh.t6_s,sFx,H6.load (k:=0) (i:=0+0) rfl rfl,sIx (i:=(a.1[i]).toNat) (by omega) (by omega)];refine H6.store (k:=1) rfl (by rw [Zaq,uU];omega) rfl fun h7 H7 => ?_;rw [yh.sF,jr (by omega)];refine hR _ _ _ _ _ _ _ (by omega) ⟨i+1,rfl,rfl,by omega,H7.cast ?_⟩;rw [xZ,hgd,zel hlt];simp [List.map_set,xOf]
def nrmV (G S:List Sym) (n:Int):AV:=if subE G S n≠0 then .tup [.bool false,I (subE G S n)] else .tup [.bool (zjc G S),I 0]
theorem kN {α:Type} {l:List α} {p:α->Bool} {i:Nat} {x:α} (hx:l[i]? = some x) (h:(l.take i).all p=true) (hp:p x=true):(l.take (i+1)).all p=true:=by
 rw [Zam,hx,List.all_append,h];simp [hp]
theorem pR {α:Type} {l:List α} {p:α->Bool} (h:(l.take l.length).all p=true):l.all p=true:=by rwa [Zal (Zak _)] at h
theorem zhw {G S:List Sym} {n:Int} (hG:G.length<=100000) (hw:∀ g∈G,g.1.length<=100000) (hS:S.length<=100000) (hw2:∀ g∈S,g.1.length<=100000):Pure Tryz.prog B 40 [jd G,jd S,I n] (· = nrmV G S n):=by
 refine y8 fun h nx K H0 hK=>zS zW yt 10000000 fun hf' => ?_;rw [F40.go,F40.t43,zA,F40.rV,F40.t42,zA,F40.rW];refine mR hG hw hS hw2 H0 (fun e h2 nx2 X he hne H2 => ?_) fun n' u1 q1 u2 q2 g o1 o2 h2 nx2 X hn ok1 ok2 hse hu1 hul1 hC1 hq1 hu2 hul2 hC2 hq2 hsub H2 => ?_
 ·rw [yM,yO,yV];refine H2.alloc fun b6 h3 nx3 H3 => ?_;refine H3.qm (k:=0) (n:=2) rfl rfl rfl fun h4 H4 => ?_;rw [F40.t41,zA,F40.t6,zA,F40.rX,gy,decide_eq_false hne,Zae,F40.t5,zK,F40.v10,zD,F40.t4,zA,F40.ay];simp only [yX,jZ];rw [F40.ret];exact hK _ _ _ _ _ H4 (uT (zJ rfl) (zJ rfl)) (by rw [nrmV,<- he,if_pos hne])
 subst hn;have oU:=ok1.n256;have hgen:=zlf ok1 ok2 hu1 hC1 hq1 hu2 hC2 hq2;rw [yM,yO,yV];refine H2.alloc fun b6 h3 nx3 H3 => ?_;refine H3.qm (k:=0) (n:=2) rfl rfl rfl fun h4 H4 => ?_;rw [F40.t41,zA,F40.t6,zA,F40.rX,gy,decide_eq_true rfl,Zad,F40.t5,zK,F40.v10,zC,zX,F40.t40,zA,F40.t37,zA,F40.t7_s,sAx0,H4.load (k:=0) (i:=0) rfl rfl,H4.o8 (k:=3) rfl];have hd2:∀ b∈q2,DS n' b:=fun b hb=>(ok2.dp b ((hq2 b).1 hb)).1;have no:∀ {h' nx' L'},Hp h h' nx' L'->(∃ a∈u1,∃ b∈u2,conj a b∉S)->K (.tup [.bool false,I 0]) h' nx'=.ok True:=fun H' ⟨a,ha,b,hb,hc⟩=>by
  refine hK _ _ _ _ _ H' (uT (zJ rfl) (zJ rfl)) ?_;rw [nrmV,hse,if_neg (by decide),<- hgen]
  congr 3
  refine (Bool.eq_false_iff.2 fun q => ?_).symm;have:=List.all_eq_true.1 (List.all_eq_true.1 q a ha) b hb;exact hc (of_decide_eq_true this)
 rw [F40.t36,yB]
 refine F40.zt4 (fun m x13 h' nx'=>∃ i:Nat,x13=I i/\m=u1.length-i/\i<=u1.length/\(u1.take i).all (fun a=>u2.all fun b=>decide (conj a b∈S))=true/\Hp h h' nx' (.arr b6 [ku o1 2 u1.length,ku o2 2 u2.length]::.map g (wo q2)::.gro o2 2 u2.length (yN u2)::.gro o1 2 u1.length (yN u1)::(X++[]))) (m:=u1.length) (by omega)
  ⟨0,rfl,by omega,by omega,by simp,H4⟩ ?_
 rintro m z3 z4 z8 z9 z13 z14 z15 z16 z17 z18 z19 h6 nx6 R ⟨i,rfl,rfl,hi,hal,H6⟩ hR;rw [F40.t34,zA,F40.eH,je];by_cases hlt:i<u1.length
 case neg =>
  rw [decide_eq_false (by omega),F40.t33,zA,F40.t9,zK,F40.v14,zC,jT,gN,F40.t39,zA,F40.zt5];simp only [yX,jZ];rw [F40.ret];obtain rfl:i=u1.length:=by omega
  exact hK _ _ _ _ _ H6 (uT (zJ rfl) (zJ rfl)) (by rw [nrmV,hse,if_neg (by decide),<- hgen,pR hal])
 rw [decide_eq_true (by omega),F40.t33,zA,F40.t9,zK,F40.v14,zD,zX,F40.t32,zA,F40.t30,yB,F40.t29,zA,F40.aA];have hx:u1[i]? = some u1[i]:=List.getElem?_eq_getElem hlt;have hxm:=Zaa hx;have hdx:=ok1.dp _ (hu1 _ hxm);obtain ⟨iu,ou,e1,e2⟩:=zh4 (k:=3) H6 rfl hx;rw [e1,e2];refine H6.alloc fun b8 h7 nx7 H7 => ?_;refine H7.qm (k:=0) (n:=2) rfl rfl rfl fun h8 H8 => ?_;rw [F40.t28,zA,F40.zae,sAx1,H8.load (k:=1) (i:=0+1) rfl rfl,H8.o8 (k:=3) rfl,F40.t27,yB]
 refine F40.zt3 (fun m x17 h' nx'=>∃ k:Nat,x17=I k/\m=u2.length-k/\k<=u2.length/\(u2.take k).all (fun b=>decide (conj u1[i] b∈S))=true/\Hp h h' nx' (.arr b8 [encI u1[i].1,.bool u1[i].2]::.arr b6 [ku o1 2 u1.length,ku o2 2 u2.length]::.map g (wo q2)::.gro o2 2 u2.length (yN u2)::.gro o1 2 u1.length (yN u1)::(X++[]))) (m:=u2.length) (by omega)
  ⟨0,rfl,by omega,by omega,by simp,H8⟩ ?_
 rintro m y3 y4 y9 y17 y18 y19 h9 nx9 R' ⟨k,rfl,rfl,hk,hal2,H9⟩ hR';rw [F40.t25,zA,F40.zaf,je];by_cases hlt2:k<u2.length
 case neg =>
  rw [decide_eq_false (by omega),F40.t24,zA,F40.t13,zK,F40.v18,zC,jT,gN,F40.zad,jr (by omega)];obtain rfl:k=u2.length:=by omega
  exact hR _ _ _ _ _ _ _ _ _ _ _ _ _ _ (by omega) ⟨i+1,rfl,rfl,by omega,kN hx hal (pR hal2),H9.drop⟩
 rw [decide_eq_true (by omega),F40.t24,zA,F40.t13,zK,F40.v18,zD,zX,F40.t23,zA,F40.t21,yB,F40.t20,zA,F40.oC];have hy:u2[k]? = some u2[k]:=List.getElem?_eq_getElem hlt2;have hym:=Zaa hy;have hdy:=ok2.dp _ (hu2 _ hym);obtain ⟨iv,ov,e3,e4⟩:=zh4 (k:=3) H9 rfl hy;rw [e3,e4];refine H9.alloc fun b9 h10 nx10 H10 => ?_;refine H10.qm (k:=0) (n:=2) rfl rfl rfl fun h11 H11 => ?_;rw [F40.t19,zA,F40.aB,H11.zi (k:=1) (n:=2) rfl rfl,H11.zi (k:=0) (n:=2) rfl rfl,H11.zi (k:=1) (n:=2) rfl rfl];refine pT (a:=u1[i]) (b:=u2[k]) (fun z hz=>by rw [hdx.1.1];exact hdy.1.2 z hz) (by rw [hdy.1.1];omega) _ _ _ _ ?_;rintro _ rfl _;rw [H11.zi (k:=1) (n:=2) rfl rfl,zB,zB];refine zts (a:=u1[i]) hdx (by omega) _ _ _ _ ?_;rintro _ rfl _;have hdi:=xQ hdx;have hdxy:=(jY n').dm _ _ hdx hdy;rw [zB];refine pT (a:=zP u1[i] u2[k]) (b:=invS u1[i]) (fun z hz=>by rw [hdxy.1.1];exact hdi.1.2 z hz) (by rw [hdi.1.1];omega) _ _ _ _ ?_;rintro _ rfl _;rw [zB];have hdc:DP n' (conj u1[i] u2[k]):=zq0 hdx hdy;refine zby (a:=conj u1[i] u2[k]) oU hdc.1 hd2 H11 (k:=3) rfl ?_;rw [yA,F40.t18,zK,F40.v19];by_cases c:conj u1[i] u2[k]∈q2
 ·rw [decide_eq_true c,Zad,zC,zX,F40.zlq,jr (by omega)];exact hR' _ _ _ _ _ _ _ _ _ (by omega) ⟨k+1,rfl,rfl,by omega,kN hy hal2 (decide_eq_true ((hq2 _).1 c)),H11.drop⟩
 ·rw [decide_eq_false c,Zae,zD,F40.t17,zA,F40.rY];simp only [yX,zhd,jZ];rw [F40.ret];exact no H11 ⟨_,hxm,_,hym,fun q=>c ((hq2 _).2 q)⟩
end Go.Ev
namespace Go.Ev
abbrev AscS (l:List Sym):Prop:=l.Pairwise fun a b=>fJ a b=true
theorem AscS.nd {l:List Sym} (h:AscS l):l.Nodup:=h.imp fun hab e=>by rw [e,qV] at hab;cases hab
theorem zfp:∀ {a b:List Sym},AscS a->AscS b->(∀ x,x∈a↔x∈b)->a=b
 | [],[],_,_,_=>rfl
 | [],y::b,_,_,h=>by have:=(h y).2 (by simp);cases this
 | x::a,[],_,_,h=>by have:=(h x).1 (by simp);cases this
 | x::a,y::b,ha,hb,h=>by
  have ha':=List.pairwise_cons.1 ha;have hb':=List.pairwise_cons.1 hb;have e:x=y:=by
   have h1:=(h x).1 (by simp);have h2:=(h y).2 (by simp);rcases List.mem_cons.1 h1 with q | q
   ·exact q
   ·rcases List.mem_cons.1 h2 with r | r
    ·exact r.symm
    ·have h3:=hb'.1 x q;have h4:=ha'.1 y r;rw [zb7 h3] at h4;cases h4
  subst e
  congr 1
  refine zfp ha'.2 hb'.2 fun z => ?_;have hz:=h z;simp only [Zah] at hz;constructor
  ·intro q;rcases hz.1 (.inr q) with rfl | r
   ·have:=ha'.1 z q;rw [qV] at this;cases this
   ·exact r
  ·intro q;rcases hz.2 (.inr q) with rfl | r
   ·have:=hb'.1 z q;rw [qV] at this;cases this
   ·exact r
end Go.Ev
namespace Go.Ev
open Go Go.Proofs
theorem zov {a b:Sym} (h:a≠b) (h2:bZ a b<=0):fJ a b=true:=by
 rw [wJ] at h2;unfold fJ;by_cases c:a.1=b.1
 ·rw [if_pos c] at h2 ⊢;have:a.2≠b.2:=fun q=>h (Prod.ext c q)
  revert h2 this;cases a.2 <;> cases b.2 <;> simp
 ·rw [if_neg c] at h2 ⊢;rw [wL];have:=mD c;exact decide_eq_true (by omega)
theorem zhv {s:List Sym} (hn:s.Nodup) (h:s.Pairwise fun a b=>bZ a b<=0):AscS s:=(List.pairwise_and_iff.2 ⟨hn,h⟩).imp fun ⟨h1,h2⟩=>zov h1 h2
end Go.Ev
namespace Go.Ev
theorem zgh:∀ {l:List Int},l.Pairwise (· < ·)->∀ c∈l,c<=l.getLastD 0
 | [],_,c,h=>by simp at h
 | [a],_,c,h=>by simp at h;subst h;simp
 | a::b::l,hp,c,h=>by
  have ih:=zgh (l:=b::l) (List.pairwise_cons.1 hp).2;have e:(a::b::l).getLastD 0=(b::l).getLastD 0:=by simp [List.getLastD]
  rw [e];rcases List.mem_cons.1 h with q | q
  ·subst q;have:=(List.pairwise_cons.1 hp).1 b (by simp);have:=ih b (by simp);omega
  ·exact ih c q
section
variable {σ α:Type}
end
end Go.Ev
namespace Go.Ev
def SpOK (M:Int) (q:List (Int×Int)):Prop:=q.Pairwise (fun a b=>a.1<b.1)/\∀ p∈q,0<=p.1/\p.1<=M
theorem SpOK.len {q:List (Int×Int)} (h:SpOK 9000 q):q.length<=9001:=by
 obtain ⟨t,ht⟩:=zfz (q.map (·.1)) ((List.range 9001).map fun (i:Nat)=>(i:Int)) (by
  rw [List.nodup_iff_pairwise_ne,Zbx];exact h.1.imp fun {a b} q e=>by omega) fun x hx=>by
  obtain ⟨p,hp,rfl⟩:=List.mem_map.1 hx;have:=h.2 p hp;exact List.mem_map.2 ⟨p.1.toNat,List.mem_range.2 (by omega),by omega⟩
 have:=ht.length_eq;rw [Zaq,List.length_range,Zat,Zaq] at this;omega
theorem zlg (pre:List Int) {x y:Int} {s t:List Int} (h:x<y):jV (pre++x::s) (pre++y::t)=true:=by
 induction pre with
 | nil=>rw [List.nil_append,List.nil_append,jV,if_neg (by omega)];simpa using h
 | cons a p ih=>rw [Zcg,Zcg,jV,if_pos rfl,ih]
theorem zc8:∀ a:List Int,jV a a=false
 | []=>rfl
 | x::a=>by rw [jV,if_pos rfl];exact zc8 a
def kE (n:Nat):Nat->List Int->List (List Int)
 | 0,pre=>[pre]
 | r+1,pre=>(List.range n).flatMap fun (x:Nat)=>if (x:Int)∈pre then [] else kE n r (pre++[(x:Int)])
def facZ:Nat->Nat
 | 0=>1
 | n+1=>(n+1)*facZ n
theorem mC {n:Nat}:∀ {r:Nat} {pre f:List Int},pre.Nodup->(f∈kE n r pre↔∃ t,f=pre++t/\t.length=r/\(pre++t).Nodup/\∀ x∈t,0<=x/\x<(n:Int))
 | 0,pre,f,hp=>by
  rw [kE,Zbc];constructor
  ·rintro rfl;exact ⟨[],by simp,rfl,by simpa using hp,by simp⟩
  ·rintro ⟨t,rfl,ht,_,_⟩;rw [Zau ht];simp
 | r+1,pre,f,hp=>by
  rw [kE,Zax];constructor
  ·rintro ⟨x,hx,hf⟩;have hxn:=List.mem_range.1 hx;by_cases c:(x:Int)∈pre
   ·rw [if_pos c] at hf;cases hf
   rw [if_neg c] at hf;have hn2:(pre++[(x:Int)]).Nodup:=List.nodup_append.2 ⟨hp,by simp,by rintro a ha b hb rfl;rw [List.mem_singleton.1 hb] at ha;exact c ha⟩;obtain ⟨t,rfl,h1,h2,h3⟩:=(mC hn2).1 hf;refine ⟨(x:Int)::t,by simp,by simp [h1],by simpa using h2,fun y hy => ?_⟩;rcases List.mem_cons.1 hy with rfl | hy
   ·omega
   ·exact h3 y hy
  ·rintro ⟨t,rfl,h1,h2,h3⟩;cases t with
   | nil=>cases h1
   | cons y t =>
    obtain ⟨q1,q2⟩:=h3 y (by simp);have hy:y∉pre:=fun q=>(List.nodup_append.1 h2).2.2 y q y (by simp) rfl;refine ⟨y.toNat,List.mem_range.2 (by omega),?_⟩;rw [show ((y.toNat:Nat):Int)=y by omega,if_neg hy];have hn2:(pre++[y]).Nodup:=by
     have:pre++y::t=(pre++[y])++t:=by simp
     rw [this] at h2;exact (List.nodup_append.1 h2).1
    exact (mC hn2).2 ⟨t,by simp,by simpa using h1,by simpa using h2,fun x hx=>h3 x (by simp [hx])⟩
theorem vG {n:Nat}:∀ {r:Nat} {pre f:List Int},f∈kE n r pre->∃ t,f=pre++t
 | 0,pre,f,h=>⟨[],by rw [kE,Zbc] at h;simp [h]⟩
 | r+1,pre,f,h=>by
  rw [kE,Zax] at h;obtain ⟨x,_,hf⟩:=h;by_cases c:(x:Int)∈pre
  ·rw [if_pos c] at hf;cases hf
  rw [if_neg c] at hf;obtain ⟨t,rfl⟩:=vG hf;exact ⟨(x:Int)::t,by simp⟩
theorem zjq {α β:Type} {R:β->β->Prop} {S:α->α->Prop} {f:α->List β}:∀ {l:List α},l.Pairwise S->(∀ x∈l,(f x).Pairwise R)->(∀ x∈l,∀ y∈l,S x y->∀ a∈f x,∀ b∈f y,R a b)->(l.flatMap f).Pairwise R
 | [],_,_,_=>.nil
 | x::l,h,h1,h2=>by
  obtain ⟨g1,g2⟩:=List.pairwise_cons.1 h;rw [Zaz,List.pairwise_append];refine ⟨h1 x (by simp),zjq g2 (fun y hy=>h1 y (by simp [hy])) fun y hy z hz=>h2 y (by simp [hy]) z (by simp [hz]),fun a ha b hb => ?_⟩;obtain ⟨y,hy,hb⟩:=List.mem_flatMap.1 hb;exact h2 x (by simp) y (by simp [hy]) (g1 y hy) a ha b hb
theorem zc9 {n:Nat}:∀ (r:Nat) (pre:List Int),(kE n r pre).Pairwise fun a b=>jV a b=true
 | 0,pre=>by rw [kE];simp
 | r+1,pre=>by
  rw [kE];refine zjq (S:=(· < ·)) List.pairwise_lt_range (fun x _ => ?_) fun x _ y _ hxy a ha b hb => ?_
  ·by_cases c:(x:Int)∈pre
   ·rw [if_pos c];exact .nil
   ·rw [if_neg c];exact zc9 r _
  ·by_cases c:(x:Int)∈pre
   ·rw [if_pos c] at ha;cases ha
   by_cases d:(y:Int)∈pre
   ·rw [if_pos d] at hb;cases hb
   rw [if_neg c] at ha;rw [if_neg d] at hb;obtain ⟨s,rfl⟩:=vG ha;obtain ⟨t,rfl⟩:=vG hb;rw [Zbn,Zbn];exact zlg pre (by omega)
end Go.Ev
namespace Go.Ev
open Go Go.Proofs
variable {B:Nat}
set_option maxRecDepth 100000
theorem zq1 {P:Program} {f:Nat} {p:Pa} {args args':List AV} {h:T Blk} {nx:Pa} {K:Kw Prop} (hv:∀ (E:Env) (vs:List Value),VRL E args vs->VRL E args' vs) (hk:(CS P B).fn f p args' h nx K=.ok True):(CS P B).fn f p args h nx K=.ok True:=by
 rw [rG] at hk ⊢;exact ⟨fun E w vs H hv'=>hk.1 E w vs H (hv _ _ hv'),rfl⟩
theorem zq2 {E:Env} {e:Nat} {vv:Value} (h:VR E .zh vv):VR E (.lst e 0 []) vv:=by
 simp only [VR] at h ⊢;exact ⟨rfl,by simp,none,0,h,.inl (by simp)⟩
def LG (v:AV) (l:List Sym):Prop:=(v=.zh/\l=[])\/(v=jd l/\l≠[])
theorem LG.len {v:AV} {l:List Sym} (h:LG v l) {op:AV->OP}:sLen v op=op (I l.length):=by
 rcases h with ⟨rfl,rfl⟩ | ⟨rfl,_⟩
 ·exact zY
 ·exact zG ..
theorem LG.frz {v:AV} {l:List Sym} (h:LG v l) {N:Pa->Prop} {O:AV->Prop} {hh:T Blk}:Frz True N O hh v (jd l):=by
 rcases h with ⟨rfl,rfl⟩ | ⟨rfl,_⟩
 ·exact .zbd 2
 ·exact zJ (zc4 _)
theorem LG.call {P:Program} {f:Nat} {p:Pa} {v:AV} {rest:List AV} {l:List Sym} (h:LG v l) {hh:T Blk} {nx:Pa} {K:Kw Prop} (hk:(CS P B).fn f p (jd l::rest) hh nx K=.ok True):(CS P B).fn f p (v::rest) hh nx K=.ok True:=by
 rcases h with ⟨rfl,rfl⟩ | ⟨rfl,_⟩
 ·refine zq1 (fun E vs hv => ?_) hk;simp only [VRL] at hv ⊢;obtain ⟨a,m,q,r,s⟩:=hv;exact ⟨a,m,q,zq2 r,s⟩
 ·exact hk
end Go.Ev
namespace Go.Ev
open Go.Proofs (qj xM q8 qF uS)
abbrev AscT (l:List (List Int)):Prop:=l.Pairwise fun a b=>jV a b=true
end Go.Ev
namespace Go.Ev
open Go Go.Proofs
variable {B:Nat}
set_option maxRecDepth 100000
def Kept (s r:List (List Int)) (j:Nat):Prop:=AscT r/\(∀ x,x∈r↔x∈s.take j)/\1<=r.length/\r.length<=j/\r.getLast? = s[j-1]?
theorem Kept.same {s r:List (List Int)} {j:Nat} (hj:1<=j) (h:Kept s r j) (hl:j<s.length) (e:s[j]=s[j-1]):Kept s r (j+1):=by
 obtain ⟨h1,h2,h3,h4,h5⟩:=h;have hp:s[j-1]? = some s[j-1]:=List.getElem?_eq_getElem (by omega);refine ⟨h1,fun x => ?_,h3,by omega,?_⟩
 ·rw [h2,Zam,List.getElem?_eq_getElem hl,Zar];constructor
  ·exact .inl
  ·rintro (q | q)
   ·exact q
   ·have:x=s[j-1]:=by rw [<- e];simpa using q
    rw [this];exact Zaa (i:=j-1) (by rw [List.getElem?_take_of_lt (by omega)];exact hp)
 ·rw [h5,hp,Nat.add_sub_cancel,List.getElem?_eq_getElem hl,e]
theorem Kept.new {s r:List (List Int)} {j:Nat} (hj:1<=j) (h:Kept s r j) (hs:s.Pairwise fun a b=>qj a b<=0) (hl:j<s.length) (e:s[j]≠s[j-1]):Kept s (r++[s[j]]) (j+1):=by
 obtain ⟨h1,h2,h3,h4,h5⟩:=h;have hlt:∀ x∈s.take j,jV x s[j]=true:=fun x hx=>by
  have hpw:=List.pairwise_iff_getElem.1 hs;obtain ⟨i,hi⟩:=List.getElem?_of_mem hx;have hil:=(List.getElem?_eq_some_iff.1 hi).1;rw [Zba] at hil;rw [List.getElem?_take_of_lt (by omega),List.getElem?_eq_getElem (by omega)] at hi;obtain rfl:=Option.some.inj hi;have a1:=hpw i j (by omega) hl (by omega);have a2:=hpw (j-1) j (by omega) hl (by omega);have a3:qj s[j-1] s[j]≠0:=fun q=>e (q8 q).symm;rw [wL];by_cases q:i=j-1
  ·subst q;exact decide_eq_true (by omega)
  ·have a4:=hpw i (j-1) (by omega) (by omega) (by omega);by_cases z:qj s[i] s[j-1]=0
   ·rw [q8 z];exact decide_eq_true (by omega)
   ·exact decide_eq_true (uS (b:=s[j-1]) (by omega) (by omega))
 refine ⟨List.pairwise_append.2 ⟨h1,by simp,fun x hx y hy => ?_⟩,fun x => ?_,by simp,by simp;omega,?_⟩
 ·rw [List.mem_singleton.1 hy];exact hlt x ((h2 x).1 hx)
 ·rw [Zar,h2,Zam,List.getElem?_eq_getElem hl,Zar];simp
 ·rw [Nat.add_sub_cancel,List.getElem?_eq_getElem hl];simp
theorem wB {a b c:List Int} (h1:qj a b<=0) (h2:qj b c<=0):qj a c<=0:=by
 by_cases z1:qj a b=0
 ·rw [q8 z1];exact h2
 ·by_cases z2:qj b c=0
  ·rw [<- q8 z2];exact h1
  ·have:=uS (a:=a) (b:=b) (c:=c) (by omega) (by omega);omega
def LT (v:AV) (l:List (List Int)):Prop:=(v=.zh/\l=[])\/(v=qg l/\l≠[])
theorem LT.len {v:AV} {l:List (List Int)} (h:LT v l) {op:AV->OP}:sLen v op=op (I l.length):=by
 rcases h with ⟨rfl,rfl⟩ | ⟨rfl,_⟩
 ·exact zY
 ·exact zG ..
theorem LT.frz {v:AV} {l:List (List Int)} (h:LT v l) {N:Pa->Prop} {O:AV->Prop} {hh:T Blk}:Frz True N O hh v (qg l):=by
 rcases h with ⟨rfl,rfl⟩ | ⟨rfl,_⟩
 ·exact .zbd 1
 ·exact zJ (zkd _)
end Go.Ev
namespace Go.Ev
open Go.Proofs
theorem zjr:∀ {G:List Sym},(G.Pairwise fun a b=>fJ a b=true)->rU G=true
 | [],_=>rfl
 | [_],_=>rfl
 | a::b::G,h=>by
  have h1:=List.pairwise_cons.1 h;show (fJ a b&&rU (b::G))=true;rw [h1.1 b (by simp),zjr h1.2];rfl
theorem dU {n:Nat} (hn:n<=256):∀ {G:List Sym},(∀ g∈G,DP n g)->jL n G=0
 | [],_=>rfl
 | a::G,h=>by
  have ha:=h a (by simp);have e:jM a.1 n=0:=by rw [jM,if_neg (by omega),if_neg (by rw [ha.1.1];omega),if_pos ha.perm]
  rw [jL,e,if_neg (by decide)];exact dU hn fun g hg=>h g (by simp [hg])
theorem fU.err {G:List Sym} {n:Nat} (h:fU G n):jK G n=0:=by
 have:=h.n256;have hl:=h.len;rw [jK,if_neg (by omega),if_neg (fun q=>h.ne (Zau q)),if_neg (by omega),if_neg (by rw [dU h.n256 h.dp];decide),if_neg (by rw [h.ord];decide),if_neg (by rw [oQ.2 h.cl];decide)]
section
variable {G S:List Sym} {n:Nat}
end
end Go.Ev
namespace Go.Ev
section
variable {G:List Sym} {n:Nat}
end
end Go.Ev
namespace Go.Ev
open Go Go.Proofs Go.RowKit Go.Sort
def xR:List AV->Option (List Int)
 | []=>some []
 | .int k n::l=>match k with
  | .i64=>match xR l with
   | some xs=>some (n::xs)
   | none=>none
  | _=>none
 | _=>none
theorem zgi:∀ {l:List AV} {xs:List Int},xR l=some xs->l=xs.map I
 | [],xs,h=>by simp [xR] at h;subst h;rfl
 | x::l,xs,h=>by
  cases x <;> first | (simp [xR] at h;done) | skip
  rename_i k n;cases k <;> first | (simp [xR] at h;done) | skip
  simp only [xR] at h;cases hl:xR l with
  | none=>simp [hl] at h
  | some ys=>simp [hl] at h;subst h;simp [zgi hl]
theorem zlh (l:List Int):xR (l.map I)=some l:=by
 induction l with
 | nil=>rfl
 | cons a l ih=>show (match xR (l.map I) with | some xs=>some (a::xs) | none=>none)=_;rw [ih]
def zda (v:AV) (h:T Blk):Option (T Blk):=match v with
 | .sl id off ln _ esz=>match T.get .no id h with
  | .cells op m t=>bif Nat.beq esz 1&&Nat.ble (off+ln) m&&Nat.ble ln 1000000 then (match xR (yJ t off ln) with
   | some l=>some (T.set .no (.cells op m (jI ((srt l).map I) t off)) id h)
   | none=>none) else none
  | _=>none
 | .zh=>some h
 | _=>none
def zow (f:Nat) (args:List AV) (h:T Blk):Option (AV×T Blk):=bif Nat.beq f 91 then (match args with
 | [v]=>match zda v h with
  | some h=>some (.tup [],h)
  | none=>none
 | _=>none) else none
theorem HR.sorted {P:Program} {B:Nat} {E:Env} {h:T Blk} {nx:Pa} {w:World} (H:HR P B E h nx w) {id:Pa} {op:Bool} {m off b n k:Nat} {t:T AV} {l l':List Int} {os:Array Obj} (hb:T.get .no id h=.cells op m t) (hE:E id=some (b,n))
  (hl':l'.length=l.length) (hm:off+l.length<=m) :
  HR P B E (T.set .no (.cells op m (jI (l'.map I) t off)) id h) nx (grow (putRow (Value.int .i64) (Sort.ahead w k) b off l'.toArray) os)/\Ex E E w (grow (putRow (Value.int .i64) (Sort.ahead w k) b off l'.toArray) os):=by
 have hid:T.get .no id h≠.no:=by rw [hb];intro e;cases e
 obtain ⟨b',n',o,h1,h2,h3⟩:=H.blk id hid;rw [hE] at h1;cases h1;rw [hb] at h3;obtain ⟨c,ty,fr,rfl,q1,q2,q3,q4,q5⟩:=h3;have hcs:(putCells (Value.int .i64) off l'.toArray c).size=c.size:=by simp [putCells]
 have hbr:BR P E n (.cells op m (jI (l'.map I) t off)) (.cells (putCells (Value.int .i64) off l'.toArray c) ty fr):=by
  refine ⟨_,ty,fr,rfl,by rw [hcs];exact q1,by rw [hcs];exact q2,q3,q4,fun i hi => ?_⟩;rw [uE];have hic:i<c.size:=by omega
  have hce:(putCells (Value.int .i64) off l'.toArray c)[i]? = some (if off<=i/\i<off+l'.length then Value.int .i64 (l'.toArray[i-off]!) else c[i]):=by
   simp [putCells,Array.getElem?_eq_getElem hic]
  rw [Zaq];by_cases hr:off<=i/\i<off+l'.length
  ·rw [if_pos hr];rw [if_pos hr] at hce;have hj:i-off<l'.length:=by omega
   have e1:(l'.map I).getD (i-off) .undef=I l'[i-off]:=by
    rw [Zac,List.getElem?_map,List.getElem?_eq_getElem hj];rfl
   have e2:l'.toArray[i-off]! = l'[i-off]:=by simp [getElem!_pos,hj]
   rw [e1];exact ⟨rfl,_,hce,by rw [e2];simp only [VR]⟩
  ·rw [if_neg hr];rw [if_neg hr] at hce;obtain ⟨r1,v,r2,r3⟩:=q5 i hi;rw [Array.getElem?_eq_getElem hic] at r2;exact ⟨r1,_,hce,by rw [Option.some.inj r2];exact r3⟩
 have H1:=H.put hid hE hbr;have X1:Ex E E w (w.putObj b (.cells (putCells (Value.int .i64) off l'.toArray c) ty fr)):=Ex.put hE h2 fun L hL=>by cases hL
 have hbl:b<w.heap.size:=(Array.getElem?_eq_some_iff.1 h2).1;have hBel:Below (w.putObj b (.cells (putCells (Value.int .i64) off l'.toArray c) ty fr)).heap.size (w.putObj b (.cells (putCells (Value.int .i64) off l'.toArray c) ty fr)) (grow (putRow (Value.int .i64) (Sort.ahead w k) b off l'.toArray) os):=by
  refine ⟨rfl,rfl,rfl,?_,fun j hj => ?_⟩
  ·rw [World.putObj_size];simp [grow,putRow,mapBlock,Sort.ahead]
  ·rw [World.putObj_size] at hj;have e1:(grow (putRow (Value.int .i64) (Sort.ahead w k) b off l'.toArray) os).heap[j]? = (w.heap.modify b (onCells (putCells (Value.int .i64) off l'.toArray)))[j]? := by
    show (w.heap.modify b (onCells (putCells (Value.int .i64) off l'.toArray))++os)[j]? = _;rw [Array.getElem?_append_left (by simpa using hj)]
   rw [e1,Array.getElem?_modify];by_cases e:b=j
   ·subst e;rw [if_pos rfl,h2,gX _ hbl];rfl
   ·rw [if_neg e,yK _ (fun q=>e q.symm)]
 obtain ⟨r1,r2⟩:=H1.below hBel;exact ⟨r1,X1.trans r2⟩
theorem zox {B:Nat} (law:∀ (blk off cap:Nat) (zs:List Int) (w:World),Holds (Value.int .i64) w blk off zs.toArray->blk<w.heap.size->zs.length<4611686018427387904 ->
   Go.Calls Tryz.prog 91 #[.slice (some ⟨blk,off,none⟩) zs.length cap] w fun e w'=>e=.returned (.tuple #[])/\∃ n os,w'=grow (putRow (Value.int .i64) (Sort.ahead w n) blk off (zs.mergeSort fun x y=>decide (x<=y)).toArray) os)
  (law0:∀ (p:Option Addr) (cap:Nat) (w:World),Go.Calls Tryz.prog 91 #[.slice p 0 cap] w fun e w'=>e=.returned (.tuple #[])/\w'=w):JOk Tryz.prog B zow:=by
 intro E h nx w f args vs v h2 H hv hj;unfold zow at hj;cases hf:Nat.beq f 91 with
 | false=>simp [hf] at hj
 | true =>
  obtain rfl:=yE hf;rw [hf,cond_true] at hj;split at hj
  case h_2=>cases hj
  rename_i _ x;cases hjj:zda x h with
  | none=>simp [hjj] at hj
  | some hs =>
  simp only [hjj,Option.some.injEq,Prod.mk.injEq] at hj;obtain ⟨rfl,rfl⟩:=hj;refine ⟨_,Tryz.func91,by kernel_rfl,by kernel_rfl,fun n=>callsIn_wide.2 ?_⟩;obtain ⟨l⟩:=vs;simp only [VRL] at hv;obtain ⟨u,_,rfl,hu,rfl⟩:=hv;unfold zda at hjj;split at hjj
  ·rename_i id off ln cap esz;split at hjj
   ·rename_i op m t hb;cases hq:(Nat.beq esz 1&&Nat.ble (off+ln) m&&Nat.ble ln 1000000) with
    | false=>simp [hq] at hjj
    | true =>
     rw [hq,cond_true] at hjj;simp only [Zag] at hq;obtain ⟨⟨q1,q2⟩,q3⟩:=hq;obtain rfl:=yE q1;have q2:=zZ q2;have q3:=zZ q3;cases hx:xR (yJ t off ln) with
     | none=>simp [hx] at hjj
     | some xs =>
      simp only [hx,Option.some.injEq] at hjj;subst hjj;have hxs:=zgi hx;have hln:xs.length=ln:=by
       have:=congrArg List.length hxs;simpa using this.symm
      obtain ⟨b,n,c,hE,rfl,hcap⟩:=hu.ru;obtain ⟨b',n',o,h1,h2,h3⟩:=H.blk id (by rw [hb];intro e;cases e);rw [hE] at h1;cases h1;rw [hb] at h3;obtain ⟨cs,ty,fr,rfl,g1,g2,g3,g4,hc⟩:=h3;have hH:Holds (Value.int .i64) w b off xs.toArray:=by
       intro j hj;have hj:j<xs.length:=by simpa using hj
       obtain ⟨_,v',k1,k2⟩:=hc (off+j) (by omega);have he:T.get .undef (.of (off+j)) t=I xs[j]:=by
        have e1:=yC t off ln j (by omega);rw [hxs,List.getElem?_map,List.getElem?_eq_getElem hj] at e1;exact (Option.some.inj e1).symm
       rw [he] at k2;simp only [VR] at k2;subst k2;have e2:xs.toArray[j]! = xs[j]:=by simp [getElem!_pos,hj]
       rw [e2];refine ⟨by simp [World.cell?,h2,k1],?_⟩;have:=g1 (off+j) (Array.getElem?_eq_some_iff.1 k1).1;simp only [World.frozen?,h2];obtain ⟨lo,hi⟩:=fr;simp only [Bool.and_eq_false_iff,decide_eq_false_iff_not];simp only at this;omega
      rw [<- hln];refine (law b off c xs w hH (H.lt _ _ _ hE).2 (by omega)).mono ?_;rintro e w' ⟨rfl,k,os,rfl⟩;have hp:(srt xs).length=xs.length:=(uQ xs).length_eq;obtain ⟨r1,r2⟩:=H.sorted (off:=off) (l:=xs) (l':=srt xs) (k:=k) (os:=os) hb hE hp (by omega);exact ⟨_,E,rfl,by simp only [VR,VRL];exact ⟨_,rfl,rfl⟩,r1,r2⟩
   ·cases hjj
  ·obtain rfl:=(Option.some.inj hjj).symm;simp only [VR] at hu;subst hu;refine (law0 none 0 w).mono ?_;rintro e w' ⟨rfl,rfl⟩;exact ⟨_,E,rfl,by simp only [VR,VRL];exact ⟨_,rfl,rfl⟩,H,.refl _ _⟩
  ·cases hjj
end Go.Ev
namespace Go.Ev
open Go Go.Proofs
variable {B:Nat}
set_option maxRecDepth 100000
theorem zq3 {B:Nat}:JOk Tryz.prog B zow:=zox Tryz.slices_Sort_int Tryz.slices_Sort_int_none
theorem zjs {h0 h:T Blk} {nx p id:Pa} {L:List Ob} {k n:Nat} {K:Kw Prop} {l:List Int} (H:Hp h0 h nx L) (hk:L[k]? = some (.gro (some id) 1 n (l.map I))) (hn:n<=1000000)
  (hK:∀ h',Hp h0 h' nx (L.set k (.gro (some id) 1 n ((srt l).map I)))->K (.tup []) h' nx=.ok True):(CS Tryz.prog B).fn 91 p [ku (some id) 1 n] h nx K=.ok True:=by
 obtain ⟨t,h1,h2,h3⟩:=H.own _ (Zaa hk);rw [Zaq] at h2;have hp:=(uQ l).length_eq;have hln:l.length=n:=by omega
 have hsl:((srt l).map I).length=n*1:=by rw [Zaq,hp,h2]
 refine ziz zq3 (v:=.tup []) (h2:=T.set .no (.cells true (n*1) (jI ((srt l).map I) t 0)) id h) ?_ (hK _ ?_)
 ·show (match zda (.sl id 0 n none 1) h with
   | some h=>some (AV.tup [],h)
   | none=>none)=_
  have e:zda (.sl id 0 n none 1) h=some (T.set .no (.cells true (n*1) (jI ((srt l).map I) t 0)) id h):=by
   unfold zda;simp only [h1];rw [Zce] at h3 ⊢;simp only [Zbd,Zaw,Zab (Zak n),Zab hn,Bool.and_self,cond_true,h3,zlh]
  rw [e]
 ·refine H.upd hk (by simp [Ob.names]) rfl ⟨_,T.get_set_same ..,hsl,?_⟩;have:=kJ t [] ((srt l).map I) 0 rfl;rw [Zaw,List.nil_append,hsl] at this;exact this
def RB (l:List Int):Prop:=∀ x∈l,0<=x/\x<256
theorem zgj:∀ {l l':List Int},RB l->RB l'->xk (l,false)=xk (l',false)->l=l'
 | [],[],_,_,_=>rfl
 | [],_::_,_,_,h=>by cases h
 | _::_,[],_,_,h=>by cases h
 | x::l,y::l',h1,h2,h=>by
  have h:UInt8.ofNat x.toNat::xk (l,false)=UInt8.ofNat y.toNat::xk (l',false):=h;obtain ⟨e1,e2⟩:=List.cons.inj h;have hx:=h1 x (by simp);have hy:=h2 y (by simp);have e:x=y:=by
   have:=congrArg UInt8.toNat e1;simp only [UInt8.toNat_ofNat'] at this;omega
  rw [e,zgj (fun z hz=>h1 z (by simp [hz])) (fun z hz=>h2 z (by simp [hz])) e2]
def fV (ks:List (List Int)):List (AV×AV):=ks.map fun l=>(.str (xk (l,false)),.bool true)
theorem zoy {a:List Int} (ha:RB a):∀ (ks:List (List Int)) (i:Nat),(∀ b∈ks,RB b)->(a∈ks->∃ j,u5 .str (.str (xk (a,false))) (fV ks) i=some (some (j,.bool true)))/\(a∉ks->u5 .str (.str (xk (a,false))) (fV ks) i=some none)
 | [],i,_=>⟨fun h=>absurd h (by simp),fun _=>rfl⟩
 | b::ks,i,h=>by
  obtain ⟨r1,r2⟩:=zoy ha ks (i+1) fun c hc=>h c (by simp [hc])
  have e:u5 .str (.str (xk (a,false))) (fV (b::ks)) i=(match some (j5 (xk (a,false)) (xk (b,false))) with
   | some true=>some (some (i,.bool true))
   | some false=>u5 .str (.str (xk (a,false))) (fV ks) (i+1)
   | none=>none):=rfl
  rw [e];by_cases c:a=b
  ·subst c;rw [vw.2 rfl];exact ⟨fun _=>⟨i,rfl⟩,fun q=>absurd (by simp) q⟩
  ·have hb:j5 (xk (a,false)) (xk (b,false))=false:=by
    cases q:j5 (xk (a,false)) (xk (b,false)) with
    | false=>rfl
    | true=>exact absurd (zgj ha (h b (by simp)) (vw.1 q)) c
   rw [hb]
   exact ⟨fun q=>r1 (by
    rcases List.mem_cons.1 q with q | q
    ·exact absurd q c
    ·exact q),fun q=>r2 fun q2=>q (by simp [q2])⟩
theorem zry {a:List Int} (ha:RB a) {ks:List (List Int)} (hks:∀ b∈ks,RB b) {h0 h:T Blk} {nx:Pa} {L:List Ob} {k:Nat} {id:Pa} {op:AV->OP} (H:Hp h0 h nx L) (hk:L[k]? = some (.map id (fV ks))):zen .str (.bool false) false (.map id) (.str (xk (a,false))) h op=op (.bool (decide (a∈ks))):=by
 have own:T.get .no id h=.map _ _:=H.own _ (Zaa hk);obtain ⟨r1,r2⟩:=zoy ha ks 0 hks;show pq (T.get .no id h) _ _=_;rw [own]
 show (match gL .str (.str (xk (a,false))) (fV ks) with
    | some (some (_,v))=>op (bif false then .tup [v,.bool true] else v)
    | some none=>op (bif false then .tup [.bool false,.bool false] else .bool false)
    | none=>.no 20)=_
 rw [show gL .str (.str (xk (a,false))) (fV ks)=u5 .str (.str (xk (a,false))) (fV ks) 0 from rfl];by_cases c:a∈ks
 ·obtain ⟨j,hj⟩:=r1 c;rw [hj,decide_eq_true c];rfl
 ·rw [r2 c,decide_eq_false c];rfl
theorem Hp.zwe {a:List Int} (ha:RB a) {ks:List (List Int)} (hks:∀ b∈ks,RB b) (hna:a∉ks) {K:AV->T Blk->Pa->OP} {h0 h:T Blk} {nx:Pa} {L:List Ob} {k:Nat} {id:Pa} (H:Hp h0 h nx L) (hk:L[k]? = some (.map id (fV ks)))
  (hK:∀ h',Hp h0 h' nx (L.set k (.map id (fV (ks++[a]))))->K .undef h' nx=.ok True):xI .str (.map id) (.str (xk (a,false))) (.bool true) h nx K=.ok True:=by
 have own:T.get .no id h=.map _ _:=H.own _ (Zaa hk);obtain ⟨_,r2⟩:=zoy ha ks 0 hks;show pq (T.get .no id h) _ _=_;rw [own]
 show (match gL .str (.str (xk (a,false))) (fV ks) with
    | some (some (i,_))=>T.xu (β:=OP) Blk.no (Blk.map (fV ks).length ((fV ks).modify i fun e=>(e.1,AV.bool true))) id h fun h'=>K .undef h' nx
    | some none=>qo ((fV ks).length+1) fun n=>T.xu (β:=OP) Blk.no (Blk.map n (fV ks++[(AV.str (xk (a,false)),AV.bool true)])) id h fun h'=>K .undef h' nx
    | none=>Out.no 45)=_
 rw [show gL .str (.str (xk (a,false))) (fV ks)=u5 .str (.str (xk (a,false))) (fV ks) 0 from rfl,r2 hna];simp only [yD,T.yu];refine hK _ (H.upd hk (by simp [Ob.names]) rfl ?_);show T.get Blk.no id _=Blk.map _ _;rw [T.get_set_same];simp [fV]
theorem zdb {cells:Int} {lines:List (List Int)} {h0 h:T Blk} {nx p:Pa} {L:List Ob} {K:Kw Prop} (H:Hp h0 h nx L) (hn:lines.length<=1000000) (hnd:lines.Nodup) (hb:∀ l∈lines,RB l/\l.length<=1000)
  (hK:∀ gm b b1 h' nx',Hp h0 h' nx' (.arr b [.map gm]::.map gm (fV lines)::.arr b1 [I cells,qg lines]::L)->K (.fn 169 (.of 169) [.ptr b 0]) h' nx'=.ok True):(CS Tryz.prog B).fn 104 p [.agg [I cells,qg lines]] h nx K=.ok True:=by
 refine jH (p:=.of 104) (K:=K) (zS zW yt 10000000 fun hf => ?_) fun _ _ _ _ q=>q;rw [yj.go,yj.t20,zA,yj.rV];refine H.box (l:=[I cells,qg lines]) rfl fun b1 h1 nx1 H1 => ?_;rw [yj.t19,zA,yj.rW];refine H1.fP fun gm h2 nx2 H2 => ?_;refine H2.alloc fun b3 h3 nx3 H3 => ?_;refine H3.store (k:=0) rfl (by simp) rfl fun h4 H4 => ?_;rw [yj.t18,zA,yj.t15,zA,yj.rX,sFx,H4.load (k:=2) (i:=0+1) rfl rfl,zG,yj.t14,yB];refine yj.zci (fun m x7 h' nx'=>∃ i:Nat,x7=I i/\m=lines.length-i/\i<=lines.length/\Hp h0 h' nx' (.arr b3 [.map gm]::.map gm (fV (lines.take i))::.arr b1 [I cells,qg lines]::L)) (m:=lines.length) (by omega) ⟨0,rfl,by omega,by omega,H4⟩ ?_;rintro m z4 z7 z8 h5 nx5 R ⟨i,rfl,rfl,hi,H5⟩ hR;rw [yj.t12,zA,yj.ay,je];by_cases hlt:i<lines.length
 case neg =>
  rw [decide_eq_false (by omega),yj.t11,zA,yj.t4,zK,yj.v8,zC,jT,gN,yj.t17,zA,yj.rY];simp only [yX,jZ];rw [yj.ret];rw [Zal (by omega)] at H5;exact hK gm b3 b1 _ _ H5
 have hx:lines[i]? = some lines[i]:=List.getElem?_eq_getElem hlt;obtain ⟨hrb,hll⟩:=hb _ (Zai hlt);have hnew:lines[i]∉lines.take i:=fun q=>by
  obtain ⟨j,hj⟩:=List.getElem?_of_mem q;have hjl:=(List.getElem?_eq_some_iff.1 hj).1;rw [Zba] at hjl;rw [List.getElem?_take_of_lt (by omega)] at hj;have:=List.pairwise_iff_getElem.1 hnd j i (by omega) hlt (by omega);rw [List.getElem?_eq_getElem (by omega)] at hj;exact this (Option.some.inj hj)
 have hld:∀ op:AV->OP,zE (.ptr b3 0) h5 op=op (.map gm):=fun op=>H5.load (k:=0) (i:=0) rfl rfl;have ebd:∀ op:AV->OP,gI [.zh,.bool false] [(0,1,encI lines[i])] op=op (.agg [encI lines[i],.bool false]):=fun op=>nr rfl;rw [decide_eq_true (by omega),yj.t11,zA,yj.t4,zK,yj.v8,zD,zX,yj.t10,zA,yj.t8,yB,yj.t7,zA,yj.t5_s,xg rfl hlt,ldL (getT hx),yj.t6_s,hld,ebd];refine xP (a:=(lines[i],false)) hrb hll _ _ _ _ ?_;rintro _ rfl _;rw [hld,zB];refine H5.zwe hrb (fun b hb'=>(hb b (Zcc hb')).1) hnew (k:=1) rfl fun h6 H6 => ?_;rw [yj.sF,jr (by omega)];refine hR (lines.length-(i+1)) _ _ _ _ _ (by omega) ⟨i+1,rfl,rfl,by omega,?_⟩;have e:lines.take (i+1)=lines.take i++[lines[i]]:=by rw [Zam,hx];rfl
 rw [e];exact H6
def imL (p l:List Int):List Int:=l.map fun x=>p.getD x.toNat 0
theorem zgk (p l:List Int) (x:Int):imL p (l++[x])=imL p l++[p.getD x.toNat 0]:=by unfold imL;rw [Zbz];rfl
theorem zoz {p l:List Int} (hp:RB p) (hl:∀ x∈l,0<=x/\x<(p.length:Int)):RB (imL p l):=fun y hy=>by
 obtain ⟨x,hx,rfl⟩:=List.mem_map.1 hy;obtain ⟨h1,h2⟩:=hl x hx;refine hp _ ?_;show p.getD x.toNat 0∈p;rw [Zac,List.getElem?_eq_getElem (by omega)];exact Zai _
theorem zq4 {p l:List Int} {lines:List (List Int)} {h0 h:T Blk} {nx p0 b gm:Pa} {L:List Ob} {K:Kw Prop} (H:Hp h0 h nx (.arr b [.map gm]::.map gm (fV lines)::L)) (hp:RB p) (hl:∀ x∈l,0<=x/\x<(p.length:Int)) (hl1:1<=l.length) (hl2:l.length<=1000) (hks:∀ q∈lines,RB q)
  (hK:∀ h' nx',Hp h0 h' nx' (.arr b [.map gm]::.map gm (fV lines)::L)->K (.bool (decide (srt (imL p l)∈lines))) h' nx'=.ok True):(CS Tryz.prog B).fn 169 p0 [encI p,encI l,.ptr b 0] h nx K=.ok True:=by
 refine jH (p:=.of 169) (K:=K) (zS zW yt 10000000 fun hf => ?_) fun _ _ _ _ q=>q;rw [zx.go,zx.t22,zA,zx.rV,zx.t21,zA,zx.rW,zx.t20,zA,zx.t15,zA,zx.rX,zG,zx.t14,yB];refine zx.zci (fun m x4 x8 h' nx'=>∃ (i:Nat) (o:Option Pa),x8=I i/\x4=ku o 1 i/\m=l.length-i/\i<=l.length/\Hp h0 h' nx' (.gro o 1 i ((imL p (l.take i)).map I)::.arr b [.map gm]::.map gm (fV lines)::L)) (m:=l.length) (by omega) ⟨0,none,rfl,rfl,by omega,by omega,H.aG 1⟩ ?_;rintro m z4 z5 z8 z9 h5 nx5 R ⟨i,o,rfl,rfl,rfl,hi,H5⟩ hR;rw [zx.t12,zA,zx.ay,je];by_cases hlt:i<l.length
 case pos =>
  have hx:l[i]? = some l[i]:=List.getElem?_eq_getElem hlt;obtain ⟨a1,a2⟩:=hl _ (Zai hlt);have hpx:p[l[i].toNat]? = some (p.getD l[i].toNat 0):=by rw [Zac,List.getElem?_eq_getElem (by omega)];rfl
  rw [decide_eq_true (by omega),zx.t11,zA,zx.t4,zK,zx.v9,zD,zX,zx.t10,zA,zx.t8,yB,zx.t7,zA,zx.t5_s,xg rfl hlt,ldL (cZ hx),zx.t6_s,xg (i:=l[i].toNat) (by omega) (by omega),ldL (cZ hpx)];refine H5.yc (l:=[I (p.getD l[i].toNat 0)]) rfl fun tb h15 nx15 H15 => ?_;refine H15.appN (k:=1) (o:=o) (c:=1) (esz:=1) (new:=[I (p.getD l[i].toNat 0)]) rfl (jc.rd (l:=[I (p.getD l[i].toNat 0)]) (n:=1) (e:=1) (H15.own _ (Zaj ..)) rfl) rfl rfl (by decide) (by decide) (by omega) fun o'' h16 nx16 _ H16 => ?_;rw [zx.sF,jr (by omega)];refine hR (l.length-(i+1)) _ _ _ _ _ _ (by omega) ⟨i+1,o'',rfl,rfl,rfl,by omega,?_⟩;have e:(imL p (l.take (i+1))).map I=(imL p (l.take i)).map I++[I (p.getD l[i].toNat 0)]:=by
   rw [Zam,hx];show (imL p (l.take i++[l[i]])).map I=_;rw [zgk,Zbz];rfl
  rw [e];exact H16.drop
 obtain rfl:i=l.length:=by omega
 rw [Zal (Zak _)] at H5;obtain ⟨id,rfl⟩:∃ id,o=some id:=by
  cases o with
  | some id=>exact ⟨id,rfl⟩
  | none=>obtain ⟨h1,h2⟩:=H5.own _ (Zaj ..);omega
 rw [decide_eq_false (by omega),zx.t11,zA,zx.t4,zK,zx.v9,zC,jT,gN,zx.t19,zA,zx.rY];refine zjs H5 (k:=0) rfl (by omega) fun h6 H6 => ?_;have hsl:(srt (imL p l)).length=l.length:=by rw [(uQ _).length_eq];exact Zaq _
 have hrb:RB (srt (imL p l)):=fun x hx=>zoz hp hl x ((uQ _).mem_iff.1 hx);have ebd:∀ op:AV->OP,gI [.zh,.bool false] [(0,1,ku (some id) 1 l.length)] op=op (.agg [ku (some id) 1 l.length,.bool false]):=fun op=>nr rfl;rw [zx.t18,zA,zx.aS,H6.load (k:=1) (i:=0) rfl rfl,ebd];obtain ⟨h7,hkp,H7,hfz⟩:=Hp.znc (o:=some id) (e:=1) (n:=l.length) (l:=(srt (imL p l)).map I) H6 fun v hv=>by obtain ⟨a,_,rfl⟩:=List.mem_map.1 hv;rfl
 have hfz2:FrzL h7 h6 [.agg [ku (some id) 1 l.length,.bool false]] [encS (srt (imL p l),false)]:=by
  have e:AV.lst 1 l.length ((srt (imL p l)).map I)=encI (srt (imL p l)):=by rw [<- hsl]
  rw [e] at hfz;exact .cons (xT hfz (zJ rfl) rfl) .nil
 refine zm5 hkp hfz2 (xP (a:=(srt (imL p l),false)) hrb (show (srt (imL p l)).length<=1000 by omega) _ _ _ _ ?_);rintro _ rfl _;have hld:∀ op:AV->OP,zE (.ptr b 0) h7 op=op (.map gm):=fun op=>H7.load (k:=0) (i:=0) rfl rfl;rw [hld,zB,zry hrb hks H7 (k:=1) rfl];simp only [yX,jZ];rw [zx.ret];exact hK _ _ H7
end Go.Ev
namespace Go.Ev
theorem mT {cells:Int}:∀ {r prev:List (List Int)},gS cells prev r=0->(∀ l∈r,l≠[]/\yS cells none l=0/\l∉prev)/\r.Nodup
 | [],_,_=>⟨fun l hl=>(by cases hl),.nil⟩
 | l::r,prev,h=>by
  rw [gS] at h;by_cases c:jP cells prev l=0
  case neg=>rw [if_pos c] at h;exact absurd h c
  rw [if_neg (fun q=>q c)] at h;obtain ⟨h1,h2⟩:=mT h;have hl:l≠[]/\yS cells none l=0/\l∉prev:=by
   rw [jP] at c;by_cases c1:l=[]
   ·rw [if_pos c1] at c;cases c
   rw [if_neg c1] at c;by_cases c2:yS cells none l=0
   case neg=>rw [if_pos c2] at c;exact absurd c c2
   rw [if_neg (fun q=>q c2)] at c;by_cases c3:l∈prev
   ·rw [if_pos c3] at c;cases c
   ·exact ⟨c1,c2,c3⟩
  refine ⟨fun q hq => ?_,List.nodup_cons.2 ⟨fun q=>(h1 l q).2.2 (by simp),h2⟩⟩;rcases List.mem_cons.1 hq with rfl | hq
  ·exact hl
  ·exact ⟨(h1 q hq).1,(h1 q hq).2.1,fun z=>(h1 q hq).2.2 (by simp [z])⟩
theorem m0 {cells:Int}:∀ {l:List Int} {p:Option Int},yS cells p l=0->(∀ x∈l,0<=x/\x<cells)/\l.Pairwise (· < ·)/\∀ q,p=some q->∀ x∈l,q<x
 | [],p,_=>⟨fun x hx=>(by cases hx),.nil,fun q _ x hx=>(by cases hx)⟩
 | c::l,p,h=>by
  rw [yS] at h;by_cases c1:c<0\/cells<=c
  ·rw [if_pos c1] at h;cases h
  rw [if_neg c1] at h;by_cases c2:p.any (fun q=>decide (c<=q))=true
  ·rw [if_pos c2] at h;cases h
  rw [if_neg c2] at h;obtain ⟨h1,h2,h3⟩:=m0 h;have hp:∀ q,p=some q->q<c:=fun q hq=>by
   subst hq;have:¬ c<=q:=fun z=>c2 (decide_eq_true z);omega
  refine ⟨fun x hx => ?_,List.pairwise_cons.2 ⟨fun x hx=>h3 c rfl x hx,h2⟩,fun q hq x hx => ?_⟩
  ·rcases List.mem_cons.1 hx with rfl | hx
   ·omega
   ·exact h1 x hx
  ·rcases List.mem_cons.1 hx with rfl | hx
   ·exact hp q hq
   ·have:=hp q hq;have:=h3 c rfl x hx;omega
theorem zdc {cells:Int} {lines:List (List Int)} (h:jE cells lines=0):1<=cells/\cells<=256/\lines.length<=128/\lines.Nodup/\∀ l∈lines,l≠[]/\(∀ x∈l,0<=x/\x<cells)/\l.Pairwise (· < ·):=by
 rw [jE] at h;by_cases c1:cells<1\/256<cells
 ·rw [if_pos c1] at h;cases h
 rw [if_neg c1] at h;by_cases c2:128<lines.length
 ·rw [if_pos c2] at h;cases h
 rw [if_neg c2] at h;obtain ⟨h1,h2⟩:=mT h;refine ⟨by omega,by omega,by omega,h2,fun l hl => ?_⟩;obtain ⟨a,b,_⟩:=h1 l hl;obtain ⟨d,e,_⟩:=m0 b;exact ⟨a,d,e⟩
end Go.Ev
namespace Go.Ev
open Go Go.Proofs
variable {B:Nat}
set_option maxRecDepth 100000
theorem zjt {l:List Int} {n:Int} (h:∀ x∈l,0<=x/\x<n) (ha:l.Pairwise (· < ·)) (hn:n<=256):l.length<=256:=by
 have hnd:l.Nodup:=ha.imp fun h e=>by omega
 have:=lenG hnd (r:=(List.range 256).map fun k:Nat=>(k:Int)) fun x hx=>by
  obtain ⟨a,b⟩:=h x hx;exact List.mem_map.2 ⟨x.toNat,List.mem_range.2 (by omega),by omega⟩
 simpa using this
def gU (lines:List (List Int)) (p:List Int):Bool:=lines.all fun l=>decide (srt (imL p l)∈lines)
def mU (cells:Int) (lines:List (List Int)) (p:List Int):Int:=if jE cells lines≠0 then jE cells lines else jM p cells
def zdd (cells:Int) (lines:List (List Int)) (p:List Int):AV:=if mU cells lines p≠0 then .tup [.bool false,I (mU cells lines p)] else .tup [.bool (gU lines p),I 0]
theorem bD {cells:Int} {lines:List (List Int)} {p:List Int} {c:Bool} (hw:∀ q∈lines,q.length<=1000000) (hpl:p.length<=100000):Pure Tryz.prog B 73 [.agg [I cells,qg lines],.agg [encI p,.bool c]] (· = zdd cells lines p):=by
 refine y8 fun h nx K H0 hK=>zS zW yt 10000000 fun hf' => ?_;rw [F73.go,F73.t32,zA,F73.rV];refine H0.box (l:=[I cells,qg lines]) rfl fun b2 h1 nx1 H1 => ?_;refine H1.box (l:=[encI p,.bool c]) rfl fun b3 h2 nx2 H2 => ?_;have l1:∀ op:AV->OP,zH 2 (.ptr b2 0) h2 op=op (.agg [I cells,qg lines]):=fun op=>H2.zi (k:=1) (n:=2) rfl rfl;have l2:∀ op:AV->OP,zH 2 (.ptr b3 0) h2 op=op (.agg [encI p,.bool c]):=fun op=>H2.zi (k:=0) (n:=2) rfl rfl;have l3:∀ op:AV->OP,zE (.ptr b2 (0+0)) h2 op=op (I cells):=fun op=>H2.load (k:=1) (i:=0+0) rfl rfl;rw [F73.t31,zA,F73.t7,zA,F73.rW];simp only [l1,l2,sFx,l3];refine zrq hw _ _ _ _ ?_;rintro _ rfl _;simp only [l1,l2,sFx,l3,zB];refine zop (g:=p) (c:=c) hpl _ _ _ _ ?_;rintro _ rfl _;refine H2.yc (l:=[I (jE cells lines),I (jM p cells)]) rfl fun tb h5 nx5 H5 => ?_;refine kK (l:=[jE cells lines,jM p cells]) H5 (k:=0) rfl (fun B=>xU (by simp)) (fun v hv=>by rw [hv];exact .int _ _) ?_;rintro _ rfl;have e1:gY [jE cells lines,jM p cells]=mU cells lines p:=by
  unfold mU;show (if jE cells lines≠0 then jE cells lines else if jM p cells≠0 then jM p cells else 0)=_;by_cases z:jE cells lines=0 <;> by_cases z2:jM p cells=0 <;> simp [z,z2]
 rw [e1,F73.t6,zA,F73.rX,gy,F73.t5,zK,F73.v9];by_cases c1:mU cells lines p=0
 case neg =>
  rw [decide_eq_false c1,Zae,zD,F73.t4,zA,F73.ay];simp only [yX,jZ];rw [F73.ret];exact hK _ _ _ _ _ H5 (uT (zJ rfl) (zJ rfl)) (by rw [zdd,if_pos c1])
 have c0:=c1;unfold mU at c0;by_cases z:jE cells lines=0
 case neg=>rw [if_pos z] at c0;exact absurd c0 z
 rw [if_neg (fun q=>q z)] at c0;obtain ⟨n1,n2,n3,n4,n5⟩:=zdc z;obtain ⟨_,s2,s3⟩:=gG c0;have hrb:∀ l∈lines,RB l:=fun l hl x hx=>by have:=(n5 l hl).2.1 x hx;omega
 have hpb:RB p:=fun x hx=>by have:=s3.2 x hx;omega
 have hll:∀ l∈lines,l.length<=256:=fun l hl=>zjt (n5 l hl).2.1 (n5 l hl).2.2 n2;rw [decide_eq_true c1,Zad,zC,zX,F73.t30,zA,F73.eH,H5.zi (k:=2) (n:=2) rfl rfl];refine zdb H5 (by omega) n4 (fun l hl=>⟨hrb l hl,by have:=hll l hl;omega⟩) fun gm b b1 h6 nx6 H6 => ?_;rw [F73.t29,zA,F73.t26,zA,F73.sF,sFx,H6.load (k:=5) (i:=0+1) rfl rfl,zG,F73.t25,yB];have H7:Hp h h6 nx6 (.arr b [.map gm]::.map gm (fV lines)::[.arr b1 [I cells,qg lines],.arr tb [I (jE cells lines),I (jM p cells)],.arr b3 [encI p,.bool c],.arr b2 [I cells,qg lines]]):=H6;refine F73.zt6 (fun m x12 h' nx'=>∃ i:Nat,x12=I i/\m=lines.length-i/\i<=lines.length/\(lines.take i).all (fun l=>decide (srt (imL p l)∈lines))=true/\Hp h h' nx' (.arr b [.map gm]::.map gm (fV lines)::[.arr b1 [I cells,qg lines],.arr tb [I (jE cells lines),I (jM p cells)],.arr b3 [encI p,.bool c],.arr b2 [I cells,qg lines]])) (m:=lines.length) (by omega) ⟨0,rfl,by omega,by omega,by simp,H7⟩ ?_;rintro m z4 z5 z8 z12 z13 z14 h8 nx8 R ⟨i,rfl,rfl,hi,hal,H8⟩ hR;rw [F73.t23,zA,F73.aA,je];by_cases hlt:i<lines.length
 case neg =>
  rw [Zal (by omega)] at hal;rw [decide_eq_false (by omega),F73.t22,zA,F73.t11,zK,F73.v13,zC,jT,gN,F73.t28,zA,F73.zls];simp only [yX,jZ];rw [F73.ret];exact hK _ _ _ _ _ H8 (uT (zJ rfl) (zJ rfl)) (by rw [zdd,if_neg (fun q=>q c1),gU,hal])
 have hx:lines[i]? = some lines[i]:=List.getElem?_eq_getElem hlt;have hm:=Zai hlt;obtain ⟨m1,m2,m3⟩:=n5 _ hm;have hpos:1<=lines[i].length:=by
  cases q:lines[i] with
  | nil=>exact absurd q m1
  | cons a l=>simp
 rw [decide_eq_true (by omega),F73.t22,zA,F73.t11,zK,F73.v13,zD,zX,F73.t21,zA,F73.t19,yB,F73.t18,zA,F73.zaf,xg rfl hlt,ldL (getT hx),F73.t17,zA,F73.zlr,sFx,H8.load (k:=4) (i:=0+0) rfl rfl];show (CS Tryz.prog B).fn 169 (.of 169) [encI p,encI lines[i],.ptr b 0] h8 nx8 _=_;refine zq4 H8 hpb (fun x hx=>by have:=m2 x hx;omega) hpos (by have:=hll _ hm;omega) hrb fun h9 nx9 H9 => ?_;rw [yA,F73.t16,zK,F73.v14];by_cases d:srt (imL p lines[i])∈lines
 ·rw [decide_eq_true d,Zad,zC,zX,F73.zeo,jr (by omega)];exact hR (lines.length-(i+1)) _ _ _ _ _ _ _ _ (by omega) ⟨i+1,rfl,rfl,by omega,kN hx hal (decide_eq_true d),H9⟩
 ·rw [decide_eq_false d,Zae,zD,F73.t15,zA,F73.oC];simp only [yX,zhd,jZ];rw [F73.ret];refine hK _ _ _ _ _ H9 (uT (zJ rfl) (zJ rfl)) ?_;have:gU lines p=false:=Bool.eq_false_iff.2 fun q=>d (of_decide_eq_true (List.all_eq_true.1 q _ hm));rw [zdd,if_neg (fun q=>q c1),this]
end Go.Ev
namespace Go.Ev
theorem zcb {n:Nat} {f:List Int}:f∈kE n n []↔fA f/\f.length=n:=by
 rw [mC .nil];constructor
 ·rintro ⟨t,rfl,h1,h2,h3⟩;exact ⟨⟨h2,fun x hx=>by have:=h3 x hx;rw [h1];exact this⟩,h1⟩
 ·rintro ⟨⟨h1,h2⟩,h3⟩;exact ⟨f,rfl,h3,h1,fun x hx=>by have:=h2 x hx;rw [h3] at this;exact this⟩
def okA (lines:List (List Int)) (c:Nat) (f:List Int):Bool:=(lines.filter fun l=>decide (l.getLastD 0=(c:Int))).all fun l=>decide (srt (imL f l)∈lines)
def autZ (lines:List (List Int)) (n:Nat):Nat->List Int->List (List Int)
 | 0,pre=>[pre]
 | r+1,pre=>(List.range n).flatMap fun (x:Nat)=>if (x:Int)∈pre then [] else if okA lines pre.length (pre++[(x:Int)]) then autZ lines n r (pre++[(x:Int)]) else []
theorem zde {f g l:List Int} (h:∀ x∈l,f.getD x.toNat 0=g.getD x.toNat 0):imL f l=imL g l:=Zcd h
theorem zo0 {f t:List Int} {i:Nat} (h:i<f.length):(f++t).getD i 0=f.getD i 0:=by
 rw [Zac,Zac,List.getElem?_append_left h]
theorem mY {α β:Type} {f:α->List β} {p:β->Bool}:∀ l:List α,(l.flatMap f).filter p=l.flatMap fun x=>(f x).filter p
 | []=>rfl
 | x::l=>by rw [Zaz,Zaz,List.filter_append,mY l]
theorem zcc {α β:Type} {f g:α->List β}:∀ {l:List α},(∀ x∈l,f x=g x)->l.flatMap f=l.flatMap g
 | [],_=>rfl
 | x::l,h=>by rw [Zaz,Zaz,h x (by simp),zcc fun y hy=>h y (by simp [hy])]
def LnOk (n:Nat) (l:List Int):Prop:=∀ x∈l,0<=x/\x<=l.getLastD 0/\l.getLastD 0<(n:Int)
def frmA (lines:List (List Int)) (k:Nat) (f:List Int):Bool:=lines.all fun l=>decide (l.getLastD 0<(k:Int))||decide (srt (imL f l)∈lines)
theorem zo1 (lines:List (List Int)) (k:Nat) (f:List Int):frmA lines k f=(okA lines k f&&frmA lines (k+1) f):=by
 rw [Zbs,Zag];simp only [frmA,okA,Zaf,Zbb,Zby,decide_eq_true_eq];constructor
 ·intro h;refine ⟨fun l hl => ?_,fun l hl => ?_⟩
  ·rcases h l hl.1 with q | q
   ·omega
   ·exact q
  ·rcases h l hl with q | q
   ·exact .inl (by omega)
   ·exact .inr q
 ·rintro ⟨h1,h2⟩ l hl;rcases h2 l hl with q | q
  ·by_cases c:l.getLastD 0=(k:Int)
   ·exact .inr (h1 l ⟨hl,c⟩)
   ·exact .inl (by omega)
  ·exact .inr q
theorem zq5 {n:Nat} {lines:List (List Int)} (hl:∀ l∈lines,LnOk n l) {pre t:List Int} {k:Nat} (h:k<pre.length):okA lines k (pre++t)=okA lines k pre:=by
 unfold okA;rw [Zbs,Zaf,Zaf];have e:∀ l∈lines.filter fun l=>decide (l.getLastD 0=(k:Int)),imL (pre++t) l=imL pre l:=fun l hm=>by
  obtain ⟨h1,h2⟩:=List.mem_filter.1 hm;have h2:=of_decide_eq_true h2;refine zde fun x hx=>zo0 ?_;have:=hl l h1 x hx;omega
 exact ⟨fun q l hm=>by rw [<- e l hm];exact q l hm,fun q l hm=>by rw [e l hm];exact q l hm⟩
theorem zju {n:Nat} {lines:List (List Int)} (hl:∀ l∈lines,LnOk n l) (hne:∀ l∈lines,l≠[]):∀ (r:Nat) (pre:List Int),pre.length+r=n->autZ lines n r pre=(kE n r pre).filter (frmA lines pre.length)
 | 0,pre,hr=>by
  rw [autZ,kE,Zbk,List.filter_nil,if_pos];refine List.all_eq_true.2 fun l hm => ?_;obtain ⟨x,t,e⟩:=List.exists_cons_of_ne_nil (hne l hm);have:=(hl l hm x (by rw [e];simp)).2.2;rw [decide_eq_true (by omega)];rfl
 | r+1,pre,hr=>by
  rw [autZ,kE,mY];refine zcc fun x _ => ?_;by_cases c:(x:Int)∈pre
  ·rw [if_pos c,if_pos c];rfl
  rw [if_neg c,if_neg c];have hlen:(pre++[(x:Int)]).length=pre.length+1:=by simp
  have key:∀ f∈kE n r (pre++[(x:Int)]),frmA lines pre.length f=(okA lines pre.length (pre++[(x:Int)])&&frmA lines (pre.length+1) f):=fun f hf=>by
   obtain ⟨t,rfl⟩:=vG hf;rw [zo1,zq5 hl (by omega)]
  rw [List.filter_congr key];cases okA lines pre.length (pre++[(x:Int)]) with
  | true =>
   rw [if_pos rfl,zju hl hne r _ (by rw [hlen];omega),hlen];simp only [Bool.true_and]
  | false =>
   rw [if_neg (by simp)];simp
def autL (n:Nat) (lines:List (List Int)):List (List Int):=(kE n n []).filter (gU lines)
theorem zjv {n:Nat} {lines:List (List Int)} (hl:∀ l∈lines,LnOk n l) (hne:∀ l∈lines,l≠[]):autZ lines n n []=autL n lines:=by
 rw [zju hl hne n [] (by simp),autL];refine List.filter_congr fun f _ => ?_;rw [Zbs];simp only [frmA,gU,Zaf,Zby,decide_eq_true_eq];refine ⟨fun h l hm => ?_,fun h l hm=>.inr (h l hm)⟩;rcases h l hm with q | q
 ·obtain ⟨x,t,e⟩:=List.exists_cons_of_ne_nil (hne l hm);have:=hl l hm x (by rw [e];simp);have q:l.getLastD 0<(0:Int):=q;omega
 ·exact q
end Go.Ev
namespace Go.Ev
open Go Go.Proofs
variable {B:Nat}
set_option maxRecDepth 100000
theorem zem (l:List Int) (op:AV->OP):gI [.zh,.bool false] [(0,1,encI l)] op=op (.agg [encI l,.bool false]):=nr rfl
theorem zli {h0 h:T Blk} {nx p id:Pa} {L:List Ob} {k n:Nat} {cap:Option Nat} {l:List AV} {K:Kw Prop} (H:Hp h0 h nx L) (hk:L[k]? = some (.arr id l)) (hf:∀ v∈l,fO v=true) (hn:n<=1000000) (hl:l.length=n)
  (hK:K (.lst 1 n l) h nx=.ok True):(CS Tryz.prog B).fn 106 p [.sl id 0 n cap 1] h nx K=.ok True:=by
 refine zhc (Q:=(· = .lst 1 n l)) (fun hfr K hK=>zS zW yt 9 fun _ => ?_) (fun v hv _=>by rw [hv];exact hK);rw [sO.go];have Hb:=Hp.init hfr;have harr:jc h id l:=H.own _ (Zaa hk)
 have e:(zo .eql (.nil .sl) (.sl id 0 n cap 1) .zh fun v1=>zT v1 (K .zh h nx) (yY 1 0 [I 0] [] h nx fun v2 h3 n4=>tq 1 8 v2 (.sl id 0 n cap 1) h3 n4 fun v5 h6 n7=>K v5 h6 n7)) =
   (yY 1 0 [I 0] [] h nx fun v2 h3 n4=>tq 1 8 v2 (.sl id 0 n cap 1) h3 n4 fun v5 h6 n7=>K v5 h6 n7):=nr rfl
 rw [e]
 refine Hb.copy (new:=l) (fun h1 hh=>jc.rd (harr.congr (hh id (by
  obtain ⟨op,t,g1,_⟩:=harr;rw [g1];intro q;cases q))) (by rw [hl,Zce])) hl hf (by decide) hn fun v X h' nx' H' _ _ hF => ?_
 exact hK _ _ _ H'.fr H'.keep ⟨_,hF _ _ _ _ H' (by simp),rfl⟩
theorem zo2 {p l:List Int} {n:Nat} {lines:List (List Int)} {h0 h:T Blk} {nx p0 b gm cb:Pa} {L:List Ob} {K:Kw Prop} (H:Hp h0 h nx (.arr b [.map gm]::.map gm (fV lines)::.arr cb (p.map I)::L)) (hpn:p.length=n) (hp:RB p) (hl:∀ x∈l,0<=x/\x<(p.length:Int)) (hl1:1<=l.length) (hl2:l.length<=1000) (hks:∀ q∈lines,RB q)
  (hK:∀ h' nx',Hp h0 h' nx' (.arr b [.map gm]::.map gm (fV lines)::.arr cb (p.map I)::L)->K (.bool (decide (srt (imL p l)∈lines))) h' nx'=.ok True):(CS Tryz.prog B).fn 169 p0 [.sl cb 0 n (some n) 1,encI l,.ptr b 0] h nx K=.ok True:=by
 refine jH (p:=.of 169) (K:=K) (zS zW yt 10000000 fun hf => ?_) fun _ _ _ _ q=>q;rw [zx.go,zx.t22,zA,zx.rV,zx.t21,zA,zx.rW,zx.t20,zA,zx.t15,zA,zx.rX,zG,zx.t14,yB];refine zx.zci (fun m x4 x8 h' nx'=>∃ (i:Nat) (o:Option Pa),x8=I i/\x4=ku o 1 i/\m=l.length-i/\i<=l.length/\Hp h0 h' nx' (.gro o 1 i ((imL p (l.take i)).map I)::.arr b [.map gm]::.map gm (fV lines)::.arr cb (p.map I)::L)) (m:=l.length) (by omega) ⟨0,none,rfl,rfl,by omega,by omega,H.aG 1⟩ ?_;rintro m z4 z5 z8 z9 h5 nx5 R ⟨i,o,rfl,rfl,rfl,hi,H5⟩ hR;rw [zx.t12,zA,zx.ay,je];by_cases hlt:i<l.length
 case pos =>
  have hx:l[i]? = some l[i]:=List.getElem?_eq_getElem hlt;obtain ⟨a1,a2⟩:=hl _ (Zai hlt);have hpx:p[l[i].toNat]? = some (p.getD l[i].toNat 0):=by rw [Zac,List.getElem?_eq_getElem (by omega)];rfl
  rw [decide_eq_true (by omega),zx.t11,zA,zx.t4,zK,zx.v9,zD,zX,zx.t10,zA,zx.t8,yB,zx.t7,zA,zx.t5_s,xg rfl hlt,ldL (cZ hx),zx.t6_s,sIx (i:=l[i].toNat) (by omega) (by omega),H5.load (k:=3) rfl (cZ hpx)];refine H5.yc (l:=[I (p.getD l[i].toNat 0)]) rfl fun tb h15 nx15 H15 => ?_;refine H15.appN (k:=1) (o:=o) (c:=1) (esz:=1) (new:=[I (p.getD l[i].toNat 0)]) rfl (jc.rd (l:=[I (p.getD l[i].toNat 0)]) (n:=1) (e:=1) (H15.own _ (Zaj ..)) rfl) rfl rfl (by decide) (by decide) (by omega) fun o'' h16 nx16 _ H16 => ?_;rw [zx.sF,jr (by omega)];refine hR (l.length-(i+1)) _ _ _ _ _ _ (by omega) ⟨i+1,o'',rfl,rfl,rfl,by omega,?_⟩;have e:(imL p (l.take (i+1))).map I=(imL p (l.take i)).map I++[I (p.getD l[i].toNat 0)]:=by
   rw [Zam,hx];show (imL p (l.take i++[l[i]])).map I=_;rw [zgk,Zbz];rfl
  rw [e];exact H16.drop
 obtain rfl:i=l.length:=by omega
 rw [Zal (Zak _)] at H5;obtain ⟨id,rfl⟩:∃ id,o=some id:=by
  cases o with
  | some id=>exact ⟨id,rfl⟩
  | none=>obtain ⟨h1,h2⟩:=H5.own _ (Zaj ..);omega
 rw [decide_eq_false (by omega),zx.t11,zA,zx.t4,zK,zx.v9,zC,jT,gN,zx.t19,zA,zx.rY];refine zjs H5 (k:=0) rfl (by omega) fun h6 H6 => ?_;have hsl:(srt (imL p l)).length=l.length:=by rw [(uQ _).length_eq];exact Zaq _
 have hrb:RB (srt (imL p l)):=fun x hx=>zoz hp hl x ((uQ _).mem_iff.1 hx);have ebd:∀ op:AV->OP,gI [.zh,.bool false] [(0,1,ku (some id) 1 l.length)] op=op (.agg [ku (some id) 1 l.length,.bool false]):=fun op=>nr rfl;rw [zx.t18,zA,zx.aS,H6.load (k:=1) (i:=0) rfl rfl,ebd];obtain ⟨h7,hkp,H7,hfz⟩:=Hp.znc (o:=some id) (e:=1) (n:=l.length) (l:=(srt (imL p l)).map I) H6 fun v hv=>by obtain ⟨a,_,rfl⟩:=List.mem_map.1 hv;rfl
 have hfz2:FrzL h7 h6 [.agg [ku (some id) 1 l.length,.bool false]] [encS (srt (imL p l),false)]:=by
  have e:AV.lst 1 l.length ((srt (imL p l)).map I)=encI (srt (imL p l)):=by rw [<- hsl]
  rw [e] at hfz;exact .cons (xT hfz (zJ rfl) rfl) .nil
 refine zm5 hkp hfz2 (xP (a:=(srt (imL p l),false)) hrb (show (srt (imL p l)).length<=1000 by omega) _ _ _ _ ?_);rintro _ rfl _;have hld:∀ op:AV->OP,zE (.ptr b 0) h7 op=op (.map gm):=fun op=>H7.load (k:=0) (i:=0) rfl rfl;rw [hld,zB,zry hrb hks H7 (k:=1) rfl];simp only [yX,jZ];rw [zx.ret];exact hK _ _ H7
section
variable {h0:T Blk} {n:Nat} {lines:List (List Int)} {b1 bo bc bu bd bk bz kb gm cb ub dn:Pa} {o:Nat->Option Pa}
noncomputable abbrev cloA (b1 bo bc bu bd bk bz:Pa):AV:=.fn 105 (.of 105) [.ptr b1 0,.ptr bo 0,.ptr bc 0,.ptr bu 0,.ptr bd 0,.ptr bk 0,.ptr bz 0]
abbrev wQ (lines:List (List Int)) (c:Nat):List (List Int):=lines.filter fun l=>decide (l.getLastD 0=(c:Int))
def usdA (n:Nat) (pre:List Int):List AV:=ng n fun x:Nat=>.bool (decide ((x:Int)∈pre))
noncomputable abbrev Ga (n:Nat) (lines:List (List Int)) (b1 bo bc bu bd bk bz kb gm cb ub dn:Pa) (o:Nat->Option Pa) (oo:Option Pa) (cl pre:List Int) (out:List Sym):List Ob :=
 .arr kb [.map gm]::.map gm (fV lines)::.arr cb (cl.map I)::.arr ub (usdA n pre)::.arr b1 [I n,qg lines]::.arr bo [ku oo 2 out.length]::.gro oo 2 out.length (yN out)::.arr bc [.sl cb 0 n (some n) 1]::.arr bu [.sl ub 0 n (some n) 1]::.arr bd [.sl dn 0 n (some n) 1]::.arr bk [.fn 169 (.of 169) [.ptr kb 0]]::.arr bz [cloA b1 bo bc bu bd bk bz]::.arr dn (ng n fun c=>ku (o c) 1 (wQ lines c).length)::ng n (fun c=>Ob.gro (o c) 1 (wQ lines c).length ((wQ lines c).map encI))
theorem zo3 {n:Nat} {pre:List Int} {x:Nat}:(usdA n pre).set x (.bool true)=usdA n (pre++[(x:Int)]):=by
 unfold usdA;rw [dY];refine qO fun j _ => ?_;by_cases c:j=x
 ·subst c;rw [if_pos rfl,decide_eq_true (by simp)]
 ·rw [if_neg c];have e:((j:Int)∈pre++[(x:Int)])↔(j:Int)∈pre:=by
   rw [Zar,Zbc];exact ⟨fun q=>q.resolve_right (by omega),.inl⟩
  simp only [e]
theorem zic {n:Nat} {pre:List Int} {x:Nat} (hx:(x:Int)∉pre):(usdA n (pre++[(x:Int)])).set x (.bool false)=usdA n pre:=by
 unfold usdA;rw [dY];refine qO fun j _ => ?_;by_cases c:j=x
 ·subst c;rw [if_pos rfl,decide_eq_false hx]
 ·rw [if_neg c];have e:((j:Int)∈pre++[(x:Int)])↔(j:Int)∈pre:=by
   rw [Zar,Zbc];exact ⟨fun q=>q.resolve_right (by omega),.inl⟩
  simp only [e]
theorem zo4 {α β:Type} {g:Nat->List β} {x k:Nat} (_:α->α):((List.range x).flatMap g).length<=((List.range (x+k)).flatMap g).length:=by
 rw [List.range_add,Zbt,Zat];omega
abbrev syF (p:List Int):Sym:=(p,false)
theorem zdf (hn6:n<=100) (hm:lines.length<=1000) (hl:∀ l∈lines,LnOk n l/\1<=l.length/\l.length<=1000/\RB l) :
  ∀ (r:Nat) (pre cl:List Int) (out:List Sym) (oo:Option Pa) (p:Pa) (h:T Blk) (nx:Pa) (K:Kw Prop),pre.length+r=n->cl.length=n->cl.take pre.length=pre->(∀ v∈cl,0<=v/\v<256)->out.length+(autZ lines n r pre).length<=1000->Hp h0 h nx (Ga n lines b1 bo bc bu bd bk bz kb gm cb ub dn o oo cl pre out) ->
   (∀ oo' cl' h' nx',cl'.length=n->cl'.take pre.length=pre->(∀ v∈cl',0<=v/\v<256)->Hp h0 h' nx' (Ga n lines b1 bo bc bu bd bk bz kb gm cb ub dn o oo' cl' pre (out++(autZ lines n r pre).map syF))->K (.bool true) h' nx'=.ok True) ->
   (CS Tryz.prog B).fn 105 p [I pre.length,.ptr b1 0,.ptr bo 0,.ptr bc 0,.ptr bu 0,.ptr bd 0,.ptr bk 0,.ptr bz 0] h nx K=.ok True
 | 0,pre,cl,out,oo,p,h,nx,K,hr,hcl,htk,hcv,hb,H,hK=>by
  refine jH (p:=.of 105) (K:=K) (zS zW yt 1000000 fun hf => ?_) fun _ _ _ _ q=>q;rw [zf.go,zf.t60,zA,zf.rV,zf.t59,zA,zf.t7,zA,zf.rW,sFx,H.load (k:=4) (i:=0+0) rfl rfl,dw,decide_eq_true (by omega),zf.t6,zK,zf.v12,zD,zf.t5,zA,zf.rX,H.load (k:=5) (i:=0) rfl rfl,H.load (k:=7) (i:=0) rfl rfl];refine zli H (k:=2) rfl (fun v hv=>by obtain ⟨x,_,rfl⟩:=List.mem_map.1 hv;rfl) (by omega) (by simpa using hcl) ?_;have ecl:AV.lst 1 n (cl.map I)=encI cl:=by rw [<- hcl]
  rw [autZ,List.length_singleton] at hb;rw [H.load (k:=5) (i:=0) rfl rfl,zB,ecl,zem];refine H.yc (l:=[encI cl,.bool false]) rfl fun tb h2 nx2 H2 => ?_;rw [H2.load (k:=6) (i:=0) rfl rfl,zB,sZ];refine H2.appN (k:=7) (o:=oo) (c:=1) (esz:=2) (new:=[encI cl,.bool false]) rfl (jc.rd (l:=[encI cl,.bool false]) (n:=1) (e:=2) (H2.own _ (Zaj ..)) rfl) rfl rfl (by decide) (by decide) (by omega) fun o'' h3 nx3 _ H3 => ?_;refine H3.store (k:=6) rfl (by simp) (uF _ _ _) fun h4 H4 => ?_
  have H5:Hp h0 h4 nx3 (Ga n lines b1 bo bc bu bd bk bz kb gm cb ub dn o o'' cl pre (out++[(cl,false)])):=H4.drop.cast (by
   have e1:yN (out++[((cl,false):Sym)])=yN out++[encI cl,.bool false]:=zia out (cl,false);have e2:(out++[((cl,false):Sym)]).length=out.length+1:=by simp
   simp only [Ga,e1,e2];rfl)
  rw [zf.t4,zA,zf.ay,H5.load (k:=5) (i:=0) rfl rfl,H5.o8 (k:=6) rfl,bP,decide_eq_true (by rw [Zat,List.length_singleton];omega)];simp only [yX,jZ];rw [zf.ret];have e:cl=pre:=by rw [<- htk,Zal (by omega)]
  refine hK o'' cl _ _ hcl htk hcv (H5.cast ?_);rw [autZ,<- e];rfl
 | r+1,pre,cl,out,oo,p,h,nx,K,hr,hcl,htk,hcv,hb,H,hK=>by
  refine jH (p:=.of 105) (K:=K) (zS zW yt 10000000 fun hf => ?_) fun _ _ _ _ q=>q;rw [zf.go,zf.t60,zA,zf.rV,zf.t59,zA,zf.t7,zA,zf.rW,sFx,H.load (k:=4) (i:=0+0) rfl rfl,dw,decide_eq_false (by omega),zf.t6,zK,zf.v12,zC,zX,zf.t58,zA,zX,zf.t57,zA,zf.t54,zA,zf.eH,sFx,H.load (k:=4) (i:=0+0) rfl rfl,zf.t53,yB]
  let g:Nat->List (List Int):=fun x=>if (x:Int)∈pre then [] else if okA lines pre.length (pre++[(x:Int)]) then autZ lines n r (pre++[(x:Int)]) else []
  have hg:autZ lines n (r+1) pre=(List.range n).flatMap g:=rfl;have hgs:∀ x:Nat,(List.range (x+1)).flatMap g=(List.range x).flatMap g++g x:=fun x=>by rw [List.range_succ,Zbt];simp
  rw [hg] at hb hK;refine zf.zuk (fun m x14 h' nx'=>∃ (x:Nat) (oo:Option Pa) (cl:List Int),x14=I x/\m=n-x/\x<=n/\cl.length=n/\cl.take pre.length=pre/\(∀ v∈cl,0<=v/\v<256)/\Hp h0 h' nx' (Ga n lines b1 bo bc bu bd bk bz kb gm cb ub dn o oo cl pre (out++((List.range x).flatMap g).map syF))) (m:=n) (by omega) ⟨0,oo,cl,rfl,by omega,by omega,hcl,htk,hcv,H.cast (by simp)⟩ ?_
  clear H hcl htk hcv
  rintro m z8 z9 z10 z11 z14 z15 z16 z17 z18 z19 z20 z21 z22 h1 nx1 R ⟨x,oo,cl,rfl,rfl,hx,hcl,htk,hcv,H⟩ hR;rw [zf.t51,zA,zf.sF,je];by_cases hlt:x<n
  case neg =>
   obtain rfl:x=n:=by omega
   rw [decide_eq_false (by omega),zf.t50,zA,zf.t10,zK,zf.v15,zC,jT,gN,zf.t56,zA,zf.zul];simp only [yX,jZ];rw [zf.ret];exact hK _ _ _ _ hcl htk hcv H
  have next:∀ z8 z9 z10 z11 z15 z16 z17 z18 z19 z20 z21 z22 oo cl h2 nx2,cl.length=n->cl.take pre.length=pre->(∀ v∈cl,0<=v/\v<256)->Hp h0 h2 nx2 (Ga n lines b1 bo bc bu bd bk bz kb gm cb ub dn o oo cl pre (out++((List.range x).flatMap g).map syF++(g x).map syF)) ->
    R (zf.fr (I pre.length) (.ptr b1 0) (.ptr bo 0) (.ptr bc 0) (.ptr bu 0) (.ptr bd 0) (.ptr bk 0) (.ptr bz 0) z8 z9 z10 z11 (.bool false) (I n) (I ((x:Int)+1)) z15 z16 z17 z18 z19 z20 z21 z22) h2 nx2=.ok True :=
   fun z8 z9 z10 z11 z15 z16 z17 z18 z19 z20 z21 z22 oo cl h2 nx2 q1 q2 q3 q4 =>
    hR (n-(x+1)) _ _ _ _ _ _ _ _ _ _ _ _ _ _ _ (by omega) ⟨x+1,oo,cl,rfl,rfl,by omega,q1,q2,q3,q4.cast (by rw [hgs,Zbz,Zbn])⟩
  have hux:(usdA n pre)[x]? = some (.bool (decide ((x:Int)∈pre))):=kA hlt;rw [decide_eq_true (by omega),zf.t50,zA,zf.t10,zK,zf.v15,zD,zX,zf.t49,zA,zf.t47,yB,zf.t46,zA,zf.zae,zf.t45,zA,zf.t14,zA,zf.zaf,H.load (k:=8) (i:=0) rfl rfl,sIx (i:=x) rfl hlt,H.load (k:=3) rfl hux,zf.t13,zK,zf.v16];by_cases hmem:(x:Int)∈pre
  ·have e:g x=[]:=if_pos hmem;rw [e] at next;rw [decide_eq_true hmem,zD,jT,gN,zf.zlt,jr (by omega)];exact next _ _ _ _ _ _ _ _ _ _ _ _ oo cl _ _ hcl htk hcv (H.cast (by simp))
  rw [decide_eq_false hmem,zC,zX,zf.t44,zA,zf.aB,H.load (k:=7) (i:=0) rfl rfl,sIx (i:=pre.length) rfl (by omega)];refine H.store (k:=2) rfl (by simp;omega) rfl fun h2 H2 => ?_;have H2:Hp h0 h2 nx1 (Ga n lines b1 bo bc bu bd bk bz kb gm cb ub dn o oo (cl.set pre.length (x:Int)) pre (out++((List.range x).flatMap g).map syF)):=H2.cast (by simp only [List.set_cons_succ,List.set_cons_zero];rw [<- List.map_set]);have hcl2:(cl.set pre.length (x:Int)).length=n:=by simpa using hcl
  have htk1:(cl.set pre.length (x:Int)).take (pre.length+1)=pre++[(x:Int)]:=by
   rw [Zam,List.take_set_of_le (Zak _),htk,List.getElem?_set,if_pos rfl,if_pos (by omega)];rfl
  have htk2:(cl.set pre.length (x:Int)).take pre.length=pre:=by rw [List.take_set_of_le (Zak _),htk]
  have hcv2:∀ v∈cl.set pre.length (x:Int),0<=v/\v<256:=fun v hv=>by
   rcases List.mem_or_eq_of_mem_set hv with q | rfl
   ·exact hcv v q
   ·omega
  clear H hcv htk hcl
  generalize cl.set pre.length (x:Int)=cl at *
  have hcell:pre.length<n:=by omega
  have hdn:(ng n fun c=>ku (o c) 1 (wQ lines c).length)[pre.length]? = some (ku (o pre.length) 1 (wQ lines pre.length).length):=kA hcell;have kdn:∀ (cl pre':List Int) oo out,(Ga n lines b1 bo bc bu bd bk bz kb gm cb ub dn o oo cl pre' out)[pre.length+13]? = some (.gro (o pre.length) 1 (wQ lines pre.length).length ((wQ lines pre.length).map encI)):=fun cl pre' oo out=>by
   show (ng n _)[pre.length]? = _;rw [kA hcell]
  rw [zf.t43,zA,zf.t31,zA,zf.rY,H2.load (k:=9) (i:=0) rfl rfl,sIx (i:=pre.length) rfl hcell,H2.load (k:=12) rfl hdn,H2.o8 (k:=pre.length+13) (kdn ..)];have hok:okA lines pre.length (pre++[(x:Int)])=(wQ lines pre.length).all fun l=>decide (srt (imL cl l)∈lines):=by
   unfold okA;rw [Zbs,Zaf,Zaf];have e:∀ l∈wQ lines pre.length,imL (pre++[(x:Int)]) l=imL cl l:=fun l hm'=>by
    obtain ⟨hm1,hm2⟩:=List.mem_filter.1 hm';have hlast:l.getLastD 0=((pre.length:Nat):Int):=of_decide_eq_true hm2;refine zde fun y hy => ?_;have:=(hl l hm1).1 y hy;rw [<- htk1,Zac,List.getElem?_take_of_lt (by omega),<- Zac]
   exact ⟨fun q l hm'=>by rw [<- e l hm'];exact q l hm',fun q l hm'=>by rw [e l hm'];exact q l hm'⟩
  have hle:∀ l∈wQ lines pre.length,LnOk n l/\1<=l.length/\l.length<=1000/\RB l:=fun l hm'=>hl l (List.mem_filter.1 hm').1;have hll:(wQ lines pre.length).length<=1000:=Zbl (List.length_filter_le _ _) hm
  generalize hes:wQ lines pre.length=es at *
  rw [zf.t30,yB];refine zf.zug (fun m x19 h' nx'=>∃ j:Nat,x19=I j/\es.length-j=m/\j<=es.length/\((es.take j).all fun l=>decide (srt (imL cl l)∈lines))=true/\Hp h0 h' nx' (Ga n lines b1 bo bc bu bd bk bz kb gm cb ub dn o oo cl pre (out++((List.range x).flatMap g).map syF))) (m:=es.length) (by omega) ⟨0,rfl,rfl,by omega,rfl,H2⟩ ?_;rintro m y10 y19 y20 y21 h3 nx3 R2 ⟨j,rfl,rfl,hj,hall,H3⟩ hR2;rw [zf.t28,zA,zf.aS,je];by_cases hjt:j<es.length
  ·have hxl:es[j]? = some es[j]:=List.getElem?_eq_getElem hjt;obtain ⟨w1,w2,w3,w4⟩:=hle es[j] (Zai hjt);have hget:(es.map encI)[j]? = some (encI es[j]):=by rw [List.getElem?_map,hxl];rfl
   obtain ⟨id,q1,q2⟩:=H3.zv0 (k:=pre.length+13) (kdn ..) hget;rw [decide_eq_true (by omega),zf.t27,zA,zf.t18,zK,zf.v20,zD,zX,zf.t26,zA,zf.t24,yB,zf.t23,zA,zf.zac,q1,q2,zf.t22,zA,zf.zeo,H3.load (k:=10) (i:=0) rfl rfl,H3.load (k:=7) (i:=0) rfl rfl,xJ];show (CS Tryz.prog B).fn 169 (.of 169) [.sl cb 0 n (some n) 1,encI es[j],.ptr kb 0] h3 nx3 _=_;refine zo2 H3 hcl2 (fun v hv=>hcv2 v hv) (fun y hy=>by have:=w1 y hy;omega) w2 w3 (fun q hq=>(hl q hq).2.2.2) fun h4 nx4 H4 => ?_;rw [yA,zf.t21,zK,zf.v21];by_cases d:srt (imL cl es[j])∈lines
   ·rw [decide_eq_true d,Zad,zC,zX,zf.zuf,jr (by omega)];exact hR2 (es.length-(j+1)) _ _ _ _ _ _ (by omega) ⟨j+1,rfl,rfl,by omega,kN hxl hall (decide_eq_true d),H4⟩
   ·have e:g x=[]:=by
     show (if (x:Int)∈pre then _ else _)=_;rw [if_neg hmem,if_neg];intro q;rw [hok] at q;exact d (of_decide_eq_true (List.all_eq_true.1 q _ (Zai hjt)))
    rw [e] at next;rw [decide_eq_false d,Zae,zD,jT,zfe (id:=3) (i:=1) _ (by decide),zfe (id:=2) (i:=1) _ (by decide),gN,zf.zlt,jr (by omega)];exact next _ _ _ _ _ _ _ _ _ _ _ _ oo cl _ _ hcl2 htk2 hcv2 (H4.cast (by simp))
  rw [Zal (by omega)] at hall;have e:g x=autZ lines n r (pre++[(x:Int)]):=by
   show (if (x:Int)∈pre then _ else _)=_;rw [if_neg hmem,if_pos (by rw [hok];exact hall)]
  have hbx:out.length+((List.range x).flatMap g).length+(g x).length<=1000:=by
   have:=zo4 (α:=Nat) (g:=g) (x:=x+1) (k:=n-(x+1)) id;rw [hgs,Zat,show x+1+(n-(x+1))=n by omega] at this;omega
  rw [decide_eq_false (by omega),zf.t27,zA,zf.t18,zK,zf.v20,zC,jT,gN,zf.t42,zA,zf.zii,H3.load (k:=8) (i:=0) rfl rfl,sIx (i:=x) rfl hlt];refine H3.store (k:=3) rfl (by rw [usdA];simpa [ng] using hlt) rfl fun h5 H5 => ?_;have H5:Hp h0 h5 nx3 (Ga n lines b1 bo bc bu bd bk bz kb gm cb ub dn o oo cl (pre++[(x:Int)]) (out++((List.range x).flatMap g).map syF)):=H5.cast (by simp only [List.set_cons_succ,List.set_cons_zero];rw [zo3]);rw [zf.t41,zA,zf.zuh,H5.load (k:=11) (i:=0) rfl rfl,jr (by omega),xJ];have hlen:(pre++[(x:Int)]).length=pre.length+1:=by simp
  show (CS Tryz.prog B).fn 105 (.of 105) [I ((pre.length:Int)+1),.ptr b1 0,.ptr bo 0,.ptr bc 0,.ptr bu 0,.ptr bd 0,.ptr bk 0,.ptr bz 0] h5 nx3 _=_;rw [show ((pre.length:Int)+1)=(((pre++[(x:Int)]).length:Nat):Int) by rw [hlen];omega];refine zdf hn6 hm hl r (pre++[(x:Int)]) cl _ oo _ h5 nx3 _ (by rw [hlen];omega) hcl2 (by rw [hlen];exact htk1) hcv2 (by rw [Zat,Zaq,<- e];exact hbx) H5 fun oo' cl' h6 nx6 r1 r2 r3 H6 => ?_;rw [zf.t40,zA,zf.zui,H6.load (k:=8) (i:=0) rfl rfl,sIx (i:=x) rfl hlt];refine H6.store (k:=3) rfl (by rw [usdA];simpa [ng] using hlt) rfl fun h7 H7 => ?_;have H7:Hp h0 h7 nx6 (Ga n lines b1 bo bc bu bd bk bz kb gm cb ub dn o oo' cl' pre (out++((List.range x).flatMap g).map syF++(g x).map syF)):=H7.cast (by simp only [List.set_cons_succ,List.set_cons_zero];rw [zic hmem,e]);rw [zf.t39,zA,zf.zuj,yA,Zad,zf.t38,zK,zf.v22,zC,zX,zf.zlt,jr (by omega)];refine next _ _ _ _ _ _ _ _ _ _ _ _ oo' cl' _ _ r1 ?_ r3 H7;have:cl'.take pre.length=(cl'.take (pre++[(x:Int)]).length).take pre.length:=by rw [List.take_take,hlen,Nat.min_eq_left (by omega)]
  rw [this,r2];simp
end
end Go.Ev
namespace Go.Ev
open Go
variable {h0 h:T Blk} {nx:Pa} {L:List Ob}
theorem zjw {α:Type} (L:List α):∀ N:Nat,(List.range N).filterMap (fun k=>L[k]?)=L.take N
 | 0=>rfl
 | N+1=>by
  rw [List.range_succ,List.filterMap_append,zjw L N,Zam];cases h:L[N]? <;> simp [h]
theorem Hp.zo5:∀ (E:List Ob) {L:List Ob},Hp h0 h nx (E++L)->Hp h0 h nx L
 | [],_,H=>H
 | _::E,_,H=>Hp.zo5 E H.drop
theorem Hp.pick (N:Nat) (ks:List Nat) (H:Hp h0 h nx L) (hk:ks.Nodup) (hl:∀ k∈ks,k<N):Hp h0 h nx (ks.filterMap (fun k=>L[k]?)++L.drop N):=by
 obtain ⟨s,hs⟩:=subG ks (List.range N) hk fun k hk=>List.mem_range.2 (hl k hk);have h1:=hs.filterMap (fun k=>L[k]?);rw [zjw,List.filterMap_append] at h1;have h2:L.Perm (s.filterMap (fun k=>L[k]?)++(ks.filterMap (fun k=>L[k]?)++L.drop N)):=by
  have:=(h1.trans List.perm_append_comm).append_right (L.drop N);rw [List.take_append_drop,Zbn] at this;exact this
 exact (H.perm h2).zo5
end Go.Ev
namespace Go.Ev
open Go Go.Proofs
variable {B:Nat}
set_option maxRecDepth 100000
theorem zgl {l:List Int} (h:0<l.length):l[l.length-1]? = some (l.getLastD 0):=by
 rw [List.getLastD_eq_getLast?,List.getLast?_eq_getElem?,List.getElem?_eq_getElem (by omega)];rfl
theorem zdg:∀ {l:List Int},l≠[]->l.getLastD 0∈l
 | [],h=>absurd rfl h
 | a::l,_=>by rw [List.getLastD_cons];cases l <;> simp [List.getLastD]
theorem zdh {cells:Int} {lines:List (List Int)} (h:jE cells lines=0):∃ n:Nat,cells=n/\1<=n/\n<=256/\lines.length<=128/\lines.Nodup/\∀ l∈lines,LnOk n l/\1<=l.length/\l.length<=1000/\RB l/\l≠[]/\l.Pairwise (· < ·):=by
 obtain ⟨n1,n2,n3,n4,n5⟩:=zdc h;refine ⟨cells.toNat,by omega,by omega,by omega,n3,n4,fun l hl => ?_⟩;obtain ⟨m1,m2,m3⟩:=n5 l hl;have:=zjt m2 m3 n2;refine ⟨fun x hx=>⟨(m2 x hx).1,zgh m3 x hx,by have:=(m2 _ (zdg m1)).2;omega⟩,?_,by omega,fun x hx=>by have:=m2 x hx;omega,m1,m3⟩;cases l with
 | nil=>exact absurd rfl m1
 | cons a l=>simp
def enP (lines:List (List Int)) (i c:Nat):List (List Int):=(lines.take i).filter fun l=>decide (l.getLastD 0=(c:Int))
theorem zo6 {lines:List (List Int)} {i c:Nat} {l:List Int} (hx:lines[i]? = some l) (hce:l.getLastD 0=(c:Int)) (p:Nat):enP lines (i+1) p=if p=c then enP lines i c++[l] else enP lines i p:=by
 unfold enP;rw [Zam,hx,List.filter_append];by_cases e:p=c
 ·subst e;rw [if_pos rfl]
  congr 1
  exact List.filter_cons_of_pos (p:=fun l:List Int=>decide (l.getLastD 0=(p:Int))) (decide_eq_true hce)
 ·rw [if_neg e];have e2:List.filter (fun l:List Int=>decide (l.getLastD 0=(p:Int))) [l]=[]:=List.filter_cons_of_neg (p:=fun l:List Int=>decide (l.getLastD 0=(p:Int))) (by rw [hce,decide_eq_false (by omega)];decide);show _++List.filter _ [l]=_;rw [e2,List.append_nil]
noncomputable abbrev Lf (bd dn bk kb gm b1' tb b1:Pa) (n:Nat) (lines:List (List Int)) (e:Int) (o:Nat->Option Pa) (D:Nat->List (List Int)):List Ob :=
 .arr bd [.sl dn 0 n (some n) 1]::.arr dn (ng n fun c=>ku (o c) 1 (D c).length)::.arr bk [.fn 169 (.of 169) [.ptr kb 0]]::.arr kb [.map gm]::.map gm (fV lines)::.arr b1' [I n,qg lines]::.arr tb [I 0,I e]::.arr b1 [I n,qg lines]::ng n (fun c=>Ob.gro (o c) 1 (D c).length ((D c).map encI))
theorem ztt {n:Nat} {lines:List (List Int)} (hs:jE n lines=0) (hn9:n<=9) (hb:(autL n lines).length<=1000):Pure Tryz.prog B 34 [.agg [I n,qg lines]] (· = .tup [jd ((autL n lines).map syF),I 0]):=by
 obtain ⟨n',e',n1,n2,n3,n4,n5⟩:=zdh hs;obtain rfl:n=n':=by omega
 have hw:∀ q∈lines,q.length<=1000000:=fun q hq=>by have:=(n5 q hq).2.2.1;omega
 rw [<- zjv (fun l hl=>(n5 l hl).1) (fun l hl=>(n5 l hl).2.2.2.2.1)] at hb;rw [<- zjv (fun l hl=>(n5 l hl).1) (fun l hl=>(n5 l hl).2.2.2.2.1)];refine y8 fun h nx K H0 hK=>zS zW yt 10000000 fun hf' => ?_;rw [F34.go,F34.t48,zA,F34.rV];refine H0.box (l:=[I n,qg lines]) rfl fun b1 h1 nx1 H1 => ?_;have l1:∀ op:AV->OP,zH 2 (.ptr b1 0) h1 op=op (.agg [I n,qg lines]):=fun op=>H1.zi (k:=0) (n:=2) rfl rfl;have l3:∀ op:AV->OP,zE (.ptr b1 (0+0)) h1 op=op (I n):=fun op=>H1.load (k:=0) (i:=0+0) rfl rfl;rw [F34.t47,zA,F34.t7,zA,F34.rW];simp only [l1,sFx,l3,qy];refine zrq hw _ _ _ _ ?_;rintro _ rfl _;simp only [l1,sFx,l3,qy,zB,hs,decide_eq_false (show ¬ (9:Int)<(n:Int) by omega)];refine qY _ _ _ _ _ _ ?_;rintro _ rfl _;rw [if_neg (by decide)];refine H1.yc (l:=[I 0,I 0]) rfl fun tb h5 nx5 H5 => ?_;refine kK (l:=[0,0]) H5 (k:=0) rfl (fun B=>xU (by simp)) (fun v hv=>by rw [hv];exact .int _ _) ?_;rintro _ rfl;rw [show gY [0,0]=0 from rfl,F34.t6,zA,F34.rX,gy,decide_eq_true rfl,Zad,F34.t5,zK,F34.v13,zC,zX,F34.t46,zA,F34.eH,H5.zi (k:=1) (n:=2) rfl rfl];refine zdb H5 (by omega) n4 (fun l hl=>⟨(n5 l hl).2.2.2.1,(n5 l hl).2.2.1⟩) fun gm kb b1' h6 nx6 H6 => ?_;refine H6.alloc fun bk h7 nx7 H7 => ?_;refine H7.store (k:=0) rfl (by simp) rfl fun h8 H8 => ?_;rw [F34.t45,zA,F34.sF,sFx,H8.load (k:=5) (i:=0+0) rfl rfl];refine H8.mk1 n rfl rfl (by omega) (by decide) fun dn h9 nx9 H9 => ?_;refine H9.alloc fun bd h10 nx10 H10 => ?_;refine H10.store (k:=0) rfl (by simp) rfl fun h11 H11 => ?_;rw [F34.t44,zA,F34.t25,zA,F34.aA,sFx,H11.load (k:=7) (i:=0+1) rfl rfl,zG,F34.t24,yB];refine F34.zt7 (fun m x16 h' nx'=>∃ (i:Nat) (o:Nat->Option Pa),x16=I i/\lines.length-i=m/\i<=lines.length/\Hp h h' nx' (Lf bd dn bk kb gm b1' tb b1 n lines 0 o (enP lines i))) (m:=lines.length) (by omega) ⟨0,fun _=>none,rfl,rfl,by omega,?_⟩ ?_
 ·have H3:=(H11.addE (E:=ng n fun _=>Ob.gro none 1 0 []) fun x hx=>by
   obtain ⟨j,_,rfl⟩:=znb hx;exact ⟨rfl,fun _=>⟨rfl,rfl⟩⟩).perm List.perm_append_comm
  refine H3.cast ?_;rw [zbh];rfl
 rintro m z7 z8 z16 z17 h3 nx3 R ⟨i,o,rfl,rfl,hi,H3⟩ hR;rw [F34.t22,zA,F34.zae,je];by_cases hlt:i<lines.length
 case pos =>
  have hx:lines[i]? = some lines[i]:=List.getElem?_eq_getElem hlt;obtain ⟨a1,a2,a3,a4,a5,a6⟩:=n5 _ (Zai hlt)
  generalize lines[i]=l at *
  obtain ⟨q1,q2,q3⟩:=a1 _ (zdg a5);obtain ⟨c,hce⟩:∃ c:Nat,l.getLastD 0=c:=⟨(l.getLastD 0).toNat,by omega⟩;have hc:c<n:=by omega
  rw [decide_eq_true (by omega),F34.t21,zA,F34.t12,zK,F34.v17,zD,zX,F34.t20,zA,F34.t18,yB,F34.t17,zA,F34.zlr,xg rfl hlt,ldL (getT hx),F34.t16,zA,F34.oC,zG,bg (by omega),xg (i:=l.length-1) (by omega) (by omega),ldL (cZ (zgl (by omega))),hce,F34.aB];have six:∀ op:AV->OP,zO 1 (.sl dn 0 n (some n) 1) (I (c:Int)) op=op (.ptr dn c):=fun op=>sIx (i:=c) rfl hc;have hrow:(ng n fun c=>ku (o c) 1 (enP lines i c).length)[c]? = some (ku (o c) 1 (enP lines i c).length):=kA hc;have ld1:∀ op:AV->OP,zE (.ptr bd 0) h3 op=op (.sl dn 0 n (some n) 1):=fun op=>H3.load (k:=0) (i:=0) rfl rfl;have ld2:∀ op:AV->OP,zE (.ptr dn c) h3 op=op (ku (o c) 1 (enP lines i c).length):=fun op=>H3.load (k:=1) rfl hrow;simp only [ld1,six,ld2];refine H3.yc (l:=[encI l]) rfl fun t h4 nx4 H4 => ?_;have ld3:∀ op:AV->OP,zE (.ptr bd 0) h4 op=op (.sl dn 0 n (some n) 1):=fun op=>H4.load (k:=1) (i:=0) rfl rfl;have ld4:∀ op:AV->OP,zE (.ptr dn c) h4 op=op (ku (o c) 1 (enP lines i c).length):=fun op=>H4.load (k:=2) rfl hrow;simp only [ld3,six,ld4,zB];have kg:(Ob.arr t [encI l]::Lf bd dn bk kb gm b1' tb b1 n lines 0 o (enP lines i))[c+9]? = some (.gro (o c) 1 (enP lines i c).length ((enP lines i c).map encI)):=by
   show (ng n _)[c]? = _;rw [kA hc]
  refine H4.appN (k:=c+9) (o:=o c) (c:=1) (new:=[encI l]) kg (jc.rd (l:=[encI l]) (n:=1) (H4.own _ (Zaj ..)) rfl) rfl rfl (by decide) (by decide) ?_ fun o' h5 nx5 _ H5 => ?_
  ·have:(enP lines i c).length<=1000:=by
    refine Zbl (List.length_filter_le _ _) ?_;rw [Zba];omega
   omega
  have ld5:∀ op:AV->OP,zE (.ptr bd 0) h5 op=op (.sl dn 0 n (some n) 1):=fun op=>H5.load (k:=1) (i:=0) rfl rfl;simp only [ld5,six,zB];refine H5.store (k:=2) rfl (by simpa [ng] using hc) (uF _ _ _) fun h6 H6 => ?_;rw [F34.zac,jr (by omega)];refine hR (lines.length-(i+1)) _ _ _ _ _ _ (by omega) ⟨i+1,fun p=>if p=c then o' else o p,rfl,rfl,by omega,H6.drop.cast ?_⟩;have hD:∀ p:Nat,enP lines (i+1) p=if p=c then enP lines i c++[l] else enP lines i p:=fun p=>zo6 hx hce p
  rw [show enP lines (i+1)=_ from funext hD];simp only [Lf,List.set_cons_succ,List.set_cons_zero,List.tail_cons];rw [dY,dY]
  congr 1
  congr 1
  ·congr 1
   refine qO fun p _ => ?_;by_cases e:p=c
   ·subst e;simp
   ·simp [e]
  ·congr 6
   refine qO fun p _ => ?_;by_cases e:p=c
   ·subst e;simp
   ·simp [e]
 obtain rfl:i=lines.length:=by omega
 have hD:enP lines lines.length=wQ lines:=funext fun c=>by rw [enP,List.take_length]
 rw [hD] at H3;rw [decide_eq_false (by omega),F34.t21,zA,F34.t12,zK,F34.v17,zC,jT,gN,F34.t43,zA,F34.zt8];refine H3.alloc fun bo h12 nx12 H12 => ?_;rw [F34.t42,zA,F34.zls,sFx,H12.load (k:=8) (i:=0+0) rfl rfl];refine H12.mk1 n rfl rfl (by omega) (by decide) fun cb h13 nx13 H13 => ?_;refine H13.alloc fun bc h14 nx14 H14 => ?_;refine H14.store (k:=0) rfl (by simp) rfl fun h15 H15 => ?_;rw [F34.t41,zA,F34.zt9,sFx,H15.load (k:=10) (i:=0+0) rfl rfl];refine H15.mk1 n rfl rfl (by omega) (by decide) fun ub h16 nx16 H16 => ?_;refine H16.alloc fun bu h17 nx17 H17 => ?_;refine H17.store (k:=0) rfl (by simp) rfl fun h18 H18 => ?_;rw [F34.t40,zA,F34.zua];refine H18.alloc fun bz h19 nx19 H19 => ?_;rw [F34.t39,zA,F34.zlo];refine H19.store (k:=0) rfl (by simp) rfl fun h20 H20 => ?_;have hu0:List.replicate n (AV.bool false)=usdA n []:=by
  rw [zbh,usdA];exact qO fun j _=>by simp
 have hc0:List.replicate n (I 0)=(List.replicate n (0:Int)).map I:=by simp
 rw [hu0,hc0] at H20;have HA:Hp h h20 nx19 (Ga n lines b1 bo bc bu bd bk bz kb gm cb ub dn _ none (List.replicate n 0) [] []):=((H20.aG 2).pick 15 [10,11,5,3,14,6,0,4,2,7,9,1,8] (by decide) (by decide)).cast rfl;rw [F34.t38,zA,F34.t35,zA,F34.zad,HA.load (k:=11) (i:=0) rfl rfl,xJ];show (CS Tryz.prog B).fn 105 (.of 105) [I (0:Nat),.ptr b1 0,.ptr bo 0,.ptr bc 0,.ptr bu 0,.ptr bd 0,.ptr bk 0,.ptr bz 0] h20 nx19 _=_;refine zdf (by omega) (by omega) (fun l hl=>⟨(n5 l hl).1,(n5 l hl).2.1,(n5 l hl).2.2.1,(n5 l hl).2.2.2.1⟩) n [] (List.replicate n 0) [] none _ h20 nx19 _ (by simp) (by simp) rfl (fun v hv=>by rw [(List.mem_replicate.1 hv).2];omega) (by simpa using hb) HA fun oo' cl' h21 nx21 r1 r2 r3 H21 => ?_;rw [yA,Zad,F34.t34,zK,F34.v18,zC,zX,F34.t37,zA,F34.zue,H21.load (k:=5) (i:=0) rfl rfl];simp only [yX,jZ];rw [F34.ret];exact hK _ _ _ _ _ H21 (uT (H21.zd8 (k:=6) rfl dM) (zJ rfl)) rfl
end Go.Ev
namespace Go.Ev
open Go Go.Proofs
set_option maxRecDepth 100000
theorem zlj:((List.range 7).all fun n=>decide ((kE n n []).length=facZ n))=true:=by decide +kernel
theorem zid {n:Nat} (hn:n<=6):(kE n n []).length=facZ n:=of_decide_eq_true (List.all_eq_true.1 zlj n (List.mem_range.2 (by omega)))
end Go.Ev
namespace Go.Ev
open Go.Proofs
theorem zie (l:List Int):(srt l).Pairwise (· <= ·):=by
 have:=List.pairwise_mergeSort (le:=fun x y:Int=>decide (x<=y)) (by intro a b c;simp;omega) (by intro a b;simp;omega) l;exact this.imp (by intro a b h;simpa using h)
theorem zlk {a b:List Int} (h:a.Perm b):srt a=srt b:=zbs ((uQ a).trans h) (zie a)
theorem zo7 {p q l:List Int} (hl:∀ x∈l,0<=x/\x<(q.length:Int)):imL (uD p q) l=imL p (imL q l):=by
 unfold imL;rw [List.map_map];refine Zcd fun x hx => ?_;obtain ⟨h1,h2⟩:=hl x hx;show (q.map fun c=>p.getD c.toNat 0).getD x.toNat 0=p.getD (q.getD x.toNat 0).toNat 0;rw [Zac,List.getElem?_map,Zac (l:=q),List.getElem?_eq_getElem (by omega)]
 rfl
theorem zdi {lines:List (List Int)} {p q:List Int} (hl:∀ l∈lines,∀ x∈l,0<=x/\x<(q.length:Int)) (hp:gU lines p=true) (hq:gU lines q=true):gU lines (uD p q)=true:=by
 unfold gU at *
 refine List.all_eq_true.2 fun l hm=>decide_eq_true ?_;have h1:=of_decide_eq_true (List.all_eq_true.1 hq l hm);have h2:=of_decide_eq_true (List.all_eq_true.1 hp _ h1);have e:srt (imL p (srt (imL q l)))=srt (imL p (imL q l)):=zlk ((uQ (imL q l)).map fun x:Int=>p.getD x.toNat 0);rw [zo7 (hl l hm),<- e];exact h2
theorem zq6 {n:Nat} {lines:List (List Int)} (hl:∀ l∈lines,LnOk n l/\l.Pairwise (· < ·)):gU lines (idL n)=true:=by
 unfold gU;refine List.all_eq_true.2 fun l hm=>decide_eq_true ?_;obtain ⟨h1,h2⟩:=hl l hm;have e:imL (idL n) l=l:=by
  unfold imL
  conv=>rhs;rw [<- List.map_id l]
  refine Zcd fun x hx => ?_;have:=h1 x hx;rw [zel (by omega)];show ((x.toNat:Nat):Int)=x;omega
 rw [e,<- zbs (List.Perm.refl l) (h2.imp fun h=>Int.le_of_lt h)];exact hm
def oW (n:Nat) (lines:List (List Int)):List Sym:=(autL n lines).map syF
theorem zcd {n:Nat} {lines:List (List Int)} {p:List Int} (hp:fA p) (hl:p.length=n):((p,false):Sym)∈oW n lines↔gU lines p=true:=by
 unfold oW;rw [Zap];constructor
 ·rintro ⟨q,hq,e⟩;obtain rfl:q=p:=congrArg Prod.fst e;exact (List.mem_filter.1 hq).2
 ·intro h;exact ⟨p,List.mem_filter.2 ⟨zcb.2 ⟨hp,hl⟩,h⟩,rfl⟩
theorem pO {n:Nat} {lines:List (List Int)} {a:Sym} (h:a∈oW n lines):a.2=false/\DP n a/\gU lines a.1=true:=by
 unfold oW at h;obtain ⟨q,hq,rfl⟩:=List.mem_map.1 h;obtain ⟨h1,h2⟩:=List.mem_filter.1 hq;obtain ⟨h3,h4⟩:=zcb.1 h1;exact ⟨rfl,DP.of h3 h4,h2⟩
theorem zgm (n:Nat) (lines:List (List Int)):(oW n lines).Pairwise fun a b=>fJ a b=true:=by
 rw [oW,Zbx];refine ((zc9 n []).filter _).imp fun {a b} h => ?_;have hne:a≠b:=fun e=>by rw [e,zc8] at h;cases h
 show (if a=b then _ else jV a b)=true;rw [if_neg hne];exact h
theorem zo8 {n:Nat} (hn:n<=6):facZ n<=720:=by
 rcases (by omega:n=0\/n=1\/n=2\/n=3\/n=4\/n=5\/n=6) with rfl | rfl | rfl | rfl | rfl | rfl | rfl <;> decide
theorem zgn {n:Nat} {lines:List (List Int)} (hn:n<=6):(autL n lines).length<=720:=by
 refine Zbl (List.length_filter_le _ _) ?_;rw [zid hn];exact zo8 hn
theorem ztu {n:Nat} {lines:List (List Int)} (hn:n<=6) (hl:∀ l∈lines,LnOk n l/\l.Pairwise (· < ·)):fU (oW n lines) n:={
 n256:=by omega
 ne q:=by
  have:=(zcd (lines:=lines) ((jY n).de.perm) ((jY n).de.1.1)).2 (zq6 hl);have e:((idS n).1,false)∈oW n lines:=this;rw [q] at e;cases e
 len:=by
  have:=zgn (lines:=lines) hn;unfold oW;rw [Zaq];omega
 dp g hg:=(pO hg).2.1
 ord:=zjr (zgm n lines)
 cl a ha b hb:=by
  obtain ⟨a1,a2,a3⟩:=pO ha;obtain ⟨b1,b2,b3⟩:=pO hb;have hd:=(jY n).dm a b a2 b2;have e:zP a b=(uD a.1 b.1,false):=by show (uD a.1 b.1,a.2 != b.2)=_;rw [a1,b1];rfl
  rw [e] at hd ⊢;refine (zcd hd.perm hd.1.1).2 (zdi (fun l hm x hx => ?_) a3 b3);have:=(hl l hm).1 x hx;have:=b2.1.1;omega }
end Go.Ev
namespace Go.Ev
open Go Go.Proofs
variable {B:Nat}
set_option maxRecDepth 100000
def fewY (cells:Int) (lines:List (List Int)) (a b:Int):Bool:=decide ((lines.length:Int)<=b/\∀ l∈lines,(l.length:Int)<=a)&&(decide (jE cells lines=0)&&decide (cells<=a))
theorem zwf {cells a b:Int} {lines:List (List Int)} (ha:a<=1000000) (hb:b<=1000000):Pure Tryz.prog B 83 [.agg [I cells,qg lines],I a,I b] (· = .bool (fewY cells lines a b)):=by
 refine y8 fun h nx K H0 hK=>zS zW yt 1000 fun hf' => ?_;rw [F83.go];refine H0.box (l:=[I cells,qg lines]) rfl fun b2 h1 nx1 H1 => ?_;have l1:∀ op:AV->OP,zH 2 (.ptr b2 0) h1 op=op (.agg [I cells,qg lines]):=fun op=>H1.zi (k:=0) (n:=2) rfl rfl;have l3:∀ op:AV->OP,zE (.ptr b2 (0+0)) h1 op=op (I cells):=fun op=>H1.load (k:=0) (i:=0+0) rfl rfl;rw [l1];refine zqh hb _ _ _ _ ?_;rintro _ rfl _;cases cd:decide ((lines.length:Int)<=b/\∀ l∈lines,(l.length:Int)<=a) with
 | false =>
  simp only [jF,zjj,zM];exact hK _ _ _ _ _ H1 (zJ rfl) (by rw [fewY,cd];rfl)
 | true =>
 have c1:=of_decide_eq_true cd;simp only [yT,l1,zji];refine zoh (fun q hq=>by have:=c1.2 q hq;omega) _ _ _ _ ?_;rintro _ rfl _;simp only [yT,dw,zR];by_cases z:jE cells lines=0
 ·rw [decide_eq_true z];simp only [yT,sFx,l3,bP,zR];exact hK _ _ _ _ _ H1 (zJ rfl) (by rw [fewY,cd,decide_eq_true z];rfl)
 ·rw [decide_eq_false z];simp only [jF,zM];exact hK _ _ _ _ _ H1 (zJ rfl) (by rw [fewY,cd,decide_eq_false z];rfl)
theorem law15 {cells:Int} {lines:List (List Int)} {a b:Sym} (haw:∀ {B},Pure Tryz.prog B 18 [] (· = .bool true)):Pure Tryz.prog B 15 [.agg [I cells,qg lines],encS a,encS b] (· = .bool true):=by
 refine y8 fun h nx K H0 hK=>zS zW yt 1000 fun hf => ?_;have awk:∀ (h:T Blk) (nx:Pa) (Z:Kw Prop),Z (.bool true) h nx=.ok True->(CS Tryz.prog B).fn 18 (.of 18) [] h nx Z=.ok True:=fun h nx Z hZ=>haw _ _ _ _ fun v hv _=>by rw [hv];exact hZ
 have ret:∀ {h1 nx1 L},Hp h h1 nx1 L->K (.bool true) h1 nx1=.ok True:=fun H=>hK _ _ _ _ _ H (zJ rfl) rfl;rw [F15.go,F15.t56,zA,F15.rV];refine H0.box (l:=[I cells,qg lines]) rfl fun b3 h1 nx1 H1 => ?_;refine H1.box (l:=[encI a.1,.bool a.2]) rfl fun b4 h2 nx2 H2 => ?_;refine H2.box (l:=[encI b.1,.bool b.2]) rfl fun b5 h3 nx3 H3 => ?_;have l3:∀ op:AV->OP,zH 2 (.ptr b3 0) h3 op=op (.agg [I cells,qg lines]):=fun op=>H3.zi (k:=2) (n:=2) rfl rfl;have l4:∀ op:AV->OP,zH 2 (.ptr b4 0) h3 op=op (.agg [encI a.1,.bool a.2]):=fun op=>H3.zi (k:=1) (n:=2) rfl rfl;have l5:∀ op:AV->OP,zH 2 (.ptr b5 0) h3 op=op (.agg [encI b.1,.bool b.2]):=fun op=>H3.zi (k:=0) (n:=2) rfl rfl;have m3:∀ op:AV->OP,zE (.ptr b3 (0+0)) h3 op=op (I cells):=fun op=>H3.load (k:=2) (i:=0+0) rfl rfl;have m4:∀ op:AV->OP,zE (.ptr b4 (0+0)) h3 op=op (encI a.1):=fun op=>H3.load (k:=1) (i:=0+0) rfl rfl;have m5:∀ op:AV->OP,zE (.ptr b5 (0+0)) h3 op=op (encI b.1):=fun op=>H3.load (k:=0) (i:=0+0) rfl rfl;have out:∀ (x6 x7 x8 x9 x10 x11 x12 x13 x14 x15 x16 x17 x18 x19 x20 x21 x22 x23 x24 x25:AV),IR.run F15.t3 (CS Tryz.prog B) 1000 (fnO F15.res K) (IR.run F15.t54 (CS Tryz.prog B) 1000 (fnO F15.res K) (wu F15.res K)) (F15.fr (.agg [I cells,qg lines]) (encS a) (encS b) (.ptr b3 0) (.ptr b4 0) (.ptr b5 0) x6 x7 x8 x9 x10 x11 x12 x13 x14 x15 x16 x17 x18 x19 x20 x21 x22 x23 x24 x25) h3 nx3=.ok True:=by
  intros
  rw [F15.t3,zA,F15.rX];refine awk _ _ _ ?_;simp only [yX,jZ];rw [F15.ret];exact ret H3
 rw [F15.t55,zA,F15.t5,zA,F15.rW,F15.r1_0,F15.zr4];refine awk _ _ _ ?_;rw [F15.r1_1,F15.zr5,yA,Zad];simp only [yG,zjh,l3]
 (refine zwf (by decide) (by decide) _ _ _ _ ?_;rintro _ rfl _)
 rw [F15.r1_2,F15.zr6];cases c1:fewY cells lines 6 8 with
 | false =>
  simp only [yG,yA,Zae,zM,yQ,zok];rw [F15.r1_3,F15.zly];simp only [yQ,zok,zR];rw [F15.r1_4,F15.zgo];simp only [yQ,zR];rw [F15.t4,zK,F15.v18,zD];exact out ..
 | true =>
 have c1':(∀ l∈lines,(l.length:Int)<=6)/\jE cells lines=0/\cells<=6:=by
  simp only [fewY,Zag,decide_eq_true_eq] at c1;exact ⟨c1.1.2,c1.2⟩
 obtain ⟨hw6,z,hc6⟩:=c1';obtain ⟨n,rfl,n1,n2,n3,n4,n5⟩:=zdh z;have hn6:n<=6:=by omega
 have hw:∀ q∈lines,q.length<=1000000:=fun q hq=>by have:=hw6 q hq;omega
 simp only [yG,yA,Zad,zM,sFx,l4,m3,zjh]
 (refine zhy _ _ _ _ ?_;rintro _ rfl _)
 rw [F15.r1_3,F15.zly];by_cases c2:jM a.1 n=0
 case neg =>
  simp only [yG,gy,c2,decide_false,Zae,zM,yQ,zok];rw [F15.r1_4,F15.zgo];simp only [yQ,zR];rw [F15.t4,zK,F15.v18,zD];exact out ..
 simp only [yG,gy,c2,decide_true,Zad,zM,sFx,l5,m3,zjh]
 (refine zhy _ _ _ _ ?_;rintro _ rfl _)
 rw [F15.r1_4,F15.zgo];by_cases c3:jM b.1 n=0
 case neg =>
  simp only [yG,gy,c3,decide_false,Zae,zM];rw [F15.t4,zK,F15.v18,zD];exact out ..
 simp only [yG,gy,c3,decide_true,Zad,zM];obtain ⟨_,a2,a3⟩:=gG c2;obtain ⟨_,b2,b3'⟩:=gG c3;have hda:DP n a:=DP.of a3 (by omega);have hdb:DP n b:=DP.of b3' (by omega);have hln:∀ l∈lines,LnOk n l/\l.Pairwise (· < ·):=fun l hm=>⟨(n5 l hm).1,(n5 l hm).2.2.2.2.2⟩;have ok:=ztu hn6 hln;have hGl:=zgn (lines:=lines) hn6;have hGl':(oW n lines).length<=720:=by unfold oW;rw [Zaq];exact hGl
 have hGw:∀ g∈oW n lines,g.1.length<=1000000:=fun g hg=>by have:=(ok.dp g hg).1.1;omega
 have kv:∀ p:List Int,fA p->p.length=n->zdd n lines p=.tup [.bool (gU lines p),I 0]:=fun p h1 h2=>by
  have e:mU n lines p=0:=by
   rw [mU,if_neg (fun q=>q z),jM,if_neg (by omega),if_neg (by omega),if_pos h1]
  rw [zdd,if_neg (fun q=>q e)]
 have au:Pure Tryz.prog B 34 [.agg [I n,qg lines]] (· = .tup [jd (oW n lines),I 0]):=ztt z (by omega) (by omega);have memA:=fun p h1 h2=>zcd (n:=n) (lines:=lines) (p:=p) h1 h2;have gm:=fun g hg=>pO (n:=n) (lines:=lines) (a:=g) hg;have asc:=zgm n lines;have cgr:=ok.err
 generalize oW n lines=G at *
 rw [F15.t4,zK,F15.v18,zC,zX,F15.t54,zA,F15.t6_s,l3];refine au _ _ _ _ ?_;rintro _ rfl _;rw [yM,yO,F15.t53,zA,F15.t7_s,l3,l4];refine bD hw (by have:=hda.1.1;omega) _ _ _ _ ?_;rintro _ rfl _;rw [kv a.1 hda.perm hda.1.1,yM,yO,F15.t52,zA,F15.eH,l3,l5];refine bD hw (by have:=hdb.1.1;omega) _ _ _ _ ?_;rintro _ rfl _;rw [kv b.1 hdb.perm hdb.1.1,yM,yO,F15.t51,zA,F15.t13,zA,F15.sF,F15.r6_0,F15.zr7];have hg0:G.length≠0:=fun q=>ok.ne (Zau q);simp only [jr (show -9223372036854775808<=(0:Int)+0/\(0:Int)+0<=9223372036854775807 by decide),Int.add_zero,gy,decide_true,Zad,yG];rw [F15.r6_1,F15.zr8];simp only [yG,zG,dw,decide_eq_false (show ¬ ((G.length:Nat):Int)=0 by omega),zM,qy,decide_eq_false (show ¬ (720:Int)<((G.length:Nat):Int) by omega)];rw [F15.t12,zK,F15.v19,zC,zX,F15.t50,zA,F15.t18,zA,F15.oC,F15.r8_0,F15.zr9];simp only [sFx,m4];rw [zem];refine zbw (a:=(a.1,false)) (by omega) hGw _ _ _ _ ?_;rintro _ ⟨ra,rfl,hra⟩ _;have era:decide (0<=ra)=gU lines a.1:=by
  rw [Zbs,decide_eq_true_eq,<- memA _ hda.perm hda.1.1];exact ⟨fun q=>Decidable.byContradiction fun r=>by have:=hra.2 r;omega,fun q=>Decidable.byContradiction fun r=>hra.1 (by omega) q⟩
 rw [F15.r8_1,F15.zsa,xw,era,zbu,bne_self_eq_false];simp only [yG,sFx,m5,zem];rw [F15.r8_2,F15.zsb];simp only [zjh];refine zbw (a:=(b.1,false)) (by omega) hGw _ _ _ _ ?_;rintro _ ⟨rb,rfl,hrb⟩ _;have erb:decide (0<=rb)=gU lines b.1:=by
  rw [Zbs,decide_eq_true_eq,<- memA _ hdb.perm hdb.1.1];exact ⟨fun q=>Decidable.byContradiction fun r=>by have:=hrb.2 r;omega,fun q=>Decidable.byContradiction fun r=>hrb.1 (by omega) q⟩
 rw [F15.r8_3,F15.zsc];simp only [yG,xw,erb,zbu,bne_self_eq_false,zM];rw [F15.t17,zK,F15.v20,zC,zX,F15.t49,zA,F15.t38,zA,F15.zac,zG,F15.t37,yB];refine F15.zun (fun m x22 h' nx'=>∃ i:Nat,x22=I i/\m=G.length-i/\i<=G.length/\Hp h h' nx' [.arr b5 [encI b.1,.bool b.2],.arr b4 [encI a.1,.bool a.2],.arr b3 [I n,qg lines]]) (m:=G.length) (by omega) ⟨0,rfl,by omega,by omega,H3⟩ ?_
 clear l3 l4 l5 m3 m4 m5 out
 rintro m z6 z13 z14 z15 z22 z23 z24 h5 nx5 R ⟨i,rfl,rfl,hi,H5⟩ hR;have l3:∀ op:AV->OP,zH 2 (.ptr b3 0) h5 op=op (.agg [I n,qg lines]):=fun op=>H5.zi (k:=2) (n:=2) rfl rfl;have l4:∀ op:AV->OP,zH 2 (.ptr b4 0) h5 op=op (.agg [encI a.1,.bool a.2]):=fun op=>H5.zi (k:=1) (n:=2) rfl rfl;have l5:∀ op:AV->OP,zH 2 (.ptr b5 0) h5 op=op (.agg [encI b.1,.bool b.2]):=fun op=>H5.zi (k:=0) (n:=2) rfl rfl;have m3:∀ op:AV->OP,zE (.ptr b3 (0+0)) h5 op=op (I n):=fun op=>H5.load (k:=2) (i:=0+0) rfl rfl;rw [F15.t35,zA,F15.zeo,je];by_cases hlt:i<G.length
 case neg =>
  rw [decide_eq_false (by omega),F15.t34,zA,F15.t21,zK,F15.v23,zC,jT,gN,F15.t48,zA,F15.t43,zA,F15.zuo,F15.zlv,F15.zo9,zG,bP];have fin:∀ (x13 x14 x15 x16 x17 x22 x23 x24 x25:AV),IR.run F15.t47 (CS Tryz.prog B) 1000 (fnO F15.res K) (wu F15.res K) (F15.fr (.agg [I n,qg lines]) (encS a) (encS b) (.ptr b3 0) (.ptr b4 0) (.ptr b5 0) z6 (jd G) (I 0) (.bool (gU lines a.1)) (I 0) (.bool (gU lines b.1)) (I 0) x13 x14 x15 x16 x17 (.bool false) (.bool false) (.bool false) (I G.length) x22 x23 x24 x25) h5 nx5=.ok True:=by
   intro x13 x14 x15 x16 x17 x22 x23 x24 x25;rw [F15.t47,zA,F15.zup,l3,l4,l5];refine zbv (fun x hx => ?_) (by have:=hdb.1.1;omega) _ _ _ _ ?_
   ·have:=hdb.1.2 x hx;have:=hda.1.1;omega
   rintro _ rfl _;have hdc:=(jY n).dm a b hda hdb;rw [l3,zB];refine bD (p:=(zP a b).1) (c:=(zP a b).2) hw (by have:=hdc.1.1;omega) _ _ _ _ ?_;rintro _ rfl _;rw [kv _ hdc.perm hdc.1.1,yM,yO,F15.t46,zA,F15.zuq,F15.zlx,F15.zpa,dw,decide_eq_true rfl];have done:∀ (y6:AV),y6=.bool true->∀ F2,IR.run .ret (CS Tryz.prog B) 1000 (fnO F15.res K) F2 (F15.fr (.agg [I n,qg lines]) (encS a) (encS b) (.ptr b3 0) (.ptr b4 0) (.ptr b5 0) y6 (jd G) (I 0) (.bool (gU lines a.1)) (I 0) (.bool (gU lines b.1)) (I 0) x13 x14 x15 (.bool (gU lines (zP a b).1)) (I 0) (.bool false) (.bool false) (.bool false) (I G.length) x22 x23 x24 x25) h5 nx5=.ok True:=by
    rintro _ rfl F2;simp only [yX,jZ];rw [F15.ret];exact ret H5
   cases ca:gU lines a.1 with
   | false =>
    rw [ca] at done;simp only [yT,yA,Zae,yQ];rw [F15.zlw,F15.zik];simp only [yT,zR,yQ];exact done _ rfl _
   | true =>
    rw [ca] at done;simp only [yT,yA,Zad,yG];rw [F15.zlw,F15.zik];cases cb:gU lines b.1 with
    | false =>
     rw [cb] at done;simp only [Zae,yT,zM,yQ,zR];exact done _ rfl _
    | true =>
     rw [cb] at done;have:gU lines (uD a.1 b.1)=true:=zdi (fun l hm x hx=>by have:=(hln l hm).1 x hx;have:=hdb.1.1;omega) ca cb;have this:gU lines (zP a b).1=true:=this;rw [this] at done ⊢;simp only [Zad,yT,yG,zM,zR];exact done _ rfl _
  by_cases c24:(G.length:Int)<=24
  ·rw [decide_eq_true c24];simp only [yT,sFx,m3,zji];refine zf1 (by omega) _ _ _ _ ?_;rintro _ rfl _;rw [cgr,F15.zlu,F15.zij];simp only [yT,gy,decide_true,Zad,zR];rw [F15.t42,zK,F15.v25,zC,zX];exact fin ..
  ·rw [decide_eq_false c24];simp only [jF,zjj];rw [F15.zlu,F15.zij];simp only [jF,zM];rw [F15.t42,zK,F15.v25,zC,zX];exact fin ..
 obtain ⟨g1,g2,g3⟩:=gm _ (Zai hlt);rw [decide_eq_true (by omega),F15.t34,zA,F15.t21,zK,F15.v23,zD,zX,F15.t33,zA,F15.t31,yB,F15.t30,zA,F15.zlq,F15.t29,zA,F15.zum,l3,xg rfl hlt,jU hlt,uV];refine bD (p:=G[i].1) (c:=G[i].2) hw (by have:=g2.1.1;omega) _ _ _ _ ?_;rintro _ rfl _;rw [kv _ g2.perm g2.1.1,g3,yM,yO,F15.t28,zA,F15.zlp,gy,decide_eq_true rfl,Zad];simp only [yG,yA,Zad,zM,qy];by_cases h0:i=0
 ·subst h0;simp only [decide_eq_false (show ¬ (0:Int)<((0:Nat):Int) by omega),yG,jF,zjj,zM];rw [F15.t27,zK,F15.v24,zC,zX,F15.zii,jr (by omega)];exact hR (G.length-(0+1)) _ _ _ _ _ _ _ _ _ (by omega) ⟨0+1,rfl,rfl,by omega,H5⟩
 ·have hlt1:i-1<G.length:=by omega
  have hbf:fJ G[i-1] G[i]=true:=List.pairwise_iff_getElem.1 asc (i-1) i hlt1 hlt (by omega);rw [decide_eq_true (show (0:Int)<(i:Int) by omega)];simp only [yG,yT];rw [bg (by omega),xg (i:=i-1) (by omega) hlt1,jU hlt1,uV,xg rfl hlt,jU hlt,uV];simp only [zji];refine zc1 (hGw _ (Zai hlt1)) (hGw _ (Zai hlt)) _ _ _ _ ?_;rintro _ rfl _;rw [hbf];simp only [yT,yA,Zad,yG,zR,zM];rw [F15.t27,zK,F15.v24,zC,zX,F15.zii,jr (by omega)];exact hR (G.length-(i+1)) _ _ _ _ _ _ _ _ _ (by omega) ⟨i+1,rfl,rfl,by omega,H5⟩
end Go.Ev
