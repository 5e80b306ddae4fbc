import Derived.Test.YtfgpjkchdelphaaGreatDoorWordsa
import Derived.Test.YtfgpjkchdelphaaGreatDoorCodea
import Derived.Test.YtfgpjkchdelphaaGreatDoorEvD
import GoSem.Core.Next
import Derived.Sort.Grow
import Derived.Sort.Row
import Derived.Test.YtfgpjkchdelphaaGreatDoorCodeb
import Derived.IntWalk
set_option linter.unusedSimpArgs false
set_option linter.unusedVariables false
namespace Go.Ev
open Go Go.Proofs
def Dn (t M:Nat) (q:Rat):Prop:=∃ z:Int,q*((t:Int):Rat)=(z:Rat)/\z.natAbs<=M
theorem zjh {t:Int} (h:t≠0):(t:Rat)≠0:=fun e=>by
 have:=congrArg Rat.num e;rw [Zeq] at this;exact h this
theorem Dn.qs {t M k:Nat} {q:Rat} (ht:1<=t) (htM:t<=M) (hM:M<18446744073709551616 ^ k) (h:Dn t M q):Qs k q:=by
 obtain ⟨z,e,hz⟩:=h;have h0:((t:Int):Rat)≠0:=zjh (by omega);have eq:q=Rat.divInt z (t:Int):=by rw [Rat.divInt_eq_div];grind
 obtain ⟨d1,d2⟩:=zc0 (n:=z) (d:=(t:Int)) (by omega);have hg:0<(Int.gcd z (t:Int):Int):=by have:=Int.gcd_pos_of_ne_zero_right z (show (t:Int)≠0 by omega);omega
 have hg1:1<=Int.gcd z (t:Int):=by omega
 refine ⟨?_,?_⟩
 ·unfold Zs;rw [eq,d1,Int.natAbs_ediv_of_dvd (Int.gcd_dvd_left ..)];exact Zev (Zbj (Zcu _ _) hz) hM
 ·unfold Zs;rw [eq,d2,Int.natAbs_ediv_of_dvd (Int.gcd_dvd_right ..)];exact Zev (Zbj (Zcu _ _) (by omega)) hM
theorem Dn.mono {t M N:Nat} {q:Rat} (h:Dn t M q) (hMN:M<=N):Dn t N q:=by
 obtain ⟨z,e,hz⟩:=h;exact ⟨z,e,Zbj hz hMN⟩
theorem Dn.zero (t M:Nat):Dn t M 0:=⟨0,by grind,by simp⟩
theorem Dn.sub {t M N:Nat} {p q:Rat} (hp:Dn t M p) (hq:Dn t N q):Dn t (M+N) (p-q):=by
 obtain ⟨z,e,hz⟩:=hp;obtain ⟨w,f,hw⟩:=hq;refine ⟨z-w,by rw [Rat.intCast_sub];grind,?_⟩;have:=Int.natAbs_sub_le z w;omega
theorem Dn.mul {t s M N:Nat} {p q:Rat} (hp:Dn t M p) (hq:Dn s N q):Dn (t*s) (M*N) (p*q):=by
 obtain ⟨z,e,hz⟩:=hp;obtain ⟨w,f,hw⟩:=hq;refine ⟨z*w,?_,?_⟩
 ·rw [Zer,show ((t*s:Nat):Int)=(t:Int)*(s:Int) by simp,Zer];grind
 ·rw [Zed];exact Zbd hz hw
theorem Dn.scale {t M:Nat} (s:Nat) {p:Rat} (hp:Dn t M p):Dn (t*s) (M*s) p:=by
 obtain ⟨z,e,hz⟩:=hp;refine ⟨z*(s:Int),?_,?_⟩
 ·rw [Zer,show ((t*s:Nat):Int)=(t:Int)*(s:Int) by simp,Zer];grind
 ·rw [Zed,Zcl];exact Zak _ hz
def Sg (b:Rat):Prop:=b = -1\/b=0\/b=1
theorem Sg.dn {b:Rat} (h:Sg b) {t M:Nat} (hM:t<=M):Dn t M b:=by
 rcases h with rfl | rfl | rfl
 ·exact ⟨-(t:Int),by rw [Zdr];grind,by omega⟩
 ·exact Dn.zero _ _
 ·exact ⟨(t:Int),by grind,by omega⟩
theorem Sg.mul {b q:Rat} (h:Sg b) {t M:Nat} (hq:Dn t M q):Dn t M (b*q):=by
 obtain ⟨z,e,hz⟩:=hq;rcases h with rfl | rfl | rfl
 ·exact ⟨-z,by rw [Zdr];grind,by omega⟩
 ·rw [Rat.zero_mul];exact Dn.zero _ _
 ·exact ⟨z,by grind,hz⟩
abbrev at' (q:List Rat) (j:Nat):Rat:=q.getD j 0
theorem wJ {q:List Rat} {j:Nat} (h:j<q.length):q[j]? = some (at' q j):=by
 rw [at',Zac,List.getElem?_eq_getElem h];rfl
theorem kN {q:List Rat} {j:Nat} (h:q.length<=j):at' q j=0:=by
 rw [at',Zac,List.getElem?_eq_none h];rfl
theorem at_mem {q:List Rat} {x:Rat} (h:x∈q):∃ j,j<q.length/\x=at' q j:=by
 obtain ⟨j,hj⟩:=List.mem_iff_getElem?.1 h;have hl:=(List.getElem?_eq_some_iff.1 hj).1;rw [wJ hl] at hj;exact ⟨j,hl,(Option.some.inj hj).symm⟩
theorem u7 {b:Rat} {r o:List Rat} (h:r.length=o.length):(uF b r o).length=r.length:=by
 unfold uF;rw [Zel];omega
theorem kC {b:Rat} {r o:List Rat} (h:r.length=o.length) (j:Nat):at' (uF b r o) j=at' r j-b*at' o j:=by
 by_cases hj:j<r.length
 ·have h1:=wJ (q:=uF b r o) (j:=j) (by rw [u7 h];exact hj);unfold uF at h1;rw [List.getElem?_zipWith,wJ hj,wJ (q:=o) (by omega)] at h1;exact (Option.some.inj h1).symm
 ·rw [kN (by rw [u7 h];omega),kN (by omega),kN (by omega)];grind
theorem d6 {b:Rat} {r:List Rat}:(uI b r).length=r.length:=by unfold uI;rw [Zaz]
theorem mJ {b:Rat} {r:List Rat} (j:Nat):at' (uI b r) j=at' r j*b:=by
 by_cases hj:j<r.length
 ·have h1:=wJ (q:=uI b r) (j:=j) (by rw [d6];exact hj);unfold uI at h1;rw [List.getElem?_map,wJ hj] at h1;exact (Option.some.inj h1).symm
 ·rw [kN (by rw [d6];omega),kN (by omega),Rat.zero_mul]
def dot:List Rat->List Rat->Rat
 | a::q,b::f=>a*b+dot q f
 | _,_=>0
theorem xE (b:Rat):∀ (r o f:List Rat),r.length=o.length->dot (uF b r o) f=dot r f-b*dot o f
 | [],[],f,_=>by unfold uF;simp [dot];grind
 | x::r,y::o,[],_=>by unfold uF;simp [dot];grind
 | x::r,y::o,z::f,h=>by
  have ih:=xE b r o f (by simpa using h);unfold uF at ih ⊢;rw [List.zipWith_cons_cons,dot,dot,dot,ih];grind
 | [],_::_,_,h=>by simp at h
 | _::_,[],_,h=>by simp at h
theorem zea (b:Rat):∀ (r f:List Rat),dot (uI b r) f=b*dot r f
 | [],f=>by simp [uI,dot]
 | x::r,[]=>by simp [uI,dot]
 | x::r,z::f=>by
  have ih:=zea b r f;unfold uI at ih ⊢;rw [Zbr,dot,dot,ih];grind
def redF:List (List Rat×Nat)->List Rat->List Rat
 | [],r=>r
 |(q,p)::l,r=>redF l (uF (at' r p) r q)
theorem qJ (q:List Rat) (p:Nat):∀ (l:List (List Rat×Nat)) (r:List Rat),redF (l++[(q,p)]) r=uF (at' (redF l r) p) (redF l r) q
 | [],r=>rfl
 |(q',p')::l,r=>by rw [Zch,redF,qJ q p l,redF]
structure St (n t M:Nat) (Q:List (List Rat)) (ps:List Nat):Prop where
 len:ps.length=Q.length
 row:∀ q∈Q,q.length=n
 den:∀ q∈Q,∀ j,Dn t M (at' q j)
 rng:∀ p∈ps,p<n
 one:∀ a b,a<Q.length->b<Q.length->at' (Q.getD a []) (ps.getD b 0)=if a=b then 1 else 0
 t1:1<=t
 tM:t<=M
theorem St.nil (n:Nat):St n 1 1 [] []:=⟨rfl,by simp,by simp,by simp,fun a b h=>by simp at h,by omega,by omega⟩
theorem kI {α:Type} {l:List α} {i:Nat} {d:α} (h:i<l.length):l[i]? = some (l.getD i d):=by
 rw [Zac,List.getElem?_eq_getElem h];rfl
theorem gY {α:Type} {l:List α} {i:Nat} {d:α} (h:i<l.length):l.getD i d∈l:=Zae (kI h)
abbrev aY (Q:List (List Rat)) (ps:List Nat):List (List Rat×Nat):=List.zip Q ps
theorem wQ {Q:List (List Rat)} {ps:List Nat} {k:Nat} (hl:ps.length=Q.length) (hk:k<Q.length):(aY Q ps).take (k+1)=(aY Q ps).take k++[(Q.getD k [],ps.getD k 0)]:=by
 have h1:Q[k]? = some (Q.getD k []):=kI hk;have h2:ps[k]? = some (ps.getD k 0):=kI (by omega);have h3:(aY Q ps)[k]? = some (Q.getD k [],ps.getD k 0):=List.getElem?_zip_eq_some.2 ⟨h1,h2⟩;rw [Zan,h3];rfl
structure Rk (n t M:Nat) (Q:List (List Rat)) (ps:List Nat) (r0:List Rat) (k:Nat) (r:List Rat):Prop where
 eq:r=redF ((aY Q ps).take k) r0
 len:r.length=n
 den:∀ j,Dn t (M+k*M) (at' r j)
 late:∀ b,k<=b->b<Q.length->at' r (ps.getD b 0)=at' r0 (ps.getD b 0)
 done:∀ b,b<k->b<Q.length->at' r (ps.getD b 0)=0
theorem Rk.zero {n t M:Nat} {Q:List (List Rat)} {ps:List Nat} {r0:List Rat} (hS:St n t M Q ps) (hl:r0.length=n) (hs:∀ j,Sg (at' r0 j)):Rk n t M Q ps r0 0 r0 :=
 ⟨rfl,hl,fun j=>(hs j).dn (by have:=hS.tM;omega),fun b _ _=>rfl,fun b h=>by omega⟩
theorem Rk.next {n t M k:Nat} {Q:List (List Rat)} {ps:List Nat} {r0 r:List Rat} (hS:St n t M Q ps) (hs:∀ j,Sg (at' r0 j)) (h:Rk n t M Q ps r0 k r) (hk:k<Q.length):Rk n t M Q ps r0 (k+1) (uF (at' r (ps.getD k 0)) r (Q.getD k [])):=by
 have hq:=gY (d:=[]) hk;have hql:=hS.row _ hq;have hll:r.length=(Q.getD k []).length:=by rw [h.len,hql]
 have hb:Sg (at' r (ps.getD k 0)):=by rw [h.late k (Zah _) hk];exact hs _
 refine ⟨by rw [wQ hS.len hk,qJ,<- h.eq],by rw [u7 hll];exact h.len,fun j => ?_,fun b h1 h2 => ?_,fun b h1 h2 => ?_⟩
 ·rw [kC hll];have:=(h.den j).sub (hb.mul (hS.den _ hq j));exact this.mono (by rw [Zam];omega)
 ·rw [kC hll,hS.one k b hk h2,if_neg (by omega),Zex,h.late b (by omega) h2];grind
 ·rw [kC hll,hS.one k b hk h2];by_cases e:b=k
  ·subst e;rw [if_pos rfl,Rat.mul_one];grind
  ·rw [if_neg (by omega),Zex,h.done b (by omega) h2];grind
def wH (Q:List (List Rat)) (p:Nat) (r:List Rat):List (List Rat):=Q.map fun o=>uF (at' o p) o r
theorem zji {t N:Nat} {v:Rat} (ht:1<=t) (hv:v≠0) (h:Dn t N v):∃ s:Nat,1<=s/\s<=N/\Dn s t v⁻¹/\∀ {x:Rat} {R:Nat},Dn t R x->Dn s R (x*v⁻¹):=by
 obtain ⟨z,e,hz⟩:=h;have ht0:((t:Int):Rat)≠0:=zjh (by omega);have hz0:z≠0:=fun q=>by subst q;rw [show ((0:Int):Rat)=0 from rfl] at e;grind
 have hzr:(z:Rat)≠0:=zjh hz0;refine ⟨z.natAbs,by omega,hz,?_,fun {x R} hx => ?_⟩
 ·by_cases c:0<z
  ·refine ⟨(t:Int),?_,by omega⟩;rw [show ((z.natAbs:Nat):Int)=z by omega];grind
  ·refine ⟨-(t:Int),?_,by omega⟩;rw [show ((z.natAbs:Nat):Int) = -z by omega,Zdr,Zdr];grind
 ·obtain ⟨w,f,hw⟩:=hx;by_cases c:0<z
  ·refine ⟨w,?_,hw⟩;rw [show ((z.natAbs:Nat):Int)=z by omega];grind
  ·refine ⟨-w,?_,by omega⟩;rw [show ((z.natAbs:Nat):Int) = -z by omega,Zdr,Zdr];grind
structure Nw (n t M N s:Nat) (Q:List (List Rat)) (ps:List Nat) (p:Nat) (r:List Rat):Prop where
 len:r.length=n
 den:∀ j,Dn s N (at' r j)
 one:at' r p=1
 out:∀ b,b<Q.length->at' r (ps.getD b 0)=0
 p1:p<n
 s1:1<=s
 sN:s<=N
theorem Nw.less {n t M N s p:Nat} {Q:List (List Rat)} {ps:List Nat} {r:List Rat} (hS:St n t M Q ps) (h:Nw n t M N s Q ps p r) {o:List Rat} (ho:o∈Q) :
  (∀ j,Dn (t*s) (M*N) (at' o p*at' r j))/\(∀ j,Dn (t*s) (M*s+M*N) (at' (uF (at' o p) o r) j))/\(uF (at' o p) o r).length=n:=by
 have hl:o.length=r.length:=by rw [hS.row o ho,h.len]
 refine ⟨fun j=>(hS.den o ho p).mul (h.den j),fun j => ?_,by rw [u7 hl];exact hS.row o ho⟩;rw [kC hl];exact ((hS.den o ho j).scale s).sub ((hS.den o ho p).mul (h.den j))
theorem St.next {n t M N s p:Nat} {Q:List (List Rat)} {ps:List Nat} {r:List Rat} (hS:St n t M Q ps) (h:Nw n t M N s Q ps p r):St n (t*s) (M*N+M*N) (wH Q p r++[r]) (ps++[p]):=by
 have hnl:(wH Q p r).length=Q.length:=by unfold wH;rw [Zaz]
 have hM1:1<=M:=Zbj hS.t1 hS.tM;have mM:M*s<=M*N:=Zbc _ h.sN;refine ⟨by rw [Zar,Zar,hnl,hS.len];rfl,fun q hq => ?_,fun q hq j => ?_,fun x hx => ?_,fun a b ha hb => ?_,Zbd hS.t1 h.s1,?_⟩
 ·rcases List.mem_append.1 hq with hq | hq
  ·obtain ⟨o,ho,rfl⟩:=List.mem_map.1 hq;exact (h.less hS ho).2.2
  ·obtain rfl:=List.mem_singleton.1 hq;exact h.len
 ·rcases List.mem_append.1 hq with hq | hq
  ·obtain ⟨o,ho,rfl⟩:=List.mem_map.1 hq;exact ((h.less hS ho).2.1 j).mono (by omega)
  ·obtain rfl:=List.mem_singleton.1 hq;have:=(h.den j).scale t;rw [Zaw s t] at this;have e:=Zbc N hS.tM;rw [Zaw N M] at e;exact this.mono (by omega)
 ·rcases List.mem_append.1 hx with hx | hx
  ·exact hS.rng x hx
  ·obtain rfl:=List.mem_singleton.1 hx;exact h.p1
 ·rw [Zar,hnl,Zcv] at ha hb;have eb:(ps++[p]).getD b 0=if b<Q.length then ps.getD b 0 else p:=by
   by_cases c:b<Q.length
   ·rw [if_pos c,Zac,List.getElem?_append_left (by rw [hS.len];exact c),<- Zac]
   ·rw [if_neg c,Zac,List.getElem?_append_right (by rw [hS.len];omega),hS.len,show b-Q.length=0 by omega];rfl
  have ea:(wH Q p r++[r]).getD a []=if a<Q.length then uF (at' (Q.getD a []) p) (Q.getD a []) r else r:=by
   by_cases c:a<Q.length
   ·rw [if_pos c,Zac,List.getElem?_append_left (by rw [hnl];exact c),wH,List.getElem?_map,kI (d:=[]) c];rfl
   ·rw [if_neg c,Zac,List.getElem?_append_right (by rw [hnl];omega),hnl,show a-Q.length=0 by omega];rfl
  rw [ea,eb];by_cases c1:a<Q.length
  ·have hl:(Q.getD a []).length=r.length:=by rw [hS.row _ (gY c1),h.len]
   rw [if_pos c1,kC hl];by_cases c2:b<Q.length
   ·rw [if_pos c2,h.out b c2,hS.one a b c1 c2,Zex];grind
   ·rw [if_neg c2,h.one,if_neg (by omega)];grind
  ·rw [if_neg c1];by_cases c2:b<Q.length
   ·rw [if_pos c2,h.out b c2,if_neg (by omega)]
   ·rw [if_neg c2,h.one,if_pos (by omega)]
 ·have h1:=Zbd hS.tM h.sN;omega
abbrev SL (n:Nat) (o4 o5:Option Pa) (rs:List Pa) (cs:List (List AV)) (ps:List Nat) (T:List Ob):List Ob :=
 .gro o4 1 rs.length (rs.map (rwV n))::.gro o5 1 ps.length (ps.map fun p=>I ((p:Nat):Int))::(List.zipWith Ob.arr rs cs++T)
structure SM (rs:List Pa) (cs:List (List AV)) (Q:List (List Rat)):Prop where
 lr:rs.length=Q.length
 lc:cs.length=Q.length
 row:∀ a,a<Q.length->sF (cs.getD a []) (Q.getD a [])
theorem xN {rs:List Pa} {cs:List (List AV)} {Q:List (List Rat)} (S:SM rs cs Q):(List.zipWith Ob.arr rs cs).length=Q.length:=by
 rw [Zel,S.lr,S.lc,Nat.min_self]
theorem SM.ob {rs:List Pa} {cs:List (List AV)} {Q:List (List Rat)} (S:SM rs cs Q) {n a:Nat} {o4 o5:Option Pa} {ps:List Nat} {T:List Ob} (ha:a<Q.length) (X:List Ob) :
  ∃ r,rs[a]? = some r/\(X++SL n o4 o5 rs cs ps T)[X.length+(a+2)]? = some (.arr r (cs.getD a [])):=by
 have hr:rs[a]? = some (rs[a]'(by rw [S.lr];exact ha)):=List.getElem?_eq_getElem _;have hc:cs[a]? = some (cs.getD a []):=kI (by rw [S.lc];exact ha);refine ⟨_,hr,?_⟩;rw [List.getElem?_append_right (by omega),Zcr];show (List.zipWith Ob.arr rs cs++T)[a]? = _;rw [List.getElem?_append_left (by rw [xN S];exact ha),List.getElem?_zipWith,hr,hc]
theorem zk1:∀ {rs:List Pa} {cs:List (List AV)} {a:Nat} {r:Pa} {c:List AV},rs[a]? = some r->(List.zipWith Ob.arr rs cs).set a (.arr r c)=List.zipWith Ob.arr rs (cs.set a c)
 | [],_,_,_,_,h=>by simp at h
 | _::_,[],_,_,_,_=>by simp
 | x::rs,y::cs,0,r,c,h=>by
  obtain rfl:=Option.some.inj h
  rfl
 | x::rs,y::cs,a+1,r,c,h=>by
  have:=zk1 (rs:=rs) (cs:=cs) (a:=a) (r:=r) (c:=c) (by simpa using h);simp [this]
theorem SM.put {rs:List Pa} {cs:List (List AV)} {Q:List (List Rat)} (S:SM rs cs Q) {n a:Nat} {o4 o5:Option Pa} {ps:List Nat} {T:List Ob} {r:Pa} {c:List AV} {q:List Rat} (ha:a<Q.length) (hr:rs[a]? = some r) (hc:sF c q) (X:List Ob) :
  SM rs (cs.set a c) (Q.set a q)/\(X++SL n o4 o5 rs cs ps T).set (X.length+(a+2)) (.arr r c)=X++SL n o4 o5 rs (cs.set a c) ps T:=by
 refine ⟨⟨by rw [Zbp];exact S.lr,by rw [Zbp,Zbp];exact S.lc,fun b hb => ?_⟩,?_⟩
 ·rw [Zbp] at hb;by_cases e:b=a
  ·subst e;rw [Zac,Zac,List.getElem?_set_self (by rw [S.lc];exact hb),List.getElem?_set_self hb];exact hc
  ·rw [Zac,Zac,List.getElem?_set_ne (by omega),List.getElem?_set_ne (by omega),<- Zac,<- Zac];exact S.row b hb
 ·rw [Zdp _ _ (by omega),Zcr];show X++(Ob.gro o4 1 rs.length (rs.map (rwV n))::Ob.gro o5 1 ps.length (ps.map fun p=>I ((p:Nat):Int))::(List.zipWith Ob.arr rs cs++T).set a (.arr r c))=_;rw [List.set_append_left _ _ (by rw [xN S];exact ha),zk1 hr]
theorem SM.add {rs:List Pa} {cs:List (List AV)} {Q:List (List Rat)} (S:SM rs cs Q) {r:Pa} {c:List AV} {q:List Rat} (hc:sF c q):SM (rs++[r]) (cs++[c]) (Q++[q]):=by
 refine ⟨by simp [S.lr],by simp [S.lc],fun b hb => ?_⟩;rw [Zar,Zcv] at hb;by_cases e:b<Q.length
 ·rw [Zac,Zac,List.getElem?_append_left (by rw [S.lc];exact e),List.getElem?_append_left e,<- Zac,<- Zac];exact S.row b e
 ·obtain rfl:b=Q.length:=by omega
  rw [Zac,Zac,List.getElem?_append_right (by rw [S.lc];exact Zah _),List.getElem?_append_right (Zah _),S.lc,Zdl];exact hc
theorem zk2 {rs:List Pa} {cs:List (List AV)} {r:Pa} {c:List AV} (h:rs.length=cs.length):List.zipWith Ob.arr (rs++[r]) (cs++[c])=List.zipWith Ob.arr rs cs++[.arr r c]:=by
 rw [List.zipWith_append h];rfl
theorem zrj {a g4 g5:Ob} {Z T:List Ob}:(a::g4::g5::(Z++T)).Perm (g4::g5::((Z++[a])++T)):=by
 refine (List.Perm.swap ..).trans (List.Perm.cons _ ((List.Perm.swap ..).trans (List.Perm.cons _ ?_)));rw [Zbg];exact List.perm_middle.symm
theorem zy4 {α:Type} {l e:List α} {c:Nat} {q:α} (hle:e.length=l.length) (hq:e[c]? = some q):(e.take c++l.drop c).set c q=e.take (c+1)++l.drop (c+1):=by
 have hc:=(List.getElem?_eq_some_iff.1 hq).1;rw [Zax (show c<l.length by omega),gN (by rw [Zas];omega),Zan,hq];simp
theorem qb5 {α:Type} {l e:List α} {c:Nat} {q:α} (hle:e.length=l.length) (hq:l[c]? = some q):(e.take c++l.drop c)[c]? = some q:=by
 have hc:=(List.getElem?_eq_some_iff.1 hq).1;rw [List.getElem?_append_right (by rw [Zas];omega),Zas,List.getElem?_drop,show c+(c-min c e.length)=c by omega];exact hq
theorem pT:∀ (l:List Int) (q:List Rat) (j:Nat),(at' q j=0\/at' q j=1)->at' (l.foldl (fun q c=>q.set c.toNat 1) q) j=0\/at' (l.foldl (fun q c=>q.set c.toNat 1) q) j=1
 | [],_,_,h=>h
 | c::l,q,j,h=>by
  rw [Zdn];refine pT l _ j ?_;by_cases e:c.toNat=j
  ·by_cases hj:j<q.length
   ·right;rw [at',Zac,e,List.getElem?_set_self hj];rfl
   ·left;exact kN (by rw [Zbp];omega)
  ·rw [at',Zac,List.getElem?_set_ne e,<- Zac];exact h
theorem zfn (n:Nat) (l:List Int) (j:Nat):at' (sS n l) j=0\/at' (sS n l) j=1:=by
 refine pT l _ j (.inl ?_);by_cases hj:j<n
 ·rw [at',Zac,List.getElem?_replicate,if_pos hj];rfl
 ·exact kN (by rw [Zbi];omega)
def rowZ (n:Nat) (lines:List (List Int)) (i:Nat):List Rat:=uF 1 (sS n (lines.getD i [])) (sS n (lines.getD 0 []))
theorem zhm (n:Nat) (lines:List (List Int)) (i:Nat):(rowZ n lines i).length=n:=by unfold rowZ;rw [u7 (by rw [gF,gF]),gF]
theorem zfo (n:Nat) (lines:List (List Int)) (i j:Nat):Sg (at' (rowZ n lines i) j):=by
 unfold rowZ;rw [kC (by rw [gF,gF])];rcases zfn n (lines.getD i []) j with e | e <;> rcases zfn n (lines.getD 0 []) j with f | f <;> rw [e,f]
 ·right;left;grind
 ·left;grind
 ·right;right;grind
 ·right;left;grind
def Mgf (n:Nat) (lines:List (List Int)) (f:List Rat):Prop:=f.length=n/\∀ l∈lines,dot (sS n l) f=dot (sS n (lines.getD 0 [])) f
theorem zrk {n:Nat} {lines:List (List Int)} {f:List Rat} (h:Mgf n lines f) {i:Nat} (hi:i<lines.length):dot (rowZ n lines i) f=0:=by
 unfold rowZ;rw [xE _ _ _ _ (by rw [gF,gF]),h.2 _ (gY hi)];grind
theorem zc1 {n:Nat} {f:List Rat}:∀ (l:List (List Rat×Nat)) (r:List Rat),(∀ x∈l,x.1.length=n/\dot x.1 f=0)->r.length=n->dot (redF l r) f=dot r f
 | [],r,_,_=>rfl
 |(q,p)::l,r,h,hr=>by
  obtain ⟨h1,h2⟩:=h (q,p) (Zal ..);have hl:r.length=q.length:=by rw [hr];exact h1.symm
  rw [redF,zc1 l _ (fun x hx=>h x (Zau _ hx)) (by rw [u7 hl];exact hr),xE _ _ _ _ hl];have h2:dot q f=0:=h2;rw [h2];grind
def eX (m:Nat):Nat:=5*(2 ^ (m+1)-1)
theorem zuj (m:Nat):eX (m+1)=2*eX m+5:=by
 unfold eX;have h1:2 ^ (m+1+1)=2 ^ (m+1)*2:=Zbh ..;have h2:1<=2 ^ (m+1):=Nat.one_le_two_pow;omega
theorem zw0 {m:Nat} (h:m<=11):eX m<=eX 11:=by
 unfold eX;have:2 ^ (m+1)<=2 ^ (11+1):=Zei (by decide) (by omega);omega
theorem zw1 {X e k:Nat} (h:X<=2 ^ e) (hk:e<64*k):X<18446744073709551616 ^ k:=by
 have e:(18446744073709551616:Nat)=2 ^ 64:=by decide
 rw [e,<- Nat.pow_mul];exact Zev h (Nat.pow_lt_pow_right (by decide) hk)
theorem zy5 {X:Nat} (h:X<=2 ^ eX 11):X<18446744073709551616 ^ 700:=zw1 (k:=700) (e:=eX 11) h (by decide)
theorem zme {m M:Nat} (hm:m<=10) (hM1:1<=M) (hM:M<=2 ^ eX m):M*(M+m*M)+M*(M+m*M)<=2 ^ eX (m+1):=by
 have h1:M*M<=2 ^ eX m*2 ^ eX m:=Zbd hM hM;have h2:M*(M+m*M)<=M*(11*M):=Zbc _ (by have:=Zak M hm;omega);have h3:M*(11*M)=11*(M*M):=by rw [Zcz]
 rw [zuj,show 2*eX m+5=eX m+eX m+5 by omega,Zcn,Zcn];have e:(2:Nat) ^ 5=32:=by decide
 rw [e];omega
end Go.Ev
namespace Go.Ev
open Go Go.Proofs
variable {B:Nat}
set_option maxRecDepth 100000
theorem zrl {h0 h:T Blk} {nx p:Pa} {L:List Ob} {k x:Nat} {o:Option Pa} {l:List Nat} {K:Kw Prop} (H:Hp h0 h nx L) (hk:L[k]? = some (.gro o 1 l.length (l.map fun p=>I ((p:Nat):Int)))) (hl:l.length<=1000) (hK:∀ z:Int,(0<=z↔x∈l)->K (I z) h nx=.ok True):(CS Tryz.prog B).fn 247 p [vz o 1 l.length,I (x:Int)] h nx K=.ok True:=by
 refine zP zS jA 2000 fun hf => ?_;rw [jq.go,jq.t22,zA,jq.jm,zA,zA,jq.jl,H.zck hk,zM];refine jq.znt (fun m x5 h' nx'=>∃ i:Nat,x5=I (i:Int)/\m+i=l.length/\x∉l.take i/\h'=h/\nx'=nx) (m:=l.length) (by omega) ⟨0,rfl,rfl,by simp,rfl,rfl⟩ ?_;rintro m z2 z3 z5 z6 z7 h3 nx3 R ⟨i,rfl,hm,hn,rfl,rfl⟩ hR;rw [jq.t15,zA,jq.qh,ug,zA,zB,jq.v6];by_cases ci:i<l.length
 ·have hx:l[i]? = some l[i]:=List.getElem?_eq_getElem ci;obtain ⟨id,g,d⟩:=H.zdw hk (j:=i) (v:=I ((l[i]:Nat):Int)) (by rw [List.getElem?_map,hx];rfl);rw [Zaa (by omega),zD,zF,zA,zM,zA,jq.rD,zA,jq.bJ,g,d,ve,zB,jq.v7];by_cases e:x=l[i]
  ·rw [Zaa (by omega),zD,zA,jq.mg];simp only [zJ,uA,zT];rw [jq.ret];exact hK _ ⟨fun _=>e ▸ Zay ci,fun _=>by omega⟩
  ·rw [Zab (by omega),zC,zF,jq.ng,jy (by omega)];refine hR (m-1) _ _ _ _ _ _ _ (by omega) ⟨i+1,by congr 1,by omega,?_,rfl,rfl⟩;rw [Zan,hx,Zcm,Zbf,Zbo];exact fun q=>q.elim hn e
 ·rw [Zab (by omega),zC,zZ,yH,zA,jq.sW];simp only [zJ,zT];rw [jq.ret];rw [Zad (by omega)] at hn;exact hK _ ⟨fun q=>by omega,fun q=>absurd q hn⟩
theorem zuk {h0 h:T Blk} {nx p:Pa} {L:List Ob} {k x:Nat} {o:Option Pa} {l:List Nat} {K:Kw Prop} (H:Hp h0 h nx L) (hk:L[k]? = some (.gro o 1 l.length (l.map fun p=>I ((p:Nat):Int)))) (hl:l.length<=1000) (hK:K (.bool (decide (x∈l))) h nx=.ok True):(CS Tryz.prog B).fn 182 p [vz o 1 l.length,I (x:Int)] h nx K=.ok True:=by
 refine zP zS jA 2000 fun hf => ?_;rw [fD.go,fD.t3,zA,fD.jm,zA,fD.jl];refine zrl H hk hl fun z hz => ?_;rw [pz];simp only [zJ,zT];rw [fD.ret];have:decide (0<=z)=decide (x∈l):=decide_eq_decide.2 hz;rw [this];exact hK
def basF (c:Nat):List (List Rat×Nat)->List Rat->List Rat
 | [],b=>b
 |(q,p)::l,b=>basF c l (b.set p (-at' q c))
theorem zeb (c:Nat) (q:List Rat) (p:Nat):∀ (l:List (List Rat×Nat)) (b:List Rat),basF c (l++[(q,p)]) b=(basF c l b).set p (-at' q c)
 | [],b=>rfl
 |(q',p')::l,b=>by rw [Zch,basF,zeb c q p l,basF]
theorem mA (c:Nat):∀ (l:List (List Rat×Nat)) (b:List Rat),(basF c l b).length=b.length
 | [],_=>rfl
 |(q,p)::l,b=>by rw [basF,mA c l,Zbp]
def wR (n c:Nat):List Rat:=(List.replicate n 0).set c 1
def oW (n:Nat) (Q:List (List Rat)) (ps:List Nat) (c:Nat):List Rat:=basF c (aY Q ps) (wR n c)
theorem vZ (n c:Nat):(wR n c).length=n:=by unfold wR;rw [Zbp,Zbi]
theorem zhn (n:Nat) (Q:List (List Rat)) (ps:List Nat) (c:Nat):(oW n Q ps c).length=n:=by unfold oW;rw [mA,vZ]
theorem zk3 (c j:Nat) {P:Rat->Prop}:∀ (l:List (List Rat×Nat)) (b:List Rat),(∀ x∈l,P (-at' x.1 c))->P (at' b j)->P (at' (basF c l b) j)
 | [],_,_,h=>h
 |(q,p)::l,b,hl,h=>by
  rw [basF];refine zk3 c j l _ (fun x hx=>hl x (Zau _ hx)) ?_;by_cases e:p=j
  ·by_cases hj:j<b.length
   ·rw [at',Zac,e,List.getElem?_set_self hj];exact hl (q,p) (Zal ..)
   ·rw [kN (by rw [Zbp];omega)]
    rwa [kN (by omega)] at h
  ·rw [at',Zac,List.getElem?_set_ne e,<- Zac];exact h
theorem zrm (n c j:Nat):at' (wR n c) j=0\/at' (wR n c) j=1:=by
 unfold wR;by_cases e:c=j
 ·by_cases hj:j<n
  ·right;rw [at',Zac,e,List.getElem?_set_self (by rw [Zbi];exact hj)];rfl
  ·left;exact kN (by rw [Zbp,Zbi];omega)
 ·left
  rw [at',Zac,List.getElem?_set_ne e];by_cases hj:j<n
  ·rw [List.getElem?_replicate,if_pos hj];rfl
  ·rw [List.getElem?_eq_none (by rw [Zbi];omega)];rfl
theorem Dn.neg {t M:Nat} {q:Rat} (h:Dn t M q):Dn t M (-q):=by
 obtain ⟨z,e,hz⟩:=h;exact ⟨-z,by rw [Zdr];grind,by omega⟩
theorem zul {n t M:Nat} {Q:List (List Rat)} {ps:List Nat} (hS:St n t M Q ps) (c j:Nat):Dn t M (at' (oW n Q ps c) j):=by
 unfold oW;refine zk3 (P:=Dn t M) c j _ _ (fun x hx => ?_) ?_
 ·exact (hS.den _ (Zes hx).1 c).neg
 ·rcases zrm n c j with e | e <;> rw [e]
  ·exact Dn.zero _ _
  ·exact Sg.dn (.inr (.inr rfl)) hS.tM
theorem bD:∀ (b g:List Rat) (p:Nat) (x:Rat),p<b.length->b.length=g.length->dot (b.set p x) g=dot b g+(x-at' b p)*at' g p
 | [],_,p,x,h,_=>by simp at h
 | y::b,[],p,x,h,h2=>by simp at h2
 | y::b,z::g,0,x,_,_=>by
  rw [Zbq,dot,dot];show _=_+(x-y)*z
  grind
 | y::b,z::g,p+1,x,h,h2=>by
  have ih:=bD b g p x (by simpa using h) (by simpa using h2);rw [Zeu,dot,dot,ih];show _=_+(x-at' b p)*at' g p
  grind
def sumA (c:Nat) (g:List Rat):List (List Rat×Nat)->Rat
 | []=>0
 |(q,p)::l=>at' g p*at' q c+sumA c g l
theorem zjj {b:List Rat} {p j:Nat} {x:Rat} (h:p≠j):at' (b.set p x) j=at' b j:=by
 rw [at',Zac,List.getElem?_set_ne h,<- Zac]
theorem zho {n c:Nat} {g:List Rat} (hg:g.length=n):∀ (l:List (List Rat×Nat)) (b:List Rat),b.length=n->(l.map (·.2)).Nodup->(∀ x∈l,x.2<n/\at' b x.2=0)->dot (basF c l b) g=dot b g-sumA c g l
 | [],b,_,_,_=>by rw [basF,sumA];grind
 |(q,p)::l,b,hb,hd,hz=>by
  obtain ⟨h1,h2⟩:=hz (q,p) (Zal ..);have h1:p<n:=h1;have h2:at' b p=0:=h2;rw [Zbr,Zdm] at hd;rw [basF,zho hg l _ (by rw [Zbp];exact hb) hd.2 (fun x hx => ?_),bD _ _ _ _ (by omega) (by omega),h2,sumA]
  ·grind
  ·obtain ⟨h3,h4⟩:=hz x (Zau _ hx);refine ⟨h3,?_⟩;rw [zjj (fun e=>hd.1 (List.mem_map.2 ⟨x,hx,e.symm⟩))];exact h4
end Go.Ev
namespace Go.Ev
open Go Go.Proofs
theorem jd {B:Nat}:dM Tryz.prog B Prop:=zcb mixed
variable {B:Nat}
theorem zc2 {a b:List Int} (ha:a.length<=1000000000):Pure Tryz.prog B 49 [encI a,encI b] (· = .bool (decide (a=b))):=by
 intro p h nx K hK;refine zP zS jd (a.length+2) fun hf => ?_;rw [F49.go];simp (disch:=omega) only [jy,xw,nU,ve,vk,ug,ni,bf,pz,zO,zQ,zD,zC,yN,yJ,yW,yM,yU,yL,yI,gM,jT,jM,jS,zX,yX,yK,zG,decide_true,decide_false,Zag,Zaj,jL];by_cases hl:a.length=b.length
 ·simp only [hl,decide_true,Zag,zC];refine F49.L2 (fun m z3 h' nx'=>∃ i:Nat,z3=I i/\m=a.length-i/\i<=a.length/\h'=h/\nx'=nx/\a.take i=b.take i) (m:=a.length) (by omega) ⟨0,rfl,by simp,by omega,rfl,rfl,by simp⟩ ?_;rintro m z2 z3 z5 z6 _ _ R ⟨i,rfl,rfl,hi,rfl,rfl,htk⟩ hR;simp (disch:=omega) only [jy,xw,nU,ve,vk,ug,ni,bf,pz,zO,zQ,zD,zC,yN,yJ,yW,yM,yU,yL,yI,gM,jT,jM,jS,zX,yX,yK,zG,decide_true,decide_false,Zag,Zaj,jL];by_cases hlt:i<a.length
  ·have h1:(i:Int)<a.length:=by omega
   have hb:i<b.length:=by omega
   simp only [h1,decide_true,zD];rw [bH rfl hlt,ldL (rJ (List.getElem?_eq_getElem hlt)),bH rfl hb,ldL (rJ (List.getElem?_eq_getElem hb))];simp (disch:=omega) only [jy,xw,nU,ve,vk,ug,ni,bf,pz,zO,zQ,zD,zC,yN,yJ,yW,yM,yU,yL,yI,gM,jT,jM,jS,zX,yX,yK,zG,decide_true,decide_false,Zag,Zaj,jL];by_cases he:a[i]=b[i]
   ·simp only [he,decide_true,Zag,zC];refine hR (a.length-(i+1)) _ _ _ _ _ _ (by omega) ⟨i+1,rfl,rfl,by omega,rfl,rfl,?_⟩;rw [Zan,Zan,htk,List.getElem?_eq_getElem hlt,List.getElem?_eq_getElem hb,he]
   ·simp only [he,decide_false,Zaj,zD];refine hK _ ?_ hf;rw [Zab];rintro rfl;exact he rfl
  ·have h1:¬ (i:Int)<a.length:=by omega
   simp only [h1,decide_false,zC];rw [F49.k9];refine hK _ ?_ hf;rw [Zad (by omega),Zad (by omega)] at htk;rw [Zaa htk]
 ·have h1:¬ (a.length:Int)=b.length:=by omega
  simp only [h1,decide_false,Zaj,zD];refine hK _ ?_ hf;rw [Zab];rintro rfl;exact hl rfl
end Go.Ev
namespace Go.Ev
open Go Go.Proofs
variable {B:Nat}
theorem qD (b:Bool) (e:Int):Pure Tryz.prog B 88 [.bool b,I e] (· = I (if b then e else 0)):=by
 intro p h nx K hK;refine zP zS jd 9 fun hf => ?_;rw [F88.go];cases b <;> simp (disch:=omega) only [jy,xw,nU,ve,vk,ug,ni,bf,pz,zO,zQ,zD,zC,yN,yJ,yW,yM,yU,yL,yI,gM,jT,jM,jS,zX,yX,yK,zG,decide_true,decide_false,Zag,Zaj,jL] <;> exact hK _ rfl hf
def uJ:List Int->Int
 | []=>0
 | e::l=>if e≠0 then e else uJ l
theorem vQ:∀ (l:List Int) (i:Nat),(∀ e∈l.take i,e=0)->uJ l=uJ (l.drop i)
 | l,0,_=>rfl
 | [],_+1,_=>rfl
 | e::l,i+1,h=>by
  have h0:e=0:=h e (by simp);rw [uJ,if_neg (by simp [h0]),List.drop_succ_cons];exact vQ l i fun x hx=>h x (by simp [hx])
theorem vR {l:List Int} (hl:l.length<=1000000):Pure Tryz.prog B 86 [encI l] (· = I (uJ l)):=by
 intro p h nx K hK;refine zP zS jd 10000000 fun hf => ?_;rw [F86.go];simp (disch:=omega) only [jy,xw,nU,ve,vk,ug,ni,bf,pz,zO,zQ,zD,zC,yN,yJ,yW,yM,yU,yL,yI,gM,jT,jM,jS,zX,yX,yK,zG,decide_true,decide_false,Zag,Zaj,jL];refine F86.L1 (fun m z5 h' nx'=>∃ i:Nat,z5=I i/\l.length-i=m/\i<=l.length/\h'=h/\nx'=nx/\∀ e∈l.take i,e=0) (m:=l.length) (by omega) ⟨0,rfl,rfl,by omega,rfl,rfl,by simp⟩ ?_;rintro m z1 z2 z5 z6 z7 _ _ R ⟨i,rfl,rfl,hi,rfl,rfl,htk⟩ hR;simp (disch:=omega) only [jy,xw,nU,ve,vk,ug,ni,bf,pz,zO,zQ,zD,zC,yN,yJ,yW,yM,yU,yL,yI,gM,jT,jM,jS,zX,yX,yK,zG,decide_true,decide_false,Zag,Zaj,jL];by_cases hlt:i<l.length
 ·simp only [show (i:Int)<(l.length:Int) by omega,decide_true,zD];have hx:l[i]? = some l[i]:=List.getElem?_eq_getElem hlt;rw [bH rfl hlt,ldL (rJ hx)];simp (disch:=omega) only [jy,xw,nU,ve,vk,ug,ni,bf,pz,zO,zQ,zD,zC,yN,yJ,yW,yM,yU,yL,yI,gM,jT,jM,jS,zX,yX,yK,zG,decide_true,decide_false,Zag,Zaj,jL];have hd:l.drop i=l[i]::l.drop (i+1):=Zax hlt;by_cases h0:l[i]=0
  ·simp only [h0,decide_true,Zag,zC];refine hR _ _ _ _ _ _ _ _ (by omega) ⟨i+1,rfl,rfl,by omega,rfl,rfl,fun e he => ?_⟩;rw [Zan,hx] at he;rcases List.mem_append.1 he with q | q
   ·exact htk e q
   ·simp at q;rw [q];exact h0
  ·simp only [h0,decide_false,Zaj,zD];refine hK _ ?_ hf;rw [vQ l i htk,hd,uJ,if_pos h0]
 ·simp only [show ¬ (i:Int)<(l.length:Int) by omega,decide_false,zC];rw [F86.k8];refine hK _ ?_ hf;rw [vQ l i htk,Zby (by omega)];rfl
theorem zrn {a b:List Int} (ha:a.length<=1000000000):Pure Tryz.prog B 177 [encI a,encI b] (· = .bool (decide (a=b))):=by
 intro p h nx K hK;refine zP zS jd (a.length+2) fun hf => ?_;rw [wu.go];simp (disch:=omega) only [jy,xw,nU,ve,vk,ug,ni,bf,pz,zO,zQ,zD,zC,yN,yJ,yW,yM,yU,yL,yI,gM,jT,jM,jS,zX,yX,yK,zG,decide_true,decide_false,Zag,Zaj,jL];by_cases hl:a.length=b.length
 ·simp only [hl,decide_true,Zag,zC];refine wu.L2 (fun m z6 h' nx'=>∃ i:Nat,z6=I i/\a.length-i=m/\i<=a.length/\h'=h/\nx'=nx/\a.take i=b.take i) (m:=a.length) (by omega) ⟨0,rfl,by simp,by omega,rfl,rfl,by simp⟩ ?_;rintro m z2 z3 z6 z7 z8 _ _ R ⟨i,rfl,rfl,hi,rfl,rfl,htk⟩ hR;simp (disch:=omega) only [jy,xw,nU,ve,vk,ug,ni,bf,pz,zO,zQ,zD,zC,yN,yJ,yW,yM,yU,yL,yI,gM,jT,jM,jS,zX,yX,yK,zG,decide_true,decide_false,Zag,Zaj,jL];by_cases hlt:i<a.length
  ·have hb:i<b.length:=by omega
   simp only [show (i:Int)<(b.length:Int) by omega,decide_true,zD];rw [bH rfl hlt,ldL (rJ (List.getElem?_eq_getElem hlt)),bH rfl hb,ldL (rJ (List.getElem?_eq_getElem hb))];simp (disch:=omega) only [jy,xw,nU,ve,vk,ug,ni,bf,pz,zO,zQ,zD,zC,yN,yJ,yW,yM,yU,yL,yI,gM,jT,jM,jS,zX,yX,yK,zG,decide_true,decide_false,Zag,Zaj,jL];by_cases he:a[i]=b[i]
   ·simp only [he,decide_true,Zag,zC];refine hR (a.length-(i+1)) _ _ _ _ _ _ _ (by omega) ⟨i+1,rfl,rfl,by omega,rfl,rfl,?_⟩;rw [Zan,Zan,htk,List.getElem?_eq_getElem hlt,List.getElem?_eq_getElem hb,he]
   ·simp only [he,decide_false,Zaj,zD];refine hK _ ?_ hf;rw [Zab];rintro rfl;exact he rfl
  ·simp only [show ¬ (i:Int)<(b.length:Int) by omega,decide_false,zC];rw [wu.k9];refine hK _ ?_ hf;rw [Zad (by omega),Zad (by omega)] at htk;rw [Zaa htk]
 ·have h1:¬ (a.length:Int)=b.length:=by omega
  simp only [h1,decide_false,Zaj,zD];refine hK _ ?_ hf;rw [Zab];rintro rfl;exact hl rfl
theorem zhp {h0 h:T Blk} {nx:Pa} {L:List Ob} {k:Nat} {x p:Pa} {l:List Int} {prev:List (List Int)} {K:Kw Prop} (H:Hp h0 h nx L) (hk:L[k]? = some (.arr x [encI l])) (hp:prev.length<=1000000) (hw:∀ q∈prev,q.length<=1000000)
  (hK:K (.bool (decide (l∈prev))) h nx=.ok True):(CS Tryz.prog B).fn 175 p [qp prev,.fn 176 (.of 176) [.ptr x 0]] h nx K=.ok True:=by
 refine jK (p:=.of 175) (K:=K) (zP zS jd 9 fun hf => ?_) fun _ _ _ _ q=>q;rw [eY.go];refine jK (p:=.of 245) (K:=fun v1 h2 n3=>zi .geq .int v1 (I 0) fun v4=>K v4 h2 n3) (zP zS jd 10000000 fun hf => ?_) fun _ _ _ _ q=>q;rw [qy.go];simp (disch:=omega) only [jy,xw,nU,ve,vk,ug,ni,bf,pz,zO,zQ,zD,zC,yN,yJ,yW,yM,yU,yL,yI,gM,jT,jM,jS,zX,yX,yK,zG,decide_true,decide_false,Zag,Zaj,jL];refine qy.L1 (fun m z5 h' nx'=>∃ i:Nat,z5=I i/\prev.length-i=m/\i<=prev.length/\h'=h/\nx'=nx/\l∉prev.take i) (m:=prev.length) (by omega) ⟨0,rfl,rfl,by omega,rfl,rfl,by simp⟩ ?_;rintro m z2 z3 z5 z6 z7 _ _ R ⟨i,rfl,rfl,hi,rfl,rfl,htk⟩ hR;simp (disch:=omega) only [jy,xw,nU,ve,vk,ug,ni,bf,pz,zO,zQ,zD,zC,yN,yJ,yW,yM,yU,yL,yI,gM,jT,jM,jS,zX,yX,yK,zG,decide_true,decide_false,Zag,Zaj,jL];by_cases hlt:i<prev.length
 ·simp only [show (i:Int)<(prev.length:Int) by omega,decide_true,zD];have hx:prev[i]? = some prev[i]:=List.getElem?_eq_getElem hlt;rw [bH rfl hlt,ldL (getT hx),vK];refine jK (p:=.of 176) (zP zS jd 9 fun hf => ?_) fun _ _ _ _ q=>q;show zR tbl 9 _ (Pa.of 176) [encI prev[i],.ptr x 0] _ _ _=_;rw [eH.go,H.load (k:=k) (i:=0) hk rfl];refine zrn (Zbj (hw _ (Zay hlt)) (by omega)) _ _ _ _ ?_;rintro _ rfl _;by_cases he:prev[i]=l
  ·simp only [he,decide_true,zD,pz,show (0:Int)<=(i:Int) by omega];rw [Zaa (he ▸ Zay hlt)] at hK;exact hK
  ·simp only [he,decide_false,zC];refine hR _ _ _ _ _ _ _ _ (by omega) ⟨i+1,rfl,rfl,by omega,rfl,rfl,fun q => ?_⟩;rw [Zan,hx] at q;rcases List.mem_append.1 q with q | q
   ·exact htk q
   ·simp at q;exact he q.symm
 ·simp only [show ¬ (i:Int)<(prev.length:Int) by omega,decide_false,zC];rw [qy.k8];rw [Zad (by omega)] at htk;rw [Zab htk] at hK;simp only [pz,show ¬ (0:Int) <= -1 by omega,decide_false];exact hK
def jD (cells:Int):Option Int->List Int->Int
 | _,[]=>0
 | p,c::l=>if c<0\/cells<=c then 10 else if p.any (fun q=>decide (c<=q)) then 11 else jD cells (some c) l
def jO (cells:Int) (prev:List (List Int)) (l:List Int):Int:=if l=[] then 12 else if jD cells none l≠0 then jD cells none l else if l∈prev then 9 else 0
def uE (cells:Int):List (List Int)->List (List Int)->Int
 | _,[]=>0
 | prev,l::r=>if jO cells prev l≠0 then jO cells prev l else uE cells (prev++[l]) r
def jJ (cells:Int) (lines:List (List Int)):Int:=if cells<1\/256<cells then 3 else if 128<lines.length then 5 else uE cells [] lines
def pv (l:List Int) (k:Nat):Option Int:=if k=0 then none else l[k-1]?
theorem pL {l:List Int} {k:Nat} (h:k<l.length):pv l (k+1)=some l[k]:=by simp [pv,h]
theorem zum {cells a b:Int} {lines:List (List Int)} (hb:b<=1000000):Pure Tryz.prog B 16 [.agg [I cells,qp lines],I a,I b] (· = .bool (decide ((lines.length:Int)<=b/\∀ l∈lines,(l.length:Int)<=a))):=by
 refine yB fun h nx K H0 hK=>zP zS jd 10000000 fun hf => ?_;rw [F16.go];refine H0.box (l:=[I cells,qp lines]) rfl fun bx h1 nx1 H1 => ?_;rw [sFx,H1.load (k:=0) (i:=0+1) rfl rfl];simp (disch:=omega) only [jy,xw,nU,ve,vk,ug,ni,bf,pz,zO,zQ,zD,zC,yN,yJ,yW,yM,yU,yL,yI,gM,jT,jM,jS,zX,yX,yK,zG,decide_true,decide_false,Zag,Zaj,jL];have ret:∀ v:Bool,v=decide ((lines.length:Int)<=b/\∀ l∈lines,(l.length:Int)<=a)->K (.bool v) h1 nx1=.ok True:=fun v hv=>by rw [hv];exact hK _ _ _ _ _ H1 (zY rfl) rfl
 by_cases hlen:b<(lines.length:Int)
 ·simp only [hlen,decide_true,zD];refine ret _ ?_;rw [Zab];rintro ⟨q,_⟩;omega
 simp only [hlen,decide_false,zC];refine F16.L2 (fun m z5 h' nx'=>∃ i:Nat,z5=I i/\lines.length-i=m/\i<=lines.length/\h'=h1/\nx'=nx1/\∀ l∈lines.take i,(l.length:Int)<=a) (m:=lines.length) (by omega) ⟨0,rfl,rfl,by omega,rfl,rfl,by simp⟩ ?_;rintro m z4 z5 z7 z8 _ _ R ⟨i,rfl,rfl,hi,rfl,rfl,htk⟩ hR;rw [sFx,H1.load (k:=0) (i:=0+1) rfl rfl];simp (disch:=omega) only [jy,xw,nU,ve,vk,ug,ni,bf,pz,zO,zQ,zD,zC,yN,yJ,yW,yM,yU,yL,yI,gM,jT,jM,jS,zX,yX,yK,zG,decide_true,decide_false,Zag,Zaj,jL];by_cases hlt:i<lines.length
 ·simp only [show (i:Int)<(lines.length:Int) by omega,decide_true,zD];have hx:lines[i]? = some lines[i]:=List.getElem?_eq_getElem hlt;rw [sFx,H1.load (k:=0) (i:=0+1) rfl rfl,bH rfl hlt,ldL (getT hx)];simp (disch:=omega) only [jy,xw,nU,ve,vk,ug,ni,bf,pz,zO,zQ,zD,zC,yN,yJ,yW,yM,yU,yL,yI,gM,jT,jM,jS,zX,yX,yK,zG,decide_true,decide_false,Zag,Zaj,jL];by_cases hw:a<(lines[i].length:Int)
  ·simp only [hw,decide_true,zD];refine ret _ ?_;rw [Zab];rintro ⟨_,q⟩;have:=q _ (Zay hlt);omega
  ·simp only [hw,decide_false,zC];refine hR _ _ _ _ _ _ _ (by omega) ⟨i+1,rfl,rfl,by omega,rfl,rfl,fun l hl => ?_⟩;rw [Zan,hx] at hl;rcases List.mem_append.1 hl with q | q
   ·exact htk l q
   ·simp at q;rw [q];omega
 ·simp only [show ¬ (i:Int)<(lines.length:Int) by omega,decide_false,zC];rw [F16.k9];rw [Zad (by omega)] at htk;refine ret _ ?_;rw [Zaa ⟨by omega,htk⟩]
theorem zmf {prev:List (List Int)} {l:List Int} (hp:prev.length<=1000000) (hw:∀ q∈prev,q.length<=1000000000):Pure Tryz.prog B 90 [qp prev,encI l] (· = .bool (decide (l∈prev))):=by
 intro p h nx K hK;refine zP zS jd 10000000 fun hf => ?_;rw [F90.go];refine F90.L1 (fun m z3 h' nx'=>∃ i:Nat,z3=I i/\prev.length-i=m/\i<=prev.length/\h'=h/\nx'=nx/\l∉prev.take i) (m:=prev.length) (by omega) ⟨0,rfl,rfl,by omega,rfl,rfl,by simp⟩ ?_;rintro m z2 z3 z4 z5 _ _ R ⟨i,rfl,rfl,hi,rfl,rfl,htk⟩ hR;simp (disch:=omega) only [jy,xw,nU,ve,vk,ug,ni,bf,pz,zO,zQ,zD,zC,yN,yJ,yW,yM,yU,yL,yI,gM,jT,jM,jS,zX,yX,yK,zG,decide_true,decide_false,Zag,Zaj,jL];by_cases hlt:i<prev.length
 ·simp only [show (i:Int)<(prev.length:Int) by omega,decide_true,zD];have hx:prev[i]? = some prev[i]:=List.getElem?_eq_getElem hlt;rw [bH rfl hlt,ldL (getT hx)];refine zc2 (hw _ (Zay hlt)) _ _ _ _ ?_;rintro _ rfl _;by_cases he:prev[i]=l
  ·simp only [he,decide_true,zD];refine hK _ ?_ hf;rw [Zaa (he ▸ Zay hlt)]
  ·simp only [he,decide_false,zC];refine hR _ _ _ _ _ _ _ (by omega) ⟨i+1,rfl,rfl,by omega,rfl,rfl,fun q => ?_⟩;rw [Zan,hx] at q;rcases List.mem_append.1 q with q | q
   ·exact htk q
   ·simp at q;exact he q.symm
 ·simp only [show ¬ (i:Int)<(prev.length:Int) by omega,decide_false,zC];rw [F90.k8];rw [Zad (by omega)] at htk;refine hK _ ?_ hf;rw [Zab htk]
theorem zk4 {n i:Nat} {l:List AV} {op:AV->OP} (hn:1<=n) (hi:i<=n):kZ 1 (.lst 1 n l) none (some (I (i:Int))) none op=op (.lst 1 i (l.take i)):=by
 show (bif Nat.beq 1 1&&Nat.ble 1 n then (match bnd (some (I (i:Int))) n n with | none=>Out.no 17 | some h=>match bnd none h 0 with | none=>.no 17 | some q=>op (.lst 1 (h-q) ((l.drop (q*1)).take ((h-q)*1)))) else .no 17)=_;rw [Zaf hn];have:bnd (some (I (i:Int))) n n=some i:=by
  show (bif Nat.ble i n then some i else none)=_;rw [Zaf hi];rfl
 rw [this];show op (.lst 1 (i-0) ((l.drop (0*1)).take ((i-0)*1)))=_;simp
theorem zro {cells:Int} {lines:List (List Int)} (hw:∀ q∈lines,q.length<=1000000):Pure Tryz.prog B 19 [.agg [I cells,qp lines]] (· = I (jJ cells lines)):=by
 refine yB fun h nx K H0 hK=>zP zS jd 10000000 fun hf => ?_;rw [F19.go];refine H0.box (l:=[I cells,qp lines]) rfl fun bx h1 nx1 H1 => ?_;rw [sFx,H1.load (k:=0) (i:=0) rfl rfl];have ret:∀ v:Int,v=jJ cells lines->K (I v) h1 nx1=.ok True:=fun v hv=>by rw [hv];exact hK _ _ _ _ _ H1 (zY rfl) rfl
 by_cases hc:cells<1\/256<cells
 ·have hv:(3:Int)=jJ cells lines:=by rw [jJ,if_pos hc]
  by_cases c1:cells<1
  ·simp only [ug,c1,decide_true,yW,zO,zD];exact ret 3 hv
  ·simp only [ug,c1,decide_false,yJ];rw [sFx,H1.load (k:=0) (i:=0) rfl rfl];simp only [bf,show (256:Int)<cells by omega,decide_true,zQ,zD];exact ret 3 hv
 simp only [ug,show ¬ cells<1 by omega,decide_false,yJ];rw [sFx,H1.load (k:=0) (i:=0) rfl rfl];simp only [bf,show ¬ (256:Int)<cells by omega,decide_false,zQ,zC];rw [sFx,H1.load (k:=0) (i:=0+1) rfl rfl];simp (disch:=omega) only [jy,xw,nU,ve,vk,ug,ni,bf,pz,zO,zQ,zD,zC,yN,yJ,yW,yM,yU,yL,yI,gM,jT,jM,jS,zX,yX,yK,zG,decide_true,decide_false,Zag,Zaj,jL];by_cases hm:128<lines.length
 ·simp only [show (128:Int)<(lines.length:Int) by omega,decide_true,zD];exact ret 5 (by rw [jJ,if_neg hc,if_pos hm])
 simp only [show ¬ (128:Int)<(lines.length:Int) by omega,decide_false,zC];have hs:jJ cells lines=uE cells [] lines:=by rw [jJ,if_neg hc,if_neg hm]
 refine F19.L3 (fun m z3 h' nx'=>∃ i:Nat,z3=I i/\lines.length-i=m/\i<=lines.length/\h'=h1/\nx'=nx1/\jJ cells lines=uE cells (lines.take i) (lines.drop i)) (m:=lines.length) (by omega) ⟨0,rfl,rfl,by omega,rfl,rfl,by simpa using hs⟩ ?_;rintro m z2 z3 z4 z5 z8 z9 z10 z11 z12 z13 h1 nx1 R ⟨i,rfl,rfl,hi,rfl,rfl,he⟩ hR;rw [sFx,H1.load (k:=0) (i:=0+1) rfl rfl];simp (disch:=omega) only [jy,xw,nU,ve,vk,ug,ni,bf,pz,zO,zQ,zD,zC,yN,yJ,yW,yM,yU,yL,yI,gM,jT,jM,jS,zX,yX,yK,zG,decide_true,decide_false,Zag,Zaj,jL];by_cases hlt:i<lines.length
 case neg =>
  simp only [show ¬ (i:Int)<(lines.length:Int) by omega,decide_false,zC];rw [F19.k20];exact ret 0 (by rw [he,Zby (by omega)];rfl)
 simp only [show (i:Int)<(lines.length:Int) by omega,decide_true,zD];obtain ⟨l,hx⟩:∃ l,lines[i]? = some l:=⟨_,List.getElem?_eq_getElem hlt⟩;have hmem:=Zae hx;have hd:lines.drop i=l::lines.drop (i+1):=by
  rw [Zax hlt];rw [List.getElem?_eq_getElem hlt] at hx;rw [Option.some.inj hx]
 have htake:lines.take (i+1)=lines.take i++[l]:=by rw [Zan,hx];rfl
 rw [sFx,H1.load (k:=0) (i:=0+1) rfl rfl,bH rfl hlt,ldL (getT hx)];simp (disch:=omega) only [jy,xw,nU,ve,vk,ug,ni,bf,pz,zO,zQ,zD,zC,yN,yJ,yW,yM,yU,yL,yI,gM,jT,jM,jS,zX,yX,yK,zG,decide_true,decide_false,Zag,Zaj,jL];have hlw:=hw l hmem;have zrp:jO cells (lines.take i) l≠0->jJ cells lines=jO cells (lines.take i) l:=fun h=>by rw [he,hd,uE,if_pos h]
 by_cases h0:l.length=0
 ·simp only [show (l.length:Int)=0 by omega,decide_true,zD];have hl0:l=[]:=Zbu h0;have e12:jO cells (lines.take i) l=12:=by rw [jO,if_pos hl0]
  exact ret 12 (by rw [zrp (by rw [e12];decide),e12])
 simp only [show ¬ (l.length:Int)=0 by omega,decide_false,zC];have hl0:l≠[]:=fun q=>h0 (by rw [q];rfl);have hcell:jD cells none l≠0->jJ cells lines=jD cells none l:=fun h=>by
  have e:jO cells (lines.take i) l=jD cells none l:=by rw [jO,if_neg hl0,if_pos h]
  rw [zrp (by rw [e];exact h),e]
 refine F19.L10 (fun m z5 h' nx'=>∃ k:Nat,z5=I k/\l.length-k=m/\k<=l.length/\h'=h1/\nx'=nx1/\jD cells none l=jD cells (pv l k) (l.drop k)) (m:=l.length) (by omega) ⟨0,rfl,rfl,by omega,rfl,rfl,rfl⟩ ?_;rintro m y2 y5 y10 y11 y12 h1 nx1 R2 ⟨k,rfl,rfl,hk,rfl,rfl,hce⟩ hR2;simp (disch:=omega) only [jy,xw,nU,ve,vk,ug,ni,bf,pz,zO,zQ,zD,zC,yN,yJ,yW,yM,yU,yL,yI,gM,jT,jM,jS,zX,yX,yK,zG,decide_true,decide_false,Zag,Zaj,jL];by_cases hkt:k<l.length
 case neg =>
  simp only [show ¬ (k:Int)<(l.length:Int) by omega,decide_false,zC];have hz:jD cells none l=0:=by rw [hce,Zby (by omega)];rfl
  rw [F19.k18,sFx,H1.load (k:=0) (i:=0+1) rfl rfl,zk4 (by omega) (by omega)];have ep:AV.lst 1 i ((lines.map encI).take i)=qp (lines.take i):=by
   rw [<- Zfd];simp [qp,Zbz (Nat.le_of_lt hlt)]
  rw [ep];refine zmf (by rw [Zas];omega) (fun q hq=>Zbj (hw q (Zcx hq)) (by omega)) _ _ _ _ ?_;rintro _ rfl _;by_cases hin:l∈lines.take i
  ·simp only [hin,decide_true,zD];have e9:jO cells (lines.take i) l=9:=by rw [jO,if_neg hl0,if_neg (by rw [hz];simp),if_pos hin]
   exact ret 9 (by rw [zrp (by rw [e9];decide),e9])
  ·simp only [hin,decide_false,zC];rw [F19.k19,jy (by omega)];have e0:jO cells (lines.take i) l=0:=by rw [jO,if_neg hl0,if_neg (by rw [hz];simp),if_neg hin]
   refine hR _ _ _ _ _ _ _ _ _ _ _ _ _ (by omega) ⟨i+1,rfl,rfl,by omega,rfl,rfl,?_⟩;rw [he,hd,uE,if_neg (by rw [e0];simp),htake]
 simp only [show (k:Int)<(l.length:Int) by omega,decide_true,zD];have hxk:l[k]? = some l[k]:=List.getElem?_eq_getElem hkt;have hdk:l.drop k=l[k]::l.drop (k+1):=Zax hkt;rw [bH rfl hkt,ldL (rJ hxk)];by_cases hbad:l[k]<0\/cells<=l[k]
 ·have e10:jD cells none l=10:=by rw [hce,hdk,jD,if_pos hbad]
  have fin:=ret 10 (by rw [hcell (by rw [e10];decide),e10]);by_cases hneg:l[k]<0
  ·simp only [ug,hneg,decide_true,yW,zO,zD];exact fin
  ·simp only [ug,hneg,decide_false,yJ];rw [bH rfl hkt,ldL (rJ hxk),sFx,H1.load (k:=0) (i:=0) rfl rfl];simp only [pz,show cells<=l[k] by omega,decide_true,zQ,zD];exact fin
 simp only [ug,show ¬ l[k]<0 by omega,decide_false,yJ];rw [bH rfl hkt,ldL (rJ hxk),sFx,H1.load (k:=0) (i:=0) rfl rfl];simp only [pz,show ¬ cells<=l[k] by omega,decide_false,zQ,zC];rw [F19.k16];have next:∀ z12,(pv l k).any (fun q=>decide (l[k]<=q))=false->R2 (F19.fr (.agg [I cells,qp lines]) (.ptr bx 0) y2 (I i) (encI l) (I ((k:Int)+1)) (.bool false) (.bool false) (.bool true) (.bool false) (.bool true) (.bool false) z12 z13) h1 nx1=.ok True:=fun z12 hany=>by
  refine hR2 _ _ _ _ _ _ _ _ (by omega) ⟨k+1,rfl,rfl,by omega,rfl,rfl,?_⟩;rw [hce,hdk,jD,if_neg hbad,hany];simp [pL hkt]
 by_cases hk0:0<k
 ·obtain ⟨k,rfl⟩:∃ j,k=j+1:=⟨k-1,by omega⟩;have hk1:k<l.length:=by omega
  have hxk1:l[k]? = some l[k]:=List.getElem?_eq_getElem hk1;simp only [bf,show (0:Int)<((k+1:Nat):Int) by omega,decide_true,yN];rw [bH rfl hkt,ldL (rJ hxk),xw (by omega),bH (i:=k) (by omega) hk1,ldL (rJ hxk1)];rw [pL hk1] at next;by_cases hle:l[k+1]<=l[k]
  ·simp only [ni,hle,decide_true,zO,zD];have e11:jD cells none l=11:=by rw [hce,hdk,jD,if_neg hbad,pL hk1,if_pos (by simp [hle])]
   exact ret 11 (by rw [hcell (by rw [e11];decide),e11])
  ·simp only [ni,hle,decide_false,zO,zC];rw [F19.k17,jy (by omega)];exact next _ (by simp [hle])
 ·obtain rfl:k=0:=by omega
  simp only [bf,show ¬ (0:Int)<((0:Nat):Int) by omega,decide_false,yM,zQ,zC];rw [F19.k17,jy (by omega)];exact next _ (by simp [pv])
theorem wY {P:Program} {f:Nat} {p id:Pa} {h0 h:T Blk} {nx:Pa} {L:List Ob} {k:Nat} {l:List Int} {K:Kw Prop} {Q:AV->Prop} (H:Hp h0 h nx L) (hk:L[k]? = some (.arr id (l.map I))) (hq:∀ B,Pure P B f [encI l] Q) (hpl:∀ v,Q v->Plain v)
  (hK:∀ v,Q v->K v h nx=.ok True):(CS P B).fn f p [.sl id 0 l.length (some l.length) 1] h nx K=.ok True :=
 zgz (.cons (uj.frz (H.own _ (Zae hk)) (T.nT _ id) (Zah _) (by simp) fun v hv=>by obtain ⟨x,_,rfl⟩:=List.mem_map.1 hv;rfl) .nil) (by
  have:=mT l;simp only [nns,fP.nn this,Bool.and_self]) hq hpl fun v hv _=>hK v hv
theorem zrq {h:T Blk} {nx:Pa} {l:List Int} {g:Nat} {p q:Pa} {cap:List AV} {pr:Int->Bool} {K:Kw Prop} (hl:l.length<=1000000) (hcl:∀ x∈l,∀ K:Kw Prop,K (.bool (pr x)) h nx=.ok True->(CS Tryz.prog B).fn g q (I x::cap) h nx K=.ok True)
  (hK:K (.bool (l.any pr)) h nx=.ok True):(CS Tryz.prog B).fn 173 p [encI l,.fn g q cap] h nx K=.ok True:=by
 refine jK (p:=.of 173) (K:=K) (zP zS jd 9 fun hf => ?_) fun _ _ _ _ q=>q;rw [oq.go];refine jK (p:=.of 184) (K:=fun v1 h2 n3=>zi .geq .int v1 (I 0) fun v4=>K v4 h2 n3) (zP zS jd 10000000 fun hf => ?_) fun _ _ _ _ q=>q;rw [qm.go];simp (disch:=omega) only [jy,xw,nU,ve,vk,ug,ni,bf,pz,zO,zQ,zD,zC,yN,yJ,yW,yM,yU,yL,yI,gM,jT,jM,jS,zX,yX,yK,zG,decide_true,decide_false,Zag,Zaj,jL];refine qm.L1 (fun m z5 h' nx'=>∃ i:Nat,z5=I i/\l.length-i=m/\i<=l.length/\h'=h/\nx'=nx/\(l.take i).any pr=false) (m:=l.length) (by omega) ⟨0,rfl,rfl,by omega,rfl,rfl,by simp⟩ ?_;rintro m z2 z3 z5 z6 z7 _ _ R ⟨i,rfl,rfl,hi,rfl,rfl,htk⟩ hR;simp (disch:=omega) only [jy,xw,nU,ve,vk,ug,ni,bf,pz,zO,zQ,zD,zC,yN,yJ,yW,yM,yU,yL,yI,gM,jT,jM,jS,zX,yX,yK,zG,decide_true,decide_false,Zag,Zaj,jL];by_cases hlt:i<l.length
 ·simp only [show (i:Int)<(l.length:Int) by omega,decide_true,zD];have hx:l[i]? = some l[i]:=List.getElem?_eq_getElem hlt;rw [bH rfl hlt,ldL (rJ hx),vK];refine hcl _ (Zay hlt) _ ?_;cases he:pr l[i] with
  | true =>
   simp only [zD,pz,show (0:Int)<=(i:Int) by omega,decide_true];rw [List.any_eq_true.2 ⟨_,Zay hlt,he⟩] at hK;exact hK
  | false =>
   simp only [zC];refine hR _ _ _ _ _ _ _ _ (by omega) ⟨i+1,rfl,rfl,by omega,rfl,rfl,?_⟩;rw [Zan,hx,List.any_append,htk];simp [he]
 ·simp only [show ¬ (i:Int)<(l.length:Int) by omega,decide_false,zC];rw [qm.k8];rw [Zad (by omega)] at htk;rw [htk] at hK;simp only [pz,show ¬ (0:Int) <= -1 by omega,decide_false];exact hK
theorem zk5 {a b:Int} {l:List Int} (hl:l.length<=1000000):Pure Tryz.prog B 87 [I a,I b,encI l] (· = I (if l.any (fun x=>decide (x<a)||decide (b<x)) then 3 else 0)):=by
 refine yB fun h nx K H0 hK=>zP zS jd 1000 fun hf => ?_;rw [F87.go];refine H0.box (l:=[I a]) rfl fun x1 h1 nx1 H1 => ?_;refine H1.box (l:=[I b]) rfl fun x2 h2 nx2 H2 => ?_;refine zrq (pr:=fun x=>decide (x<a)||decide (b<x)) hl (fun x _ K hK => ?_) ?_
 ·refine jK (p:=.of 174) (K:=K) (zP zS jd 9 fun hf => ?_) fun _ _ _ _ q=>q;show zR tbl 9 _ (Pa.of 174) [I x,.ptr x1 0,.ptr x2 0] _ _ _=_;rw [oh.go,H2.load (k:=1) (i:=0) rfl rfl];by_cases c:x<a
  ·simp only [ug,c,decide_true,yW,zO];simpa [c] using hK
  ·simp only [ug,c,decide_false,yJ];rw [H2.load (k:=0) (i:=0) rfl rfl];simp only [bf,zQ];simpa [c] using hK
 ·refine qD _ _ _ _ _ _ ?_;rintro _ rfl _;exact hK _ _ _ _ _ H2 (zY rfl) rfl
theorem zun {cells:Int} {lines:List (List Int)} {i:Nat} {l:List Int} (hi:lines[i]? = some l) (hn:lines.length<=1000000) (hw:∀ q∈lines,q.length<=1000000):Pure Tryz.prog B 89 [.agg [I cells,qp lines],I i] (· = I (jO cells (lines.take i) l)):=by
 refine yB fun h nx K H0 hK=>zP zS jd 10000000 fun hf => ?_;have hlt:i<lines.length:=(List.getElem?_eq_some_iff.1 hi).1;have hlw:=hw l (Zae hi);rw [F89.go];refine H0.box (l:=[I cells,qp lines]) rfl fun bx h1 nx1 H1 => ?_;rw [sFx,H1.load (k:=0) (i:=0+1) rfl rfl,bH rfl hlt,ldL (getT hi)];refine H1.alloc fun x h2 nx2 H2 => ?_;refine H2.store (k:=0) rfl (by decide) rfl fun h3 H3 => ?_;rw [H3.load (k:=0) (i:=0) rfl rfl];simp (disch:=omega) only [jy,xw,nU,ve,vk,ug,ni,bf,pz,zO,zQ,zD,zC,yN,yJ,yW,yM,yU,yL,yI,gM,jT,jM,jS,zX,yX,yK,zG,decide_true,decide_false,Zag,Zaj,jL];have ret:∀ (v:Int) h' nx' L,v=jO cells (lines.take i) l->Hp h h' nx' L->K (I v) h' nx'=.ok True:=fun v h' nx' L hv H'=>by rw [hv];exact hK _ _ _ _ _ H' (zY rfl) rfl
 by_cases h0:l.length=0
 ·simp only [show (l.length:Int)=0 by omega,decide_true,zD];have hl0:l=[]:=Zbu h0;exact ret 12 _ _ _ (by rw [jO,if_pos hl0]) H3
 simp only [show ¬ (l.length:Int)=0 by omega,decide_false,zC];have hl0:l≠[]:=fun q=>h0 (by rw [q];rfl);have hcell:jD cells none l≠0->jD cells none l=jO cells (lines.take i) l:=fun h=>by rw [jO,if_neg hl0,if_pos h]
 rw [H3.load (k:=0) (i:=0) rfl rfl];simp (disch:=omega) only [jy,xw,nU,ve,vk,ug,ni,bf,pz,zO,zQ,zD,zC,yN,yJ,yW,yM,yU,yL,yI,gM,jT,jM,jS,zX,yX,yK,zG,decide_true,decide_false,Zag,Zaj,jL];refine F89.L2 (fun m z11 h' nx'=>∃ k:Nat,z11=I k/\l.length-k=m/\k<=l.length/\Hp h h' nx' [.arr x [encI l],.arr bx [I cells,qp lines]]/\jD cells none l=jD cells (pv l k) (l.drop k)) (m:=l.length) (by omega) ⟨0,rfl,rfl,by omega,H3,rfl⟩ ?_;rintro m z3 z5 z6 z7 z11 z12 z13 h1 nx1 R ⟨k,rfl,rfl,hk,H1,hce⟩ hR;simp (disch:=omega) only [jy,xw,nU,ve,vk,ug,ni,bf,pz,zO,zQ,zD,zC,yN,yJ,yW,yM,yU,yL,yI,gM,jT,jM,jS,zX,yX,yK,zG,decide_true,decide_false,Zag,Zaj,jL];by_cases hkt:k<l.length
 case neg =>
  simp only [show ¬ (k:Int)<(l.length:Int) by omega,decide_false,zC];have hz:jD cells none l=0:=by rw [hce,Zby (by omega)];rfl
  rw [F89.k9,sFx,H1.load (k:=1) (i:=0+1) rfl rfl,zk4 (by omega) (by omega)];have ep:AV.lst 1 i ((lines.map encI).take i)=qp (lines.take i):=by
   rw [<- Zfd];simp [qp,Zbz (Nat.le_of_lt hlt)]
  rw [ep];refine zhp H1 (k:=0) rfl (by rw [Zas];omega) (fun q hq=>hw q (Zcx hq)) ?_;refine qD _ _ _ _ _ _ ?_;rintro _ rfl _;refine ret _ _ _ _ ?_ H1;have e9:jO cells (lines.take i) l=if l∈lines.take i then 9 else 0:=by rw [jO,if_neg hl0,if_neg (by rw [hz];simp)]
  rw [e9];by_cases hin:l∈lines.take i <;> simp [hin]
 simp only [show (k:Int)<(l.length:Int) by omega,decide_true,zD];have hxk:l[k]? = some l[k]:=List.getElem?_eq_getElem hkt;have hdk:l.drop k=l[k]::l.drop (k+1):=Zax hkt;rw [bH rfl hkt,ldL (rJ hxk)]
 have tail:∀ (b1 b2:Bool) (z:AV) (z':AV) (Z:AV->T Blk->Pa->Out Prop),b1=(decide (l[k]<0\/cells<=l[k]))->b2=(pv l k).any (fun q=>decide (l[k]<=q)) ->
   (∀ (e:Int) h' nx',e=(if l[k]<0\/cells<=l[k] then 10 else if (pv l k).any (fun q=>decide (l[k]<=q)) then 11 else 0)->Hp h h' nx' [.arr x [encI l],.arr bx [I cells,qp lines]]->Z (I e) h' nx'=.ok True) ->
   (CS Tryz.prog B).fn 88 (.of 88) [.bool b2,I 11] h1 nx1 (fun v22 h23 n24=>jU 1 2 [(I 0)] [(0,1,I (if b1 then 10 else 0)),(1,1,v22)] h23 n24 fun v25 h26 n27=>(CS Tryz.prog B).fn 86 (.of 86) [v25] h26 n27 Z)=.ok True:=by
  intro b1 b2 z z' Z e1 e2 hZ;refine qD _ _ _ _ _ _ ?_;rintro _ rfl _;refine H1.yu (l:=[I (if b1 then 10 else 0),I (if b2 then 11 else 0)]) rfl fun id h4 nx4 H4 => ?_;refine wY (l:=[if b1 then 10 else 0,if b2 then 11 else 0]) H4 (k:=0) rfl (fun B=>vR (by simp)) (fun v hv=>by rw [hv];exact .int _ _) ?_;rintro _ rfl;refine hZ _ _ _ ?_ H4.drop;subst e1 e2;by_cases c1:l[k]<0\/cells<=l[k]
  ·simp [c1,uJ]
  ·cases c2:(pv l k).any (fun q=>decide (l[k]<=q)) <;> simp [c1,uJ]
 have fin:∀ (e:Int) h' nx',e=(if l[k]<0\/cells<=l[k] then 10 else if (pv l k).any (fun q=>decide (l[k]<=q)) then 11 else 0)->Hp h h' nx' [.arr x [encI l],.arr bx [I cells,qp lines]] ->
   (zi .neq .int (I e) (I 0) fun v31=>yF v31 (K (I e) h' nx') (R (F89.fr (.agg [I cells,qp lines]) (I i) (.ptr bx 0) z3 (.ptr x 0) (I k) (I l[k]) (I e) (.bool false) (encI l) (I l.length) (I ((k:Int)+1)) (.bool true) v31) h' nx'))=.ok True:=by
  intro e h' nx' he H';have hstep:jD cells none l=if e≠0 then e else jD cells (some l[k]) (l.drop (k+1)):=by
   rw [hce,hdk,jD,he];by_cases c1:l[k]<0\/cells<=l[k]
   ·simp [c1]
   ·cases c2:(pv l k).any (fun q=>decide (l[k]<=q)) <;> simp [c1]
  simp (disch:=omega) only [jy,xw,nU,ve,vk,ug,ni,bf,pz,zO,zQ,zD,zC,yN,yJ,yW,yM,yU,yL,yI,gM,jT,jM,jS,zX,yX,yK,zG,decide_true,decide_false,Zag,Zaj,jL];by_cases c:e=0
  ·simp only [c,decide_true,Zag,zC];refine hR _ _ _ _ _ _ _ _ _ _ (by omega) ⟨k+1,rfl,rfl,by omega,H',?_⟩;rw [hstep,if_neg (by simp [c]),pL hkt]
  ·simp only [c,decide_false,Zaj,zD];rw [if_pos c] at hstep;exact ret _ _ _ _ (by rw [<- hcell (by rw [hstep];exact c),hstep]) H'
 have mid:∀ b1:Bool,b1=decide (l[k]<0\/cells<=l[k]) ->
   (CS Tryz.prog B).fn 88 (.of 88) [.bool b1,I 10] h1 nx1 (fun v10 h11 n12 =>
    sG (.bool (decide (0<(k:Int)))) true (fun k=>zH (.ptr x 0) h11 k) fun v14=>sG (.bool (decide (0<(k:Int)))) true (fun q=>q (I (k:Int))) fun v15=>sG (.bool (decide (0<(k:Int)))) true (fun k=>zi .sub .int v15 (I 1) k) fun v16=>sG (.bool (decide (0<(k:Int)))) true (fun k=>zL 1 v14 v16 k) fun v17=>sG (.bool (decide (0<(k:Int)))) true (fun k=>zH v17 h11 k) fun v18 =>
    sG (.bool (decide (0<(k:Int)))) true (fun q=>q (I l[k])) fun v19=>sG (.bool (decide (0<(k:Int)))) true (fun k=>zi .geq .int v18 v19 k) fun v20=>yT (.bool (decide (0<(k:Int)))) v20 (.bool false) fun v21 =>
    (CS Tryz.prog B).fn 88 (.of 88) [v21,I 11] h11 n12 fun v22 h23 n24=>jU 1 2 [(I 0)] [(0,1,v10),(1,1,v22)] h23 n24 fun v25 h26 n27=>(CS Tryz.prog B).fn 86 (.of 86) [v25] h26 n27 fun v28 h29 n30 =>
    zi .neq .int v28 (I 0) fun v31=>yF v31 (K v28 h29 n30) (R (F89.fr (.agg [I cells,qp lines]) (I i) (.ptr bx 0) z3 (.ptr x 0) (I k) (I l[k]) v28 (.bool false) (encI l) (I l.length) (I ((k:Int)+1)) (.bool true) v31) h29 n30))=.ok True:=by
  intro b1 e1;refine qD _ _ _ _ _ _ ?_;rintro _ rfl _;by_cases ck:0<k
  ·obtain ⟨k,rfl⟩:∃ j,k=j+1:=⟨k-1,by omega⟩;have hk1:k<l.length:=by omega
   have hxk1:l[k]? = some l[k]:=List.getElem?_eq_getElem hk1;simp only [show (0:Int)<((k+1:Nat):Int) by omega,decide_true,yN,zO];rw [H1.load (k:=0) (i:=0) rfl rfl,xw (by omega),bH (i:=k) (by omega) hk1,ldL (rJ hxk1)];simp only [pz];exact tail _ _ .u .u _ e1 (by rw [pL hk1];rfl) fin
  ·obtain rfl:k=0:=by omega
   simp only [show ¬ (0:Int)<((0:Nat):Int) by omega,decide_false,yM,zQ];exact tail _ _ .u .u _ e1 rfl fin
 by_cases c:l[k]<0
 ·simp only [ug,c,decide_true,yW,zO];exact mid true (by simp [c])
 ·simp only [ug,c,decide_false,yJ,sFx];rw [H1.load (k:=1) (i:=0) rfl rfl];simp only [pz,zQ];exact mid _ (by simp [c])
theorem zw2 {cells:Int} {lines:List (List Int)} (hw:∀ q∈lines,q.length<=1000000):Pure Tryz.prog B 18 [.agg [I cells,qp lines]] (· = I (jJ cells lines)):=by
 refine yB fun h nx K H0 hK=>zP zS jd 10000000 fun hf => ?_;rw [F18.go];refine H0.box (l:=[I cells,qp lines]) rfl fun bx h1 nx1 H1 => ?_;rw [sFx,H1.load (k:=0) (i:=0) rfl rfl,sFx,H1.load (k:=0) (i:=0+1) rfl rfl];simp only [zX,bf];refine H1.yu (l:=[I cells]) rfl fun id h2 nx2 H2 => ?_;simp only [zG,zX];rw [H2.load (k:=1) (i:=0+1) rfl rfl];simp only [zG,sFx];refine zgz (args':=[I 1,I 256,encI [cells]]) (.cons (.int _ _) (.cons (.int _ _) (.cons (uj.frz (H2.own (.arr id [I cells]) (by simp)) (T.nT _ id) (Zah _) rfl (fun v hv=>by simp at hv;subst hv;rfl)) .nil))) rfl (fun B=>zk5 (l:=[cells]) (by simp)) (fun v hv=>by rw [hv];exact .int _ _) ?_;rintro _ rfl _;rw [H2.load (k:=1) (i:=0+1) rfl rfl];simp only [zG,zX];refine qD _ _ _ _ _ _ ?_;rintro _ rfl _;refine H2.yu (l:=[I (if [cells].any (fun x=>decide (x<1)||decide (256<x)) then 3 else 0),I (if decide (128<(lines.length:Int)) then 5 else 0)]) rfl fun id3 h3 nx3 H3 => ?_;refine wY (l:=[if [cells].any (fun x=>decide (x<1)||decide (256<x)) then 3 else 0,if decide (128<(lines.length:Int)) then 5 else 0]) H3 (k:=0) rfl (fun B=>vR (by simp)) (fun v hv=>by rw [hv];exact .int _ _) ?_;rintro _ rfl;have ret:∀ (v:Int) h' nx' L,v=jJ cells lines->Hp h h' nx' L->K (I v) h' nx'=.ok True:=fun v h' nx' L hv H'=>by rw [hv];exact hK _ _ _ _ _ H' (zY rfl) rfl
 have ef:uJ [if [cells].any (fun x=>decide (x<1)||decide (256<x)) then 3 else 0,if decide (128<(lines.length:Int)) then 5 else 0]=if cells<1\/256<cells then 3 else if 128<lines.length then 5 else 0:=by
  by_cases c:cells<1\/256<cells
  ·simp [uJ,c]
  ·by_cases c2:128<lines.length
   ·have:(128:Int)<(lines.length:Int):=by omega
    simp [uJ,c,c2,this]
   ·have:¬ (128:Int)<(lines.length:Int):=by omega
    simp [uJ,c,c2,this]
 rw [ef];simp only [vk];by_cases hc:cells<1\/256<cells
 ·simp only [hc,if_true];simp only [show ¬ (3:Int)=0 by omega,decide_false,Zaj,zD];exact ret 3 _ _ _ (by rw [jJ,if_pos hc]) H3
 simp only [hc,if_false];by_cases hm:128<lines.length
 ·simp only [hm,if_true];simp only [show ¬ (5:Int)=0 by omega,decide_false,Zaj,zD];exact ret 5 _ _ _ (by rw [jJ,if_neg hc,if_pos hm]) H3
 simp only [hm,if_false,decide_true,Zag,zC];rw [H3.load (k:=2) (i:=0+1) rfl rfl];simp only [zX];have hs:jJ cells lines=uE cells [] lines:=by rw [jJ,if_neg hc,if_neg hm]
 refine F18.L2 (fun m z8 h' nx'=>∃ i:Nat,z8=I i/\lines.length-i=m/\i<=lines.length/\Hp h h' nx' [.arr bx [I cells,qp lines]]/\jJ cells lines=uE cells (lines.take i) (lines.drop i)) (m:=lines.length) (by omega) ⟨0,rfl,rfl,by omega,H3.drop.drop,by simpa using hs⟩ ?_;rintro m z2 z4 z5 z8 z9 z10 h4 nx4 R ⟨i,rfl,rfl,hi,H4,he⟩ hR;simp (disch:=omega) only [jy,xw,nU,ve,vk,ug,ni,bf,pz,zO,zQ,zD,zC,yN,yJ,yW,yM,yU,yL,yI,gM,jT,jM,jS,zX,yX,yK,zG,decide_true,decide_false,Zag,Zaj,jL];by_cases hlt:i<lines.length
 case neg =>
  simp only [show ¬ (i:Int)<(lines.length:Int) by omega,decide_false,zC];rw [F18.k9];exact ret 0 _ _ _ (by rw [he,Zby (by omega)];rfl) H4
 simp only [show (i:Int)<(lines.length:Int) by omega,decide_true,zD];obtain ⟨l,hx⟩:∃ l,lines[i]? = some l:=⟨_,List.getElem?_eq_getElem hlt⟩;have hd:lines.drop i=l::lines.drop (i+1):=by
  rw [Zax hlt];rw [List.getElem?_eq_getElem hlt] at hx;rw [Option.some.inj hx]
 have htake:lines.take (i+1)=lines.take i++[l]:=by rw [Zan,hx];rfl
 rw [H4.zk (k:=0) (n:=2) rfl rfl];refine zun hx (by omega) hw _ _ _ _ ?_;rintro _ rfl _;simp only [vk];by_cases c:jO cells (lines.take i) l=0
 ·simp only [c,decide_true,Zag,zC];refine hR _ _ _ _ _ _ _ _ _ (by omega) ⟨i+1,rfl,rfl,by omega,H4,?_⟩;rw [he,hd,uE,if_neg (by rw [c];simp),htake]
 ·simp only [c,decide_false,Zaj,zD];exact ret _ _ _ _ (by rw [he,hd,uE,if_pos c]) H4
end Go.Ev
namespace Go.Ev
def AscL (cells:Nat) (l:List Int):Prop:=l≠[]/\l.Pairwise (· < ·)/\∀ c∈l,0<=c/\c<(cells:Int)
end Go.Ev
namespace Go.Ev
open Go Go.Proofs
variable {B:Nat}
theorem cells_ok {cells:Int}:∀ {l:List Int} {p:Option Int},jD cells p l=0->(∀ c∈l,0<=c/\c<cells)/\l.Pairwise (· < ·)/\∀ q,p=some q->∀ c∈l,q<c
 | [],_,_=>⟨by simp,.nil,by simp⟩
 | c::l,p,h=>by
  rw [jD] at h;by_cases c1:c<0\/cells<=c
  ·rw [if_pos c1] at h;cases h
  rw [if_neg c1] at h;cases c2:p.any (fun q=>decide (c<=q)) with
  | true=>rw [c2,if_pos rfl] at h;cases h
  | false =>
   rw [c2,if_neg (by simp)] at h;obtain ⟨h1,h2,h3⟩:=cells_ok h;have h4:=h3 c rfl;refine ⟨fun x hx => ?_,List.pairwise_cons.2 ⟨h4,h2⟩,fun q hq x hx => ?_⟩
   ·rcases List.mem_cons.1 hx with rfl | hx
    ·omega
    ·exact h1 x hx
   ·subst hq;simp at c2;rcases List.mem_cons.1 hx with rfl | hx
    ·exact c2
    ·have:=h4 x hx;omega
theorem zhq {cells:Int}:∀ {ls prev:List (List Int)},uE cells prev ls=0->∀ l∈ls,l≠[]/\jD cells none l=0
 | [],_,_,l,h=>by simp at h
 | a::ls,prev,h,l,hl=>by
  rw [uE] at h;by_cases c:jO cells prev a≠0
  ·rw [if_pos c] at h;exact absurd h c
  rw [if_neg c] at h;rcases List.mem_cons.1 hl with rfl | hl
  ·have c:jO cells prev l=0:=by simpa using c
   rw [jO] at c;by_cases c0:l=[]
   ·rw [if_pos c0] at c;cases c
   rw [if_neg c0] at c;refine ⟨c0,?_⟩;by_cases c1:jD cells none l≠0
   ·rw [if_pos c1] at c;exact c
   ·simpa using c1
  ·exact zhq h l hl
theorem zjk {cells:Int} {lines:List (List Int)} (h:jJ cells lines=0):∃ n:Nat,cells=n/\1<=n/\n<=256/\lines.length<=128/\∀ l∈lines,AscL n l:=by
 rw [jJ] at h;by_cases c1:cells<1\/256<cells
 ·rw [if_pos c1] at h;cases h
 rw [if_neg c1] at h;by_cases c2:128<lines.length
 ·rw [if_pos c2] at h;cases h
 rw [if_neg c2] at h;refine ⟨cells.toNat,by omega,by omega,by omega,by omega,fun l hl => ?_⟩;obtain ⟨h1,h2⟩:=zhq h l hl;obtain ⟨h3,h4,_⟩:=cells_ok h2;exact ⟨h1,h4,fun c hc=>by have:=h3 c hc;omega⟩
end Go.Ev
namespace Go.Ev
abbrev srt (l:List Int):List Int:=l.mergeSort fun x y=>decide (x<=y)
theorem zjl {l l':List Int} (hp:l'.Perm l) (hs:l'.Pairwise (· <= ·)):l'=srt l:=by
 refine (hp.trans (List.mergeSort_perm l _).symm).eq_of_pairwise (le:=(· <= ·)) ?_ hs ?_
 ·intro a b _ _ h1 h2;omega
 ·have:=List.pairwise_mergeSort (le:=fun x y:Int=>decide (x<=y)) (by intro a b c;simp;omega) (by intro a b;simp;omega) l;exact this.imp (by intro a b h;simpa using h)
theorem kS (l:List Int):(srt l).Perm l:=List.mergeSort_perm l _
structure Ins (l out:List Int) (i k:Nat):Prop where
 perm:out.Perm l
 ex:∃ (A:List Int) (x:Int) (B R:List Int),out=A++x::(B++R)/\A.length=k/\A.length+B.length=i/\(A++B).Pairwise (· <= ·)/\∀ b∈B,x<b
theorem Ins.swap {l out:List Int} {i k:Nat} (H:Ins l out i (k+1)) {a x:Int} (ha:out[k]? = some a) (hx:out[k+1]? = some x) (hlt:x<a):Ins l ((out.set (k+1) a).set k x) i k:=by
 obtain ⟨hp,A,x',B,R,rfl,hA,hi,hs,hb⟩:=H;obtain ⟨A,a',rfl⟩:∃ A' a',A=A'++[a']:=⟨A.dropLast,A.getLast (by intro q;rw [q] at hA;simp at hA),(List.dropLast_concat_getLast _).symm⟩;have hA':A.length=k:=by simpa using hA
 have e1:a'=a:=by
  rw [Zbg,List.getElem?_append_right (by omega),hA',Zdl] at ha;simpa using ha
 have e2:x'=x:=by
  rw [List.getElem?_append_right (by simp;omega)] at hx;simp [hA'] at hx;exact hx
 subst e1 e2;have e3:((A++[a']++x'::(B++R)).set (k+1) a').set k x'=A++x'::((a'::B)++R):=by
  have h1:(A++[a']++x'::(B++R)).set (k+1) a'=A++a'::a'::(B++R):=by
   rw [Zbg,Zdp _ _ (by omega),hA',show k+1-k=1 by omega];rfl
  rw [h1,Zdp _ _ (by omega),hA',Zdl];rfl
 rw [e3];refine ⟨List.Perm.trans ?_ hp,A,x',a'::B,R,rfl,hA',by simp at hi ⊢;omega,by simpa [Zbg] using hs,?_⟩
 ·rw [Zbg];refine List.Perm.append_left A ?_;exact List.Perm.swap _ _ _
 ·intro b hb';rcases List.mem_cons.1 hb' with rfl | q
  ·exact hlt
  ·exact hb b q
theorem Ins.done {l out:List Int} {i k:Nat} (H:Ins l out i k) (h:k=0\/∃ j a x,k=j+1/\out[j]? = some a/\out[k]? = some x/\¬ x<a):out.Perm l/\(out.take (i+1)).Pairwise (· <= ·):=by
 obtain ⟨hp,A,x,B,R,rfl,hA,hi,hs,hb⟩:=H;refine ⟨hp,?_⟩;have e:(A++x::(B++R)).take (i+1)=A++x::B:=by
  rw [show A++x::(B++R)=(A++x::B)++R by simp];exact List.take_left' (by simp;omega)
 rw [e];have hs':=List.pairwise_append.1 hs;refine List.pairwise_append.2 ⟨hs'.1,List.pairwise_cons.2 ⟨fun b hb'=>by have:=hb b hb';omega,hs'.2.1⟩,?_⟩;have key:∀ a∈A,a<=x:=by
  rcases h with rfl | ⟨j,a0,x0,rfl,h1,h2,h3⟩
  ·obtain rfl:A=[]:=Zbu hA;simp
  ·obtain ⟨A,a',rfl⟩:∃ A' a',A=A'++[a']:=⟨A.dropLast,A.getLast (by intro q;rw [q] at hA;simp at hA),(List.dropLast_concat_getLast _).symm⟩;have hA':A.length=j:=by simpa using hA
   have e1:a'=a0:=by
    rw [Zbg,List.getElem?_append_right (by omega),hA',Zdl] at h1;simpa using h1
   have e2:x=x0:=by
    rw [List.getElem?_append_right (by simp;omega)] at h2;simp [hA'] at h2;exact h2
   subst e1 e2;intro a ha;rcases List.mem_append.1 ha with q | q
   ·have:=(List.pairwise_append.1 hs'.1).2.2 a q a' (by simp);omega
   ·simp at q;omega
 intro a ha b hb';rcases List.mem_cons.1 hb' with rfl | q
 ·exact key a ha
 ·exact hs'.2.2 a ha b q
def incr (d:List Int) (c:Int):List Int:=d.set c.toNat (d.getD c.toNat 0+1)
@[simp] theorem zw3 (d:List Int) (c:Int):(incr d c).length=d.length:=by simp [incr]
def Bd (d:List Int) (M:Nat):Prop:=∀ v∈d,0<=v/\v<=(M:Int)
theorem Bd.incr {d:List Int} {M:Nat} (h:Bd d M) {c:Int} (hc:c.toNat<d.length):Bd (incr d c) (M+1):=by
 intro v hv;rcases List.mem_or_eq_of_mem_set hv with q | rfl
 ·have:=h v q;omega
 ·rw [Zac,List.getElem?_eq_getElem hc];have:=h _ (Zay hc);simp only [Option.getD_some];omega
theorem Bd.mono {d:List Int} {M N:Nat} (h:Bd d M) (hm:M<=N):Bd d N:=fun v hv=>by have:=h v hv;omega
theorem Bd.srt {d:List Int} {M:Nat} (h:Bd d M):Bd (Ev.srt d) M:=fun v hv=>h v ((kS d).mem_iff.1 hv)
@[simp] theorem zjm (d:List Int):(Ev.srt d).length=d.length:=(kS d).length_eq
end Go.Ev
namespace Go.Ev
open Go Go.Proofs
variable {B:Nat}
set_option maxRecDepth 100000
theorem zmg {h:T Blk} (a:AV) (l:List AV) (K:AV->OP):zH (.fp (a::l)) h K=K a:=nr rfl
theorem zmh {P:Program} {id:Pa} {args:List AV} {h:T Blk} {nx:Pa} {K:Kw Prop}:vF (CS P B) (.yld id) args h nx K=(CS P B).yld id args h nx K:=nr rfl
theorem zuo {h:T Blk} {nx:Pa} {p id:Pa} {l:List Int} {K:Kw Prop} (J:Nat->T Blk->Pa->Prop) (hl:l.length<=1000000) (hJ:J 0 h nx)
  (step:∀ (i:Nat) (x:Int) (h:T Blk) (nx:Pa) (K:Kw Prop),l[i]? = some x->J i h nx->Fr h nx->(∀ h' nx',J (i+1) h' nx'->K (.bool true) h' nx'=.ok True)->(CS Tryz.prog B).yld id [I x] h nx K=.ok True)
  (fr:∀ i h nx,J i h nx->Fr h nx) (hK:∀ h' nx',J l.length h' nx'->K (.tup []) h' nx'=.ok True):(CS Tryz.prog B).fn 244 p [.yld id,.fp [encI l]] h nx K=.ok True:=by
 refine jK (p:=.of 244) (K:=K) (zP zS jd 10000000 fun hf => ?_) fun _ _ _ _ q=>q;rw [di.go,zmg];simp only [zX];refine di.L1 (fun m z5 h' nx'=>∃ i:Nat,z5=I i/\l.length-i=m/\i<=l.length/\J i h' nx') (m:=l.length) (by omega) ⟨0,rfl,rfl,by omega,hJ⟩ ?_;rintro m z2 z5 z6 z7 h1 nx1 R ⟨i,rfl,rfl,hi,hJ1⟩ hR;simp (disch:=omega) only [jy,xw,nU,ve,vk,ug,ni,bf,pz,zO,zQ,zD,zC,yN,yJ,yW,yM,yU,yL,yI,gM,jT,jM,jS,zX,yX,yK,zG,decide_true,decide_false,Zag,Zaj,jL];by_cases hlt:i<l.length
 ·simp only [show (i:Int)<(l.length:Int) by omega,decide_true,zD];have hx:l[i]? = some l[i]:=List.getElem?_eq_getElem hlt;rw [bH rfl hlt,ldL (rJ hx),zmh];refine step i _ _ _ _ hx hJ1 (fr _ _ _ hJ1) fun h2 nx2 hJ2 => ?_;simp only [yU,Zag,zC]
  try rw [jy (by omega)]
  exact hR _ _ _ _ _ _ _ (by omega) ⟨i+1,rfl,rfl,by omega,hJ2⟩
 ·simp only [show ¬ (i:Int)<(l.length:Int) by omega,decide_false,zC];obtain rfl:i=l.length:=by omega
  exact hK _ _ hJ1
theorem Hp.oZ {h0 h:T Blk} {nx:Pa} {L:List Ob} (H:Hp h0 h nx L) (e:Nat):Hp h0 h nx (.gro none e 0 []::L) :=
  ⟨H.keep,fun x hx=>by rcases List.mem_cons.1 hx with rfl | q;· exact ⟨rfl,rfl⟩
                       · exact H.own x q,fun n hn=>H.off n (by simpa [Ob.names] using hn),by have:=H.nd;simpa [Ob.names] using this,H.fr⟩
theorem getLoop {h0 h:T Blk} {nx:Pa} {L:List Ob} {id:Pa} {b:Blk} {k:Nat} (H:Hp h0 h nx L) (hk:L[k]? = some (.raw id b)):T.get .no id h=b:=(H.own _ (Zae hk)).1
theorem Hp.zy6 {h0 h:T Blk} {nx:Pa} {L:List Ob} {id:Pa} {b b':Blk} {k:Nat} (H:Hp h0 h nx L) (hk:L[k]? = some (.raw id b)) (hb:b'≠.no):Hp h0 (T.set .no b' id h) nx (L.set k (.raw id b')) :=
 H.upd hk (by simp [Ob.names]) rfl ⟨T.get_set_same _ _ _ _,hb⟩
theorem zmi {h0 h:T Blk} {nx:Pa} {L:List Ob} {p q:Pa} {l:List Int} {K:Kw Prop} (hl:l.length<=100000) (H:Hp h0 h nx L)
  (hK:∀ o h' nx',Hp h0 h' nx' (.gro o 1 l.length (l.map I)::L)->K (vz o 1 l.length) h' nx'=.ok True):(CS Tryz.prog B).fn 282 p [.zf,.fn 244 q [.fp [encI l]]] h nx K=.ok True:=by
 refine jK (p:=.of 282) (K:=K) (zP zS jd 10000000 fun hf => ?_) fun _ _ _ _ q=>q;rw [dh.go];refine H.box (l:=[.zf]) rfl fun bx h1 nx1 H1 => ?_;refine H1.rf (g:=244) (p:=q) (cap:=[.fp [encI l]]) rfl fun id h2 nx2 H2 => ?_;refine zuo (fun i h' nx'=>∃ o,Hp h0 h' nx' (.raw id (.loop .ready .none (dh.fr .zf (.fn 244 q [.fp [encI l]]) (.ptr bx 0) .zf .u (.fn 244 q [.fp [encI l]]) .u) [.of 6] dh.b3 dh.b4)::.arr bx [vz o 1 i]::.gro o 1 i ((l.take i).map I)::L)) (by omega) ⟨none,?_⟩ ?_ (fun _ _ _ ⟨_,q⟩=>q.fr) ?_
 ·have:=H2.oZ 1;exact this.perm ((List.Perm.swap _ _ _).trans (.cons _ (.swap _ _ _)))
 ·rintro i x h3 nx3 K3 hx ⟨o,H3⟩ _ hnext;have hi:i<l.length:=(List.getElem?_eq_some_iff.1 hx).1;refine zpf (fns:=tbl) jd 100 fun hf => ?_;rw [dh.y4 (getLoop H3 (k:=0) rfl) rfl];have H4:=H3.zy6 (k:=0) rfl (b':=.loop .busy .none (dh.fr .zf (.fn 244 q [.fp [encI l]]) (.ptr bx 0) .zf .u (.fn 244 q [.fp [encI l]]) .u) [.of 6] dh.b3 dh.b4) (by intro e;cases e);rw [H4.load (k:=1) (i:=0) rfl rfl];refine H4.yu (l:=[I x]) rfl fun e5 h5 nx5 H5 => ?_;refine H5.appN (k:=3) (o:=o) (c:=1) (new:=[I x]) rfl (uj.rd (l:=[I x]) (n:=1) (H5.own _ (Zal ..)) rfl) rfl rfl (by decide) (by decide) (by omega) fun o' h6 nx6 ho H6 => ?_;refine H6.store (k:=2) rfl (by simp) (d7 _ _ _) fun h7 H7 => ?_;refine H7.rend (k:=1) rfl fun h8 H8 => ?_;refine hnext _ _ ⟨o',(H8.drop).cast ?_⟩;have e1:(l.take (i+1)).map I=(l.take i).map I++[I x]:=by rw [Zan,hx];simp
  rw [e1];rfl
 ·rintro h3 nx3 ⟨o,H3⟩;rw [Zfg] at H3;refine H3.zbm fun h4 H4 => ?_;rw [zpo,dh.k6,H4.load (k:=0) (i:=0) rfl rfl];exact hK _ _ _ H4.drop
theorem zmj {l:List Int}:Pure Tryz.prog B 171 [encI l] (· = .fn 244 (.of 244) [.fp [encI l]]):=by
 refine yB fun h nx K H0 hK=>zP zS jd 10000000 fun hf => ?_;rw [ou.go];refine H0.box (l:=[encI l]) rfl fun bx h1 nx1 H1 => ?_;obtain ⟨op,t,g1,g2⟩:uj h1 bx [encI l]:=H1.own _ (Zal ..);refine hK _ _ _ _ (.fn 244 (.of 244) [.fp [encI l]]) H1 (.fn _ _ _ _ rfl fun i v v' h2 h3 => ?_) rfl
 match i with
 | 0 =>
  simp only [List.getElem?_cons_zero,Option.some.injEq] at h2 h3;subst h2 h3;refine .ptr _ _ op _ t _ (H1.off bx (by simp [Ob.names])) g1 (by simp) (by simp [uz]) fun i v hv => ?_
  match i with
  | 0 =>
   simp only [List.getElem?_cons_zero,Option.some.injEq] at hv;subst hv;have:=yO t 0 1 0 (by omega);have g2:yP t 0 1=[encI l]:=g2;rw [g2] at this;simp only [List.getElem?_cons_zero,Option.some.injEq] at this;rw [<- this];exact zY (mT l)
  | i+1=>simp at hv
 | i+1=>simp at h2
end Go.Ev
namespace Go.Ev
open Go Go.Proofs Go.RowKit Go.Sort
noncomputable def xB:List AV->Option (List Int)
 | []=>some []
 | .int k n::l=>match k with
  | .i64=>match xB l with
   | some xs=>some (n::xs)
   | none=>none
  | _=>none
 | _=>none
theorem zhr:∀ {l:List AV} {xs:List Int},xB l=some xs->l=xs.map I
 | [],xs,h=>by simp [xB] at h;subst h;rfl
 | x::l,xs,h=>by
  cases x <;> first | (simp [xB] at h;done) | skip
  rename_i k n;cases k <;> first | (simp [xB] at h;done) | skip
  simp only [xB] at h;cases hl:xB l with
  | none=>simp [hl] at h
  | some ys=>simp [hl] at h;subst h;simp [zhr hl]
theorem zmk (l:List Int):xB (l.map I)=some l:=by
 induction l with
 | nil=>rfl
 | cons a l ih=>show (match xB (l.map I) with | some xs=>some (a::xs) | none=>none)=_;rw [ih]
noncomputable def zhs (v:AV) (h:T Blk):Option (T Blk):=match v with
 | .sl id off ln _ esz=>match T.get .no id h with
  | .cells op m t=>bif Nat.beq esz 1&&Nat.ble (off+ln) m&&Nat.ble ln 1000000 then (match xB (yP t off ln) with
   | some l=>some (T.set .no (.cells op m (jR ((srt l).map I) t off)) id h)
   | none=>none) else none
  | _=>none
 | .zf=>some h
 | _=>none
noncomputable def pQ (f:Nat) (args:List AV) (h:T Blk):Option (AV×T Blk):=bif Nat.beq f 243 then (match args with
 | [v]=>match zhs v h with
  | some h=>some (.tup [],h)
  | none=>none
 | _=>none) else none
theorem HR.sorted {P:Program} {B:Nat} {E:Env} {h:T Blk} {nx:Pa} {w:World} (H:HR P B E h nx w) {id:Pa} {op:Bool} {m off b n k:Nat} {t:T AV} {l l':List Int} {os:Array Obj} (hb:T.get .no id h=.cells op m t) (hE:E id=some (b,n))
  (hl':l'.length=l.length) (hm:off+l.length<=m) :
  HR P B E (T.set .no (.cells op m (jR (l'.map I) t off)) id h) nx (grow (putRow (Value.int .i64) (Sort.ahead w k) b off l'.toArray) os)/\Ex E E w (grow (putRow (Value.int .i64) (Sort.ahead w k) b off l'.toArray) os):=by
 have hid:T.get .no id h≠.no:=by rw [hb];intro e;cases e
 obtain ⟨b',n',o,h1,h2,h3⟩:=H.blk id hid;rw [hE] at h1;cases h1;rw [hb] at h3;obtain ⟨c,ty,fr,rfl,q1,q2,q3,q4,q5⟩:=h3;have hcs:(putCells (Value.int .i64) off l'.toArray c).size=c.size:=by simp [putCells]
 have hbr:BR P E n (.cells op m (jR (l'.map I) t off)) (.cells (putCells (Value.int .i64) off l'.toArray c) ty fr):=by
  refine ⟨_,ty,fr,rfl,by rw [hcs];exact q1,by rw [hcs];exact q2,q3,q4,fun i hi => ?_⟩;rw [uM];have hic:i<c.size:=by omega
  have hce:(putCells (Value.int .i64) off l'.toArray c)[i]? = some (if off<=i/\i<off+l'.length then Value.int .i64 (l'.toArray[i-off]!) else c[i]):=by
   simp [putCells,Array.getElem?_eq_getElem hic]
  rw [Zaz];by_cases hr:off<=i/\i<off+l'.length
  ·rw [if_pos hr];rw [if_pos hr] at hce;have hj:i-off<l'.length:=by omega
   have e1:(l'.map I).getD (i-off) .u=I l'[i-off]:=by
    rw [Zac,List.getElem?_map,List.getElem?_eq_getElem hj];rfl
   have e2:l'.toArray[i-off]! = l'[i-off]:=by simp [getElem!_pos,hj]
   rw [e1];exact ⟨rfl,_,hce,by rw [e2];simp only [VR]⟩
  ·rw [if_neg hr];rw [if_neg hr] at hce;obtain ⟨r1,v,r2,r3⟩:=q5 i hi;rw [Array.getElem?_eq_getElem hic] at r2;exact ⟨r1,_,hce,by rw [Option.some.inj r2];exact r3⟩
 have H1:=H.put hid hE hbr;have X1:Ex E E w (w.putObj b (.cells (putCells (Value.int .i64) off l'.toArray c) ty fr)):=Ex.put hE h2 fun L hL=>by cases hL
 have hbl:b<w.heap.size:=(Array.getElem?_eq_some_iff.1 h2).1;have hBel:Below (w.putObj b (.cells (putCells (Value.int .i64) off l'.toArray c) ty fr)).heap.size (w.putObj b (.cells (putCells (Value.int .i64) off l'.toArray c) ty fr)) (grow (putRow (Value.int .i64) (Sort.ahead w k) b off l'.toArray) os):=by
  refine ⟨rfl,rfl,rfl,?_,fun j hj => ?_⟩
  ·rw [World.putObj_size];simp [grow,putRow,mapBlock,Sort.ahead]
  ·rw [World.putObj_size] at hj;have e1:(grow (putRow (Value.int .i64) (Sort.ahead w k) b off l'.toArray) os).heap[j]? = (w.heap.modify b (onCells (putCells (Value.int .i64) off l'.toArray)))[j]? := by
    show (w.heap.modify b (onCells (putCells (Value.int .i64) off l'.toArray))++os)[j]? = _;rw [Array.getElem?_append_left (by simpa using hj)]
   rw [e1,Array.getElem?_modify];by_cases e:b=j
   ·subst e;rw [if_pos rfl,h2,uX _ hbl];rfl
   ·rw [if_neg e,yS _ (fun q=>e q.symm)]
 obtain ⟨r1,r2⟩:=H1.below hBel;exact ⟨r1,X1.trans r2⟩
theorem zqg {B:Nat} (law:∀ (blk off cap:Nat) (zs:List Int) (w:World),Holds (Value.int .i64) w blk off zs.toArray->blk<w.heap.size->zs.length<4611686018427387904 ->
   Go.Calls Tryz.prog 243 #[.slice (some ⟨blk,off,none⟩) zs.length cap] w fun e w'=>e=.returned (.tuple #[])/\∃ n os,w'=grow (putRow (Value.int .i64) (Sort.ahead w n) blk off (zs.mergeSort fun x y=>decide (x<=y)).toArray) os)
  (law0:∀ (p:Option Addr) (cap:Nat) (w:World),Go.Calls Tryz.prog 243 #[.slice p 0 cap] w fun e w'=>e=.returned (.tuple #[])/\w'=w):JOk Tryz.prog B pQ:=by
 intro E h nx w f args vs v h2 H hv hj;unfold pQ at hj;cases hf:Nat.beq f 243 with
 | false=>simp [hf] at hj
 | true =>
  obtain rfl:=yG hf;rw [hf,cond_true] at hj;split at hj
  case h_2=>cases hj
  rename_i _ x;cases hjj:zhs x h with
  | none=>simp [hjj] at hj
  | some hs =>
  simp only [hjj,Option.some.injEq,Prod.mk.injEq] at hj;obtain ⟨rfl,rfl⟩:=hj;refine ⟨(),trivial,trivial,trivial,fun n=>.inl ⟨_,Tryz.func243,by kernel_rfl,by kernel_rfl,callsIn_wide.2 ?_⟩⟩;obtain ⟨l⟩:=vs;simp only [VRL] at hv;obtain ⟨u,_,rfl,hu,rfl⟩:=hv;unfold zhs at hjj;split at hjj
  ·rename_i id off ln cap esz;split at hjj
   ·rename_i op m t hb;cases hq:(Nat.beq esz 1&&Nat.ble (off+ln) m&&Nat.ble ln 1000000) with
    | false=>simp [hq] at hjj
    | true =>
     rw [hq,cond_true] at hjj;simp only [Zai] at hq;obtain ⟨⟨q1,q2⟩,q3⟩:=hq;obtain rfl:=yG q1;have q2:=yC q2;have q3:=yC q3;cases hx:xB (yP t off ln) with
     | none=>simp [hx] at hjj
     | some xs =>
      simp only [hx,Option.some.injEq] at hjj;subst hjj;have hxs:=zhr hx;have hln:xs.length=ln:=by
       have:=congrArg List.length hxs;simpa using this.symm
      obtain ⟨b,n,c,hE,rfl,hcap⟩:=hu.rQ;obtain ⟨b',n',o,h1,h2,h3⟩:=H.blk id (by rw [hb];intro e;cases e);rw [hE] at h1;cases h1;rw [hb] at h3;obtain ⟨cs,ty,fr,rfl,g1,g2,g3,g4,hc⟩:=h3;have hH:Holds (Value.int .i64) w b off xs.toArray:=by
       intro j hj;have hj:j<xs.length:=by simpa using hj
       obtain ⟨_,v',k1,k2⟩:=hc (off+j) (by omega);have he:T.get .u (.of (off+j)) t=I xs[j]:=by
        have e1:=yO t off ln j (by omega);rw [hxs,List.getElem?_map,List.getElem?_eq_getElem hj] at e1;exact (Option.some.inj e1).symm
       rw [he] at k2;simp only [VR] at k2;subst k2;have e2:xs.toArray[j]! = xs[j]:=by simp [getElem!_pos,hj]
       rw [e2];refine ⟨by simp [World.cell?,h2,k1],?_⟩;have:=g1 (off+j) (Array.getElem?_eq_some_iff.1 k1).1;simp only [World.frozen?,h2];obtain ⟨lo,hi⟩:=fr;simp only [Bool.and_eq_false_iff,decide_eq_false_iff_not];simp only at this;omega
      rw [<- hln];refine (law b off c xs w hH (H.lt _ _ _ hE).2 (by omega)).mono ?_;rintro e w' ⟨rfl,k,os,rfl⟩;have hp:(srt xs).length=xs.length:=(kS xs).length_eq;obtain ⟨r1,r2⟩:=H.sorted (off:=off) (l:=xs) (l':=srt xs) (k:=k) (os:=os) hb hE hp (by omega);exact ⟨_,E,rfl,by simp only [VR,VRL];exact ⟨_,rfl,rfl⟩,r1,r2⟩
   ·cases hjj
  ·obtain rfl:=(Option.some.inj hjj).symm;simp only [VR] at hu;subst hu;refine (law0 none 0 w).mono ?_;rintro e w' ⟨rfl,rfl⟩;exact ⟨_,E,rfl,by simp only [VR,VRL];exact ⟨_,rfl,rfl⟩,H,.refl _ _⟩
  ·cases hjj
end Go.Ev
namespace Go.Ev
open Go Go.Proofs
variable {B:Nat}
theorem zup {h0 h:T Blk} {nx p:Pa} {L:List Ob} {k n:Nat} {o:Option Pa} {l:List Int} {K:Kw Prop} (hj:∀ B,JOk Tryz.prog B pQ) (H:Hp h0 h nx L) (hk:L[k]? = some (.gro o 1 n (l.map I))) (hn:n<=1000000)
  (hK:∀ h',Hp h0 h' nx (L.set k (.gro o 1 n ((srt l).map I)))->K (.tup []) h' nx=.ok True):(CS Tryz.prog B).fn 243 p [vz o 1 n] h nx K=.ok True:=by
 have own:=H.own _ (Zae hk);cases o with
 | none =>
  obtain ⟨q1,rfl⟩:=own;obtain rfl:l=[]:=by simpa using q1
  refine zkf (hj B) (v:=.tup []) (h2:=h) rfl (hK h (H.cast ?_));have e:(srt ([]:List Int)).map I=[]:=by simp [srt]
  rw [e,(xC hk).2];exact (xC hk).1
 | some id =>
  obtain ⟨t,h1,h2,h3⟩:=own;rw [Zca] at h1 h2 h3;have e1:zhs (.sl id 0 n none 1) h=some (T.set Blk.no (Blk.cells true n (jR ((srt l).map I) t 0)) id h):=by
   show (match T.get Blk.no id h with
    | .cells op m t=>bif Nat.beq 1 1&&Nat.ble (0+n) m&&Nat.ble n 1000000 then (match xB (yP t 0 n) with
     | some l=>some (T.set Blk.no (Blk.cells op m (jR ((srt l).map I) t 0)) id h)
     | none=>none) else none
    | _=>none)=_
   rw [h1]
   show (bif Nat.beq 1 1&&Nat.ble (0+n) n&&Nat.ble n 1000000 then (match xB (yP t 0 n) with
     | some l=>some (T.set Blk.no (Blk.cells true n (jR ((srt l).map I) t 0)) id h)
     | none=>none) else none)=_
   rw [Zaf (by omega),Zaf hn,h3,zmk];rfl
  have e2:pQ 243 [vz (some id) 1 n] h=some (.tup [],T.set Blk.no (Blk.cells true n (jR ((srt l).map I) t 0)) id h):=by
   show (match zhs (.sl id 0 n none 1) h with
    | some h=>some ((.tup []:AV),h)
    | none=>none)=_
   rw [e1]
  refine zkf (hj B) e2 (hK _ (H.upd hk (by simp [Ob.names]) rfl ⟨_,by rw [T.get_set_same,Zca],by simpa using h2,?_⟩));have:=wV t [] ((srt l).map I) 0 rfl;rw [Zbe,Zco] at this;have hl:((srt l).map I).length=n:=by simpa using h2
  rw [hl] at this;rw [Zca];exact this
theorem zml {l:List Int} (hj:∀ B,JOk Tryz.prog B pQ) (hl:l.length<=100000):Pure Tryz.prog B 170 [.fn 244 (.of 244) [.fp [encI l]]] (· = encI (srt l)):=by
 refine yB fun h nx K H0 hK=>zP zS jd 100 fun hf => ?_;rw [oz.go];refine jK (p:=.of 242) (K:=fun v1 h2 n3=>(CS Tryz.prog B).fn 243 (.of 243) [v1] h2 n3 fun v4 h5 n6=>K v1 h5 n6) (zP zS jd 100 fun hf => ?_) fun _ _ _ _ q=>q;rw [oC.go];refine zmi hl H0 fun o h1 nx1 H1 => ?_;refine zup hj H1 (k:=0) rfl (by omega) fun h2 H2 => ?_;refine hK _ _ _ _ _ H2 (H2.zfa (k:=0) rfl (by intro v hv;obtain ⟨t,_,rfl⟩:=List.mem_map.1 hv;rfl)) ?_;show _=AV.lst 1 _ _;rw [zjm]
theorem zuq {h0 h:T Blk} {nx:Pa} {L:List Ob} {o:Option Pa} {n k:Nat} {l l':List AV} (H:Hp h0 h nx L) (hk:L[k]? = some (.gro o 1 n l)) (hl:l'.length=l.length) (hs:l'.all uz=true) (hf:∀ (i:Nat) (v v':AV),l[i]? = some v->l'[i]? = some v'->sU h0 h v v'):sU h0 h (vz o 1 n) (.lst 1 n l'):=by
 have own:=H.own _ (Zae hk);have hoff:=H.off;cases o with
 | none =>
  obtain ⟨rfl,rfl⟩:=own;obtain rfl:l'=[]:=by simpa using hl
  exact .zgx 1
 | some id =>
  obtain ⟨t,h1,h2,h3⟩:=own;refine .sl _ _ _ _ _ true _ t _ (hoff id (List.mem_flatMap.2 ⟨_,Zae hk,by simp [Ob.names]⟩)) trivial h1 (by omega) (by rw [hl];exact h2) hs fun i v hi => ?_;have hil:i<l.length:=by rw [<- hl];exact (List.getElem?_eq_some_iff.1 hi).1
  have:=yO t 0 (n*1) i (by rw [<- h2];exact hil);rw [h3,List.getElem?_eq_getElem hil] at this;rw [<- Option.some.inj this];exact hf i _ _ (List.getElem?_eq_getElem hil) hi
end Go.Ev
namespace Go.Ev
open Go Go.Proofs
variable {B:Nat}
set_option maxRecDepth 100000
theorem Dn.q7 {t M X:Nat} {q:Rat} (ht:1<=t) (htM:t<=M) (hM:M<=X) (hX:X<=2 ^ eX 11) (h:Dn t M q):Qs 700 q :=
 h.qs ht htM (zy5 (Zbj hM hX))
theorem pC {Q:List Rat} {P:Rat->Prop} (h:∀ j,P (at' Q j)):∀ x∈Q,P x:=fun x hx=>by
 obtain ⟨j,_,rfl⟩:=at_mem hx;exact h j
theorem sF.fix {c:List AV} {q:List Rat} (h:sF c q):∀ v∈c,fP v=true:=fun v hv=>by
 obtain ⟨m,hm⟩:=List.mem_iff_getElem?.1 hv;have hl:=(List.getElem?_eq_some_iff.1 hm).1;rw [h.1] at hl;obtain ⟨s,w,s',w',e,h1,h2⟩:=h.2 (m / 4) _ (wJ (by omega));have h3:((c.drop (m / 4*4)).take 4)[m%4]? = some v:=by
  rw [List.getElem?_take_of_lt (Zbl _ (by decide)),List.getElem?_drop,show m / 4*4+m%4=m by omega];exact hm
 rw [e] at h3;exact h1.fix4 h2 v (Zae h3)
theorem gp4 {n:Nat} {o4 o5:Option Pa} {rs:List Pa} {cs:List (List AV)} {ps:List Nat} {T:List Ob} (P:List Ob):(P++SL n o4 o5 rs cs ps T)[P.length]? = some (.gro o4 1 rs.length (rs.map (rwV n))):=by
 rw [List.getElem?_append_right (Zah _),Zdl];rfl
theorem gp5 {n:Nat} {o4 o5:Option Pa} {rs:List Pa} {cs:List (List AV)} {ps:List Nat} {T:List Ob} (P:List Ob):(P++SL n o4 o5 rs cs ps T)[P.length+1]? = some (.gro o5 1 ps.length (ps.map fun p=>I ((p:Nat):Int))):=by
 rw [List.getElem?_append_right (by omega),Zcr];rfl
theorem gpT {n:Nat} {o4 o5:Option Pa} {rs:List Pa} {cs:List (List AV)} {Q:List (List Rat)} {ps:List Nat} {b:Ob} {T:List Ob} (S:SM rs cs Q) (P:List Ob):(P++SL n o4 o5 rs cs ps (b::T))[P.length+(Q.length+2)]? = some b:=by
 rw [List.getElem?_append_right (by omega),Zcr];show (List.zipWith Ob.arr rs cs++b::T)[Q.length]? = _;rw [List.getElem?_append_right (by rw [xN S];exact Zah _),xN S,Zdl];rfl
theorem zmm {a g6 g7 b:Ob} {Z U:List Ob}:(a::g6::g7::b::(Z++U)).Perm (g6::g7::b::((Z++[a])++U)):=by
 refine (List.Perm.swap ..).trans (List.Perm.cons _ ((List.Perm.swap ..).trans (List.Perm.cons _ ((List.Perm.swap ..).trans (List.Perm.cons _ ?_)))));rw [Zbg];exact List.perm_middle.symm
def frQ (n:Nat) (ps:List Nat):List Nat:=(List.range n).filter fun x => !decide (x∈ps)
theorem zrr {c:Nat} {ps:List Nat}:frQ (c+1) ps=frQ c ps++if c∈ps then [] else [c]:=by
 unfold frQ;rw [List.range_succ,List.filter_append]
 congr 1
 by_cases h:c∈ps
 ·rw [if_pos h,List.filter_cons_of_neg (by simp [h])];rfl
 ·rw [if_neg h,List.filter_cons_of_pos (by simp [h])];rfl
theorem zk6 (n:Nat) (ps:List Nat):(frQ n ps).length<=n:=by
 unfold frQ;exact Zbj (List.length_filter_le ..) (by rw [List.length_range];exact Zah _)
def SpcV (n:Nat) (fr:List Nat) (Bs:List (List Rat)) (v:AV):Prop:=∃ cb:List (List AV),cb.length=Bs.length/\(∀ a,a<Bs.length->sF (cb.getD a []) (Bs.getD a []))/\v=.agg [.lst 1 fr.length (fr.map fun p=>I ((p:Nat):Int)),.lst 1 Bs.length (cb.map fun c=>.lst 4 n c)]
def qb6 (n:Nat) (lines:List (List Int)) (Q:List (List Rat)) (ps:List Nat):Prop:=(∃ t M,St n t M Q ps/\M<=2 ^ eX 11)/\∀ f,Mgf n lines f->∀ q∈Q,dot q f=0
theorem zht {n:Nat} {lines:List (List Int)} (hr:∀ l∈lines,∀ c∈l,0<=c/\c<(n:Int)) {i:Nat} (hi:i<lines.length):∀ c∈lines.getD i [],0<=c/\c<(n:Int):=hr _ (gY hi)
theorem zmn {n:Nat} {lines:List (List Int)} (hn:n<=16) (hl:lines.length<=12) (hll:∀ l∈lines,l.length<=16) (hr:∀ l∈lines,∀ c∈l,0<=c/\c<(n:Int)):Pure Tryz.prog B 93 [.agg [I (n:Int),qp lines]] (fun v=>∃ Q ps,qb6 n lines Q ps/\SpcV n (frQ n ps) ((frQ n ps).map (oW n Q ps)) v):=by
 refine yB fun h nx K H0 hK=>zP zS jA 1000 fun hf => ?_;rw [F93.go,F93.t113,zA,F93.jm];refine H0.box (l:=[I (n:Int),qp lines]) rfl fun b1 h1 nx1 H1 => ?_;refine H1.alloc fun b2 h2 nx2 H2 => ?_;rw [zA,F93.jl,sFx,H2.load (k:=1) (i:=0+0) rfl rfl,zA,F93.qh,zA,F93.rC,zA,zA,F93.rD,zM];have H2:=(H2.oZ 1).oZ 1;refine F93.zny (fun m x4 x5 x6 h' nx'=>∃ (i:Nat) (o4 o5:Option Pa) (rs:List Pa) (cs:List (List AV)) (Q:List (List Rat)) (ps:List Nat) (t M:Nat),x4=vz o4 1 rs.length/\x5=vz o5 1 ps.length/\x6=I (i:Int)/\m+i=lines.length+1/\1<=i/\(i<=lines.length\/i=1)/\Q.length+1<=i/\SM rs cs Q/\St n t M Q ps/\M<=2 ^ eX Q.length/\(∀ f,Mgf n lines f->∀ q∈Q,dot q f=0)/\Hp h h' nx' (SL n o4 o5 rs cs ps [.arr b2 [.zf,.zf],.arr b1 [I (n:Int),qp lines]])) (m:=lines.length) (by omega) ⟨1,none,none,[],[],[],[],1,1,rfl,rfl,rfl,rfl,by omega,.inr rfl,Zah _,⟨rfl,rfl,fun a ha=>by simp at ha⟩,St.nil n,Nat.one_le_two_pow,by simp,H2⟩ ?_;rintro m z4 z5 z6 z7 z8 z9 z10 z11 z17 z18 z19 z20 z21 z22 z23 z24 z25 z26 z27 h3 nx3 R ⟨i,o4,o5,rs,cs,Q,ps,t,M,rfl,rfl,rfl,hm,hi1,hi2,hQi,S,hS,hM,hdot,H3⟩ hR;obtain ⟨T,hT⟩:∃ T:List Ob,T=[.arr b2 [.zf,.zf],.arr b1 [I (n:Int),qp lines]]:=⟨_,rfl⟩;rw [<- hT] at H3;have hps:=hS.len;have tl:∀ {X:List Ob} {o4 o5:Option Pa} {rs:List Pa} {cs:List (List AV)} {ps:List Nat},(List.zipWith Ob.arr rs cs).length=Q.length->(X++SL n o4 o5 rs cs ps T)[X.length+2+Q.length+1]? = some (.arr b1 [I (n:Int),qp lines]):=fun {X o4 o5 rs cs ps} hz=>by
  rw [hT,List.getElem?_append_right (by omega),show X.length+2+Q.length+1-X.length=Q.length+1+2 by omega];show (List.zipWith Ob.arr rs cs++[Ob.arr b2 [.zf,.zf],Ob.arr b1 [I (n:Int),qp lines]])[Q.length+1]? = _;rw [List.getElem?_append_right (by omega),hz,Zcr];rfl
 have l1:∀ op:AV->OP,zH (.ptr b1 (0+1)) h3 op=op (qp lines):=fun op=>H3.load (i:=0+1) (tl (X:=[]) (xN S)) rfl;rw [F93.t63,zA,zA,F93.bJ,sFx,l1,zX,ug,zB,F93.v17];by_cases ci:i<lines.length
 case neg =>
  rw [Zab (by omega),zC,zZ,yH,zA,F93.znz];have hpl:ps.length<=16:=by omega
  refine H3.alloc fun b3 h4 nx4 H4 => ?_;have H4:=(H4.oZ 1).oZ 1;rw [zA,zA,F93.zf8,zM];refine F93.zxc (fun m x29 h' nx'=>∃ (c:Nat) (o6 o7:Option Pa) (rb:List Pa) (cb:List (List AV)),x29=I (c:Int)/\m+c=n/\SM rb cb ((frQ c ps).map (oW n Q ps))/\Hp h h' nx' (.gro o6 1 (frQ c ps).length ((frQ c ps).map fun p=>I ((p:Nat):Int))::.gro o7 1 rb.length (rb.map (rwV n))::.arr b3 [vz o6 1 (frQ c ps).length,vz o7 1 rb.length]::(List.zipWith Ob.arr rb cb++SL n o4 o5 rs cs ps T))) (m:=n) (by omega) ⟨0,none,none,[],[],rfl,by omega,⟨rfl,rfl,fun a ha=>by simp [frQ] at ha⟩,H4⟩ ?_;rintro m2 y13 y14 y15 y16 y29 y30 y31 y32 y33 y34 y35 h5 nx5 R2 ⟨c,o6,o7,rb,cb,rfl,hmc,S2,H5⟩ hR2;have hfl:=zk6 c ps;have hrb:rb.length=(frQ c ps).length:=by rw [S2.lr,Zaz]
  obtain ⟨P,hP⟩:∃ P:List Ob,P=.gro o6 1 (frQ c ps).length ((frQ c ps).map fun p=>I ((p:Nat):Int))::.gro o7 1 rb.length (rb.map (rwV n))::.arr b3 [vz o6 1 (frQ c ps).length,vz o7 1 rb.length]::List.zipWith Ob.arr rb cb:=⟨_,rfl⟩;have eP:(.gro o6 1 (frQ c ps).length ((frQ c ps).map fun p=>I ((p:Nat):Int))::.gro o7 1 rb.length (rb.map (rwV n))::.arr b3 [vz o6 1 (frQ c ps).length,vz o7 1 rb.length]::(List.zipWith Ob.arr rb cb++SL n o4 o5 rs cs ps T))=P++SL n o4 o5 rs cs ps T:=by rw [hP];rfl
  have H5p:=H5.cast eP;rw [F93.t101,zA,F93.zzu,ug,zA,zB,F93.v30];by_cases cc:c<n
  case neg =>
   obtain rfl:c=n:=by omega
   rw [Zab (by omega),zC,zZ,yH,zA,F93.zxd,H5.zk (k:=2) (n:=2) rfl rfl];rw [hT] at H5p;refine H5p.jg (l2:=[vz o6 1 (frQ c ps).length,vz o7 1 rb.length]) (gpT S P) rfl rfl fun h6 H6 => ?_;simp only [zJ,zT];have hb2:((P++SL c o4 o5 rs cs ps [.arr b2 [.zf,.zf],.arr b1 [I (c:Int),qp lines]]).set (P.length+(Q.length+2)) (.arr b2 [vz o6 1 (frQ c ps).length,vz o7 1 rb.length]))[P.length+(Q.length+2)]? = some (.arr b2 [vz o6 1 (frQ c ps).length,vz o7 1 rb.length]):=List.getElem?_set_self (List.getElem?_eq_some_iff.1 (gpT S P)).1;rw [F93.ret,H6.zk (n:=2) hb2 rfl];have hPl:3<=P.length:=by rw [hP];simp
   have old:∀ i,i<P.length->((P++SL c o4 o5 rs cs ps [.arr b2 [.zf,.zf],.arr b1 [I (c:Int),qp lines]]).set (P.length+(Q.length+2)) (.arr b2 [vz o6 1 (frQ c ps).length,vz o7 1 rb.length]))[i]? = P[i]? := fun i hi=>by
    rw [List.getElem?_set_ne (by omega),List.getElem?_append_left hi]
   have F6:sU h h6 (vz o6 1 (frQ c ps).length) (.lst 1 (frQ c ps).length ((frQ c ps).map fun p=>I ((p:Nat):Int))):=H6.zfa (k:=0) (by rw [old 0 (by omega),hP];rfl) fun v hv=>by
    obtain ⟨x,_,rfl⟩:=List.mem_map.1 hv;rfl
   have hcl:=S2.lc;have F7:sU h h6 (vz o7 1 rb.length) (.lst 1 rb.length (cb.map fun d=>.lst 4 c d)):=zuq H6 (k:=1) (by rw [old 1 (by omega),hP];rfl) (by rw [Zaz,Zaz,hcl,S2.lr]) (List.all_eq_true.2 fun v hv=>by obtain ⟨x,_,rfl⟩:=List.mem_map.1 hv;rfl) fun a v v' h1 h2=>by
    rw [List.getElem?_map] at h1 h2;have ha:a<rb.length:=by
     rcases Zdw a rb.length with q | q
     ·exact q
     ·rw [List.getElem?_eq_none q] at h1;cases h1
    have hac:a<cb.length:=by rw [hcl,<- S2.lr];exact ha
    rw [List.getElem?_eq_getElem ha] at h1;rw [kI (d:=[]) hac] at h2;obtain rfl:=Option.some.inj h1;obtain rfl:=Option.some.inj h2;have hrow:=S2.row a (by rw [<- S2.lr];exact ha);refine H6.ziu (k:=3+a) ?_ (Zah _) ?_ hrow.fix
    ·rw [old (3+a) (by rw [hP];simp only [Zbt];rw [xN S2,<- S2.lr];omega),hP,Zcs 3 a];show (List.zipWith Ob.arr rb cb)[a]? = _;rw [List.getElem?_zipWith,List.getElem?_eq_getElem ha,kI (d:=[]) hac]
    ·rw [hrow.1,Zac,List.getElem?_map,kI (d:=0) (show a<(frQ c ps).length by omega)];show (oW _ _ _ _).length*4=_;rw [zhn]
   refine hK _ _ _ _ (.agg [.lst 1 (frQ c ps).length ((frQ c ps).map fun p=>I ((p:Nat):Int)),.lst 1 rb.length (cb.map fun d=>.lst 4 c d)]) H6 (Frz.agg _ _ rfl rfl fun j v v' h1 h2 => ?_) ⟨Q,ps,⟨⟨t,M,hS,Zbj hM (Zei (by decide) (zw0 (by omega)))⟩,hdot⟩,cb,hcl,S2.row,by rw [S2.lr]⟩
   match j,h1,h2 with
   | 0,h1,h2=>cases h1;cases h2;exact F6
   | 1,h1,h2=>cases h1;cases h2;exact F7
   | j+2,h1,h2=>simp at h1
  rw [Zaa (by omega),zD,zF,zA,zM,zA,F93.znj,zA,zA,F93.zf6];refine zuk H5p (gp5 P) (by omega) ?_;rw [zB,F93.v31];have hfs:=zrr (c:=c) (ps:=ps);by_cases hc:c∈ps
  ·rw [if_pos hc,Zce] at hfs;rw [Zaa hc,zD,zZ,yH,F93.zvb,jy (by omega)];exact hR2 (m2-1) _ _ _ _ _ _ _ _ _ _ _ _ _ (by omega) ⟨c+1,o6,o7,rb,cb,by congr 1,by omega,by rw [hfs];exact S2,by rw [hfs];exact H5⟩
  rw [if_neg hc] at hfs;rw [Zab hc,zC,zF,zA,F93.zj1];refine zhl H5p (by omega) fun ib c0 h6 nx6 hc0 H6 => ?_;rw [zA,F93.zzv];refine f89 (by omega) _ _ _ _ ?_;rintro _ ⟨s,w,s',w',rfl,i1,i2⟩ _;rw [rat1] at i1 i2;have hc0l:=hc0.1;rw [Zbi] at hc0l;rw [rwIx (j:=c) rfl cc];refine H6.tq (k:=0) (off:=c*4) rfl (by omega) rfl fun h7 H7 => ?_;have hc1:sF (gI c0 (c*4) [s,w,s',w']) (wR n c):=hc0.put (by rw [Zbi];exact cc) i1 i2;have H7:Hp h h7 nx6 ((.arr ib (gI c0 (c*4) [s,w,s',w'])::P)++SL n o4 o5 rs cs ps T):=H7;rw [zA,zA,F93.zzw,H7.zck (gp5 (_::P)),zM];refine F93.zz2 (fun m x34 h' nx'=>∃ (k:Nat) (c1:List AV),x34=I (k:Int)/\m+k=Q.length/\sF c1 (basF c ((aY Q ps).take k) (wR n c))/\Hp h h' nx' ((.arr ib c1::P)++SL n o4 o5 rs cs ps T)) (m:=Q.length) (by omega) ⟨0,_,rfl,rfl,hc1,H7⟩ ?_;rintro m3 u15 u16 u34 u35 h8 nx8 R3 ⟨k,c1,rfl,hmk,hc1,H8⟩ hR3;rw [F93.t87,zA,F93.zzx,ug,zA,zB,F93.v35];by_cases ck:k<Q.length
  ·have hpk:ps[k]? = some (ps.getD k 0):=kI (by omega);have hpn:=hS.rng _ (Zae hpk);obtain ⟨rk,hrk0,hob⟩:=S.ob (n:=n) (o4:=o4) (o5:=o5) (ps:=ps) (T:=T) ck (.arr ib c1::P);obtain ⟨id5,g5,d5⟩:=H8.zdw (j:=k) (gp5 (_::P)) (show (ps.map fun p=>I ((p:Nat):Int))[k]? = some (I ((ps.getD k 0:Nat):Int)) by rw [List.getElem?_map,hpk];rfl);obtain ⟨id4,g4,d4⟩:=H8.zdw (j:=k) (gp4 (_::P)) (show (rs.map (rwV n))[k]? = some (rwV n rk) by rw [List.getElem?_map,hrk0];rfl);have hrow:=S.row k ck;have hok:=hS.row _ (gY (d:=[]) ck);obtain ⟨cs2,e1,e2,_,fv⟩:=hrow.get (wJ (q:=Q.getD k []) (j:=c) (by rw [hok];exact cc));have hcl:=hc1.1;rw [mA,vZ] at hcl;rw [Zaa (by omega),zD,zF,zA,zM,zA,F93.zzy,g5,d5,F93.zz0,g4,d4,rwIx (j:=c) rfl cc,H8.qf hob e2 e1];refine zkz fv _ _ _ _ ?_;rintro _ ⟨s2,w2,s2',w2',rfl,j1,j2⟩ _;rw [rwIx (j:=ps.getD k 0) rfl hpn];refine H8.tq (k:=0) (off:=ps.getD k 0*4) rfl (by omega) rfl fun h9 H9 => ?_;rw [F93.zz1,jy (by omega)];refine hR3 (m3-1) _ _ _ _ _ _ (by omega) ⟨k+1,_,by congr 1,by omega,?_,H9⟩;rw [wQ hS.len ck,zeb];exact hc1.put (by rw [mA,vZ];exact hpn) j1 j2
  obtain rfl:k=Q.length:=by omega
  rw [Zad (by unfold aY;rw [List.length_zip];omega)] at hc1;have H8:=H8;rw [hP] at H8;have H8:Hp h h8 nx8 (.arr ib c1::.gro o6 1 (frQ c ps).length ((frQ c ps).map fun p=>I ((p:Nat):Int))::.gro o7 1 rb.length (rb.map (rwV n))::.arr b3 [vz o6 1 (frQ c ps).length,vz o7 1 rb.length]::(List.zipWith Ob.arr rb cb++SL n o4 o5 rs cs ps T)):=H8;have l0:∀ op:AV->OP,zH (.ptr b3 (0+0)) h8 op=op (vz o6 1 (frQ c ps).length):=fun op=>H8.load (k:=3) (i:=0+0) rfl rfl;have l1:∀ op:AV->OP,zH (.ptr b3 (0+1)) h8 op=op (vz o7 1 rb.length):=fun op=>H8.load (k:=3) (i:=0+1) rfl rfl;have k1:((gT (bK 1 [(I 0)]) [(0,1,I (c:Int))]).isSome&&true)=true:=rfl;have k2:((gT (bK 1 [.zf]) [(0,1,rwV n ib)]).isSome&&true)=true:=rfl;rw [Zab (by omega),zC,zZ,yH,F93.zz3];simp only [sFx,l0,l1,k1,k2,jL];refine H8.yu (l:=[I (c:Int)]) rfl fun ta h9 nx9 H9 => ?_;have l0:∀ op:AV->OP,zH (.ptr b3 (0+0)) h9 op=op (vz o6 1 (frQ c ps).length):=fun op=>H9.load (k:=4) (i:=0+0) rfl rfl;have l1:∀ op:AV->OP,zH (.ptr b3 (0+1)) h9 op=op (vz o7 1 rb.length):=fun op=>H9.load (k:=4) (i:=0+1) rfl rfl;simp only [l0,l1,zG];refine H9.appN (k:=2) (o:=o6) (c:=1) (new:=[I (c:Int)]) rfl (uj.rd (l:=[I (c:Int)]) (n:=1) (H9.own _ (Zal ..)) rfl) rfl rfl (by decide) (by decide) (by omega) fun o6' h10 nx10 _ H10 => ?_;have l0:∀ op:AV->OP,zH (.ptr b3 (0+0)) h10 op=op (vz o6 1 (frQ c ps).length):=fun op=>H10.load (k:=4) (i:=0+0) rfl rfl;have l1:∀ op:AV->OP,zH (.ptr b3 (0+1)) h10 op=op (vz o7 1 rb.length):=fun op=>H10.load (k:=4) (i:=0+1) rfl rfl;simp only [l0,l1,zG];refine H10.yu (l:=[rwV n ib]) rfl fun tb h11 nx11 H11 => ?_;have l0:∀ op:AV->OP,zH (.ptr b3 (0+0)) h11 op=op (vz o6 1 (frQ c ps).length):=fun op=>H11.load (k:=5) (i:=0+0) rfl rfl;have l1:∀ op:AV->OP,zH (.ptr b3 (0+1)) h11 op=op (vz o7 1 rb.length):=fun op=>H11.load (k:=5) (i:=0+1) rfl rfl;simp only [l0,l1,zG];refine H11.appN (k:=4) (o:=o7) (c:=1) (new:=[rwV n ib]) rfl (uj.rd (l:=[rwV n ib]) (n:=1) (H11.own _ (Zal ..)) rfl) rfl rfl (by decide) (by decide) (by omega) fun o7' h12 nx12 _ H12 => ?_;refine H12.store (k:=5) rfl (by simp) (d7 _ _ _) fun h13 H13 => ?_;refine H13.store (k:=5) rfl (by simp) (d7 _ _ _) fun h14 H14 => ?_;have H15:Hp h h14 nx12 (.arr ib c1::.gro o6' 1 ((frQ c ps).length+1) (((frQ c ps).map fun p=>I ((p:Nat):Int))++[I (c:Int)])::.gro o7' 1 (rb.length+1) (rb.map (rwV n)++[rwV n ib])::.arr b3 [vz o6' 1 ((frQ c ps).length+1),vz o7' 1 (rb.length+1)]::(List.zipWith Ob.arr rb cb++SL n o4 o5 rs cs ps T)):=H14.drop.drop;have H16:=H15.perm zmm;rw [F93.zvb,jy (by omega)];refine hR2 (m2-1) _ _ _ _ _ _ _ _ _ _ _ _ _ (by omega) ⟨c+1,o6',o7',rb++[ib],cb++[c1],by congr 1,by omega,?_,H16.cast ?_⟩
  ·rw [hfs,Zat];exact S2.add hc1
  ·rw [hfs,zk2 (by rw [S2.lr,S2.lc])];simp only [Zar,Zat,Zcv,Zbr,List.map_nil]
 have hx0:lines[0]? = some (lines.getD 0 []):=kI (by omega);have hxi:lines[i]? = some (lines.getD i []):=kI ci;have hm1:=hll _ (gY (d:=[]) (show 0<lines.length by omega));have hmi:=hll _ (gY (d:=[]) ci);have hM1:1<=M:=Zbj hS.t1 hS.tM;have hsz:=zme (m:=Q.length) (M:=M) (by omega) hM1 hM;have hX:2 ^ eX (Q.length+1)<=2 ^ eX 11:=Zei (by decide) (zw0 (by omega));obtain ⟨X,hXe⟩:∃ X,X=2 ^ eX (Q.length+1):=⟨_,rfl⟩;rw [<- hXe] at hsz hX;have hN:M+Q.length*M<=X:=by
  have:=Zak (M+Q.length*M) hM1;omega
 have hMX:M<=X:=by omega
 rw [Zaa (by omega),zD,zF,zA,zM,zA,F93.sH,sFx,l1,bH (i:=i) rfl ci,ldL (getT hxi)];refine pP H3 (by omega) (by omega) (zht hr ci) fun r cr h4 nx4 hcr H4 => ?_;have l1':∀ op:AV->OP,zH (.ptr b1 (0+1)) h4 op=op (qp lines):=fun op=>H4.load (i:=0+1) (tl (X:=[Ob.arr r cr]) (xN S)) rfl;rw [zA,F93.ay,sFx,l1',bH (j:=0) (i:=0) rfl (by omega),ldL (getT hx0)];refine f89 (by omega) _ _ _ _ ?_;rintro v1 f1 _;rw [rat1] at f1;rw [ldL (getT hx0)];simp only [zG,l1',sFx];rw [bH (j:=0) (i:=0) rfl (by omega)];simp only [zG];refine pP H4 (by omega) (by omega) (zht hr (by omega)) fun r0 cr0 h5 nx5 hcr0 H5 => ?_;have d01:∀ (l:List Int) (j:Nat),Dn t M (at' (sS n l) j):=fun l j=>Sg.dn (by rcases zfn n l j with e | e <;> rw [e];exact .inr (.inl rfl);exact .inr (.inr rfl)) hS.tM;have q7:∀ {q:Rat},Dn t M q->Qs 700 q:=fun hq=>hq.q7 hS.t1 hS.tM hMX hX
 refine zfm (kr:=1) (ko:=0) (k:=700) H5 rfl rfl (by omega) hcr hcr0 (gF _ _) (gF _ _) (by omega) f1 (by omega) (q7 (Sg.dn (.inr (.inr rfl)) hS.tM)) (pC fun j=>q7 (d01 _ j)) (pC fun j=>q7 (d01 _ j)) (fun x hx=>by
  obtain ⟨j,_,rfl⟩:=at_mem hx;rw [Rat.one_mul];exact q7 (d01 _ j)) fun c1 h6 nx6 hc1 H6 => ?_
 have H6:=H6.drop;rw [zA,zA,F93.rG,H6.zck (k:=2) rfl,zM];have qX:∀ {t N:Nat} {q:Rat},1<=t->t<=N->N<=X->Dn t N q->Qs 700 q:=fun h1 h2 h3 h=>h.q7 h1 h2 h3 hX;have htX:t<=M+Q.length*M:=by have:=hS.tM;omega
 refine F93.zmy (fun m x20 h' nx'=>∃ (k:Nat) (c:List AV) (q:List Rat),x20=I (k:Int)/\m+k=Q.length/\sF c q/\Rk n t M Q ps (rowZ n lines i) k q/\Hp h h' nx' ([.arr r c]++SL n o4 o5 rs cs ps T)) (m:=Q.length) (by omega) ⟨0,c1,_,rfl,rfl,hc1,Rk.zero hS (zhm ..) (zfo n lines i),H6⟩ ?_;rintro m2 y8 y9 y20 y21 h7 nx7 R2 ⟨k,c,q,rfl,hmk,hcq,hrk,H7⟩ hR2;rw [F93.t20,zA,F93.fZ,ug,zA,zB,F93.v21];by_cases ck:k<Q.length
 ·have hpk:ps[k]? = some (ps.getD k 0):=kI (by omega);have hpn:=hS.rng _ (Zae hpk);obtain ⟨rk,hrk0,hob⟩:=S.ob (n:=n) (o4:=o4) (o5:=o5) (ps:=ps) (T:=T) ck [.arr r c];obtain ⟨id5,g5,d5⟩:=H7.zdw (k:=2) (j:=k) rfl (show (ps.map fun p=>I ((p:Nat):Int))[k]? = some (I ((ps.getD k 0:Nat):Int)) by rw [List.getElem?_map,hpk];rfl);obtain ⟨id4,g4,d4⟩:=H7.zdw (k:=1) (j:=k) rfl (show (rs.map (rwV n))[k]? = some (rwV n rk) by rw [List.getElem?_map,hrk0];rfl);obtain ⟨cs2,e1,e2,_,fv⟩:=hcq.get (wJ (q:=q) (j:=ps.getD k 0) (by rw [hrk.len];exact hpn));have hkN:M+k*M<=M+Q.length*M:=by have:=Zak M (show k<=Q.length by omega);omega
  have hb:Sg (at' q (ps.getD k 0)):=by rw [hrk.late k (Zah _) ck];exact zfo ..
  rw [Zaa (by omega),zD,zF,zA,zM,zA,F93.fM,g5,d5,F93.nP,rwIx (j:=ps.getD k 0) rfl hpn,H7.qf (k:=0) rfl e2 e1,g4,d4]
  refine zfm (kr:=0) (ko:=[Ob.arr r c].length+(k+2)) (k:=700) H7 rfl hob (by show 1+(k+2)≠0;omega) hcq (S.row k ck) hrk.len (hS.row _ (gY ck)) (by omega) fv (by omega) (q7 (hb.dn hS.tM)) (pC fun j=>qX hS.t1 htX hN ((hrk.den j).mono hkN)) (pC fun j=>q7 (hS.den _ (gY ck) j)) (fun x hx=>by
   obtain ⟨j,_,rfl⟩:=at_mem hx;exact q7 (hb.mul (hS.den _ (gY ck) j))) fun c' h8 nx8 hc' H8 => ?_
  rw [F93.rV,jy (by omega)];exact hR2 (m2-1) _ _ _ _ _ _ (by omega) ⟨k+1,c',_,by congr 1,by omega,hc',hrk.next hS (zfo n lines i) ck,H8⟩
 obtain rfl:k=Q.length:=by omega
 rw [Zab (by omega),zC,zZ,yH,zA,F93.aF,xw (by omega),zA,zM];have hq0:∀ f,Mgf n lines f->dot q f=0:=fun f hfm=>by
  rw [hrk.eq,zc1 (n:=n) _ _ (fun x hx => ?_) (zhm ..),zrk hfm ci];have hz:=Zes (Zcx hx);exact ⟨hS.row _ hz.1,hdot f hfm _ hz.1⟩
 refine F93.zmu (fun m x10 h' nx'=>∃ z:Int,x10=I z /\ -1<=z/\z<(n:Int)/\(m:Int)=z+1/\h'=h7/\nx'=nx7) (m:=n) (by omega) ⟨(n:Int)-1,rfl,by omega,by omega,by omega,rfl,rfl⟩ ?_;rintro m3 w10 w22 h8 nx8 R3 ⟨z,rfl,hz1,hz2,hmz,rfl,rfl⟩ hR3;rw [F93.t30,zA,zA,F93.zat,F93.znu,F93.zsk,pz];by_cases cz:0<=z
 case neg =>
  rw [Zab (by omega)];simp only [yM,gQ,uGWf];rw [F93.zp7,F93.zj0];simp only [yM,zQ];rw [zB,F93.v22,zC,zZ,yH,zA,zA,F93.zdf,ug,Zaa (by omega),zB,F93.v23,zD,zZ,yH,F93.zjy,jy (by omega)];rw [hT] at H7;exact hR (m-1) _ _ _ _ _ _ _ _ _ _ _ _ _ _ _ _ _ _ _ _ _ (by omega) ⟨i+1,o4,o5,rs,cs,Q,ps,t,M,rfl,rfl,by congr 1,by omega,by omega,by omega,by omega,S,hS,hM,hdot,H7.drop⟩
 obtain ⟨j,rfl⟩:∃ j:Nat,z=(j:Int):=⟨z.toNat,by omega⟩;have hjn:j<n:=by omega
 obtain ⟨cs2,e1,e2,_,fv⟩:=hcq.get (wJ (q:=q) (j:=j) (by rw [hrk.len];exact hjn));rw [Zaa (by omega)];simp only [yN,uGWt];rw [rwIx (j:=j) rfl hjn,H7.qf (k:=0) rfl e2 e1];refine pR fv _ _ _ _ ?_;rintro _ rfl _;rw [F93.zp7,F93.zj0];simp only [yN,zO,ve];rw [zB,F93.v22];by_cases hv:at' q j=0
 ·rw [Zaa (fV.2 (Rat.num_eq_zero.2 hv)),zD,zF,zM,F93.aA,xw (by omega)];exact hR3 (m3-1) _ _ _ _ (by omega) ⟨(j:Int)-1,rfl,by omega,by omega,by omega,rfl,rfl⟩
 rw [Zab (fun w=>hv (Rat.num_eq_zero.1 (fV.1 w))),zC,zZ,yH,zA,zA,F93.zdf,ug,Zab (by omega),zB,F93.v23,zC,zF,zA,F93.o9,rwIx (j:=j) rfl hjn,H7.qf (k:=0) rfl e2 e1];obtain ⟨s,s1,sN,dinv,dmul⟩:=zji hS.t1 hv (hrk.den j);have hsX:s<=M+Q.length*M:=sN;refine zk0 fv (k:=700) (by omega) (qX hS.t1 htX hN (hrk.den j)) hv _ _ _ _ ?_;rintro v2 f2 _;refine zri (kr:=0) (k:=700) H7 rfl hcq hrk.len (by omega) f2 (by omega) (qX s1 sN hN (dinv.mono htX)) (pC fun j=>qX hS.t1 htX hN (hrk.den j)) fun c2 h9 nx9 hc2 H9 => ?_;have H9:Hp h h9 nx9 ([.arr r c2]++SL n o4 o5 rs cs ps T):=H9;have hNw:Nw n t M (M+Q.length*M) s Q ps j (uI (at' q j)⁻¹ q):=by
  refine ⟨by rw [d6];exact hrk.len,fun b=>by rw [mJ];exact dmul (hrk.den b),by rw [mJ];grind,fun b hb=>by rw [mJ,hrk.done b hb hb,Rat.zero_mul],hjn,s1,sN⟩
 have hq2:∀ f,Mgf n lines f->dot (uI (at' q j)⁻¹ q) f=0:=fun f hfm=>by rw [zea,hq0 f hfm,Zex]
 obtain ⟨q2,hq2e⟩:∃ q2,q2=uI (at' q j)⁻¹ q:=⟨_,rfl⟩;rw [<- hq2e] at hc2 hNw hq2;have hnl:(wH Q j q2).length=Q.length:=by unfold wH;rw [Zaz]
 have tsX:t*s<=M*(M+Q.length*M):=Zbd hS.tM hsX;rw [zA,zA,F93.zfx,H9.zck (k:=1) rfl,zM];refine F93.zzt (fun m x26 h' nx'=>∃ (k:Nat) (cs':List (List AV)),x26=I (k:Int)/\m+k=Q.length/\SM rs cs' ((wH Q j q2).take k++Q.drop k)/\Hp h h' nx' ([.arr r c2]++SL n o4 o5 rs cs' ps T)) (m:=Q.length) (by omega) ⟨0,cs,rfl,rfl,by rw [Zee,Zco,Zdt];exact S,H9⟩ ?_;rintro m4 u11 u26 u27 h10 nx10 R4 ⟨k,cs',rfl,hmk4,S',H10⟩ hR4;have hml:((wH Q j q2).take k++Q.drop k).length=Q.length:=by rw [Zar,Zas,Zde];omega
 have hrl:=S.lr;rw [F93.t47,zA,F93.zfy,ug,zA,zB,F93.v27];by_cases ck:k<Q.length
 ·have hQk:Q[k]? = some (Q.getD k []):=kI ck;have hmk:((wH Q j q2).take k++Q.drop k)[k]? = some (Q.getD k []):=qb5 hnl hQk;have hmg:((wH Q j q2).take k++Q.drop k).getD k []=Q.getD k []:=by rw [Zac,hmk];rfl
  have hnk:(wH Q j q2)[k]? = some (uF (at' (Q.getD k []) j) (Q.getD k []) q2):=by unfold wH;rw [List.getElem?_map,hQk];rfl
  obtain ⟨rk,hrk0,hob⟩:=S'.ob (n:=n) (o4:=o4) (o5:=o5) (ps:=ps) (T:=T) (by rw [hml];exact ck) [.arr r c2];have hrow:=S'.row k (by rw [hml];exact ck);rw [hmg] at hrow;obtain ⟨id4,g4,d4⟩:=H10.zdw (k:=1) (j:=k) rfl (show (rs.map (rwV n))[k]? = some (rwV n rk) by rw [List.getElem?_map,hrk0];rfl);have hok:=hS.row _ (gY (d:=[]) ck);obtain ⟨cs3,e3,e4,_,fo⟩:=hrow.get (wJ (q:=Q.getD k []) (j:=j) (by rw [hok];exact hjn));obtain ⟨lp,ln,ll⟩:=hNw.less hS (gY (d:=[]) ck);rw [Zaa (by omega),zD,zF,zA,zM,zA,F93.zzs,g4,d4,F93.znx,rwIx (j:=j) rfl hjn,H10.qf hob e4 e3]
  refine zfm (kr:=[Ob.arr r c2].length+(k+2)) (ko:=0) (k:=700) H10 hob rfl (by show 0≠1+(k+2);omega) hrow hc2 hok hNw.len (by omega) fo (by omega) (q7 (hS.den _ (gY ck) j)) (pC fun b=>q7 (hS.den _ (gY ck) b)) (pC fun b=>qX s1 sN hN (hNw.den b)) (fun x hx=>by
   obtain ⟨b,_,rfl⟩:=at_mem hx;exact qX (Zbd hS.t1 s1) tsX (by omega) (lp b)) fun c' h11 nx11 hc' H11 => ?_
  obtain ⟨S2,eL⟩:=S'.put (n:=n) (o4:=o4) (o5:=o5) (ps:=ps) (T:=T) (by rw [hml];exact ck) hrk0 hc' [.arr r c2];rw [F93.zde,jy (by omega)];exact hR4 (m4-1) _ _ _ _ _ (by omega) ⟨k+1,cs'.set k c',by congr 1,by omega,by rw [<- zy4 hnl hnk];exact S2,H11.cast eL⟩
 obtain rfl:k=Q.length:=by omega
 rw [Zad (by omega),Zby (by omega),Zce] at S';rw [Zab (by omega),zC,zZ,yH,F93.zf4];refine H10.yu (l:=[rwV n r]) rfl fun tb h11 nx11 H11 => ?_;refine H11.appN (k:=2) (o:=o4) (c:=1) (new:=[rwV n r]) rfl (uj.rd (l:=[rwV n r]) (n:=1) (H11.own _ (Zal ..)) rfl) rfl rfl (by decide) (by decide) (by omega) fun o4' h12 nx12 _ H12 => ?_;refine H12.yu (l:=[I (j:Int)]) rfl fun tb2 h13 nx13 H13 => ?_;refine H13.appN (k:=4) (o:=o5) (c:=1) (new:=[I (j:Int)]) rfl (uj.rd (l:=[I (j:Int)]) (n:=1) (H13.own _ (Zal ..)) rfl) rfl rfl (by decide) (by decide) (by omega) fun o5' h14 nx14 _ H14 => ?_;have H15:Hp h h14 nx14 (.arr r c2::.gro o4' 1 (rs.length+1) (rs.map (rwV n)++[rwV n r])::.gro o5' 1 (ps.length+1) ((ps.map fun p=>I ((p:Nat):Int))++[I (j:Int)])::(List.zipWith Ob.arr rs cs'++T)):=H14.drop.drop;have H16:=H15.perm zrj;have eL:(.gro o4' 1 (rs.length+1) (rs.map (rwV n)++[rwV n r])::.gro o5' 1 (ps.length+1) ((ps.map fun p=>I ((p:Nat):Int))++[I (j:Int)])::((List.zipWith Ob.arr rs cs'++[Ob.arr r c2])++T))=SL n o4' o5' (rs++[r]) (cs'++[c2]) (ps++[j]) T:=by
  unfold SL;rw [zk2 (by rw [S'.lr,S'.lc]),Zar,Zar,Zat,Zat];rfl
 have H17:=H16.cast eL;rw [hT] at H17;rw [F93.zjy,jy (by omega)];refine hR (m-1) _ _ _ _ _ _ _ _ _ _ _ _ _ _ _ _ _ _ _ _ _ (by omega) ⟨i+1,o4',o5',rs++[r],cs'++[c2],wH Q j q2++[q2],ps++[j],t*s,_,by rw [Zar];rfl,by rw [Zar];rfl,by congr 1,by omega,by omega,by omega,by rw [Zar,hnl,Zcv];omega,S'.add hc2,hS.next hNw,by rw [Zar,hnl,Zcv,<- hXe];exact hsz,fun f hfm q' hq' => ?_,H17⟩;rcases List.mem_append.1 hq' with hq' | hq'
 ·obtain ⟨o,ho,rfl⟩:=List.mem_map.1 hq';rw [xE _ _ _ _ (by rw [hS.row o ho,hNw.len]),hdot f hfm o ho,hq2 f hfm,Zex];grind
 ·obtain rfl:=List.mem_singleton.1 hq';exact hq2 f hfm
end Go.Ev
namespace Go.Ev
open Go Go.Proofs
theorem xF:∀ (a b:List Rat),dot a b=dot b a
 | [],[]=>rfl
 | [],_::_=>rfl
 | _::_,[]=>rfl
 | x::a,y::b=>by rw [dot,dot,xF a b];grind
theorem pX:∀ (r f:List Rat),(∀ j,at' r j=0)->dot r f=0
 | [],_,_=>by cases ‹List Rat› <;> rfl
 | x::r,[],_=>rfl
 | x::r,y::f,h=>by
  have h0:x=0:=h 0;rw [dot,pX r f fun j=>h (j+1),h0];grind
theorem zc3 (n j:Nat):at' (List.replicate n (0:Rat)) j=0:=by
 by_cases hj:j<n
 ·rw [at',Zac,List.getElem?_replicate,if_pos hj];rfl
 ·exact kN (by rw [Zbi];omega)
theorem zrt {n c:Nat} {g:List Rat} (hg:g.length=n) (hc:c<n):dot (wR n c) g=at' g c:=by
 unfold wR;rw [bD _ _ _ _ (by rw [Zbi];exact hc) (by rw [Zbi];exact hg.symm),zc3,pX _ _ (zc3 n)];grind
theorem zur {n c j:Nat} (h:j≠c):at' (wR n c) j=0:=by
 unfold wR;rw [zjj (fun e=>h e.symm),zc3]
theorem zec (c:Nat) (g:List Rat) (q:List Rat) (p:Nat):∀ l:List (List Rat×Nat),sumA c g (l++[(q,p)])=sumA c g l+at' g p*at' q c
 | []=>by simp only [Zco,sumA];grind
 |(q',p')::l=>by rw [Zch,sumA,sumA,zec c g q p l];grind
structure RkG (n:Nat) (Q:List (List Rat)) (ps:List Nat) (g:List Rat) (k:Nat) (r:List Rat):Prop where
 eq:r=redF ((aY Q ps).take k) g
 len:r.length=n
 val:∀ c,at' r c=at' g c-sumA c g ((aY Q ps).take k)
 late:∀ b,k<=b->b<Q.length->at' r (ps.getD b 0)=at' g (ps.getD b 0)
 done:∀ b,b<k->b<Q.length->at' r (ps.getD b 0)=0
theorem RkG.all {n t M:Nat} {Q:List (List Rat)} {ps:List Nat} {g:List Rat} (hS:St n t M Q ps) (hg:g.length=n):∀ k,k<=Q.length->RkG n Q ps g k (redF ((aY Q ps).take k) g)
 | 0,_=>⟨rfl,hg,fun c=>by rw [Zee,redF,sumA];grind,fun b _ _=>rfl,fun b h=>by omega⟩
 | k+1,hk=>by
  have h:=RkG.all hS hg k (by omega);have hk':k<Q.length:=by omega
  have hq:=gY (d:=[]) hk';have hll:(redF ((aY Q ps).take k) g).length=(Q.getD k []).length:=by rw [h.len,hS.row _ hq]
  have hl:=h.late k (Zah _) hk';refine ⟨rfl,?_,fun c => ?_,fun b h1 h2 => ?_,fun b h1 h2 => ?_⟩
  ·rw [wQ hS.len hk',qJ,u7 hll];exact h.len
  ·rw [wQ hS.len hk',qJ,kC hll,h.val c,zec,hl];grind
  ·rw [wQ hS.len hk',qJ,kC hll,hS.one k b hk' h2,if_neg (by omega),h.late b (by omega) h2];grind
  ·rw [wQ hS.len hk',qJ,kC hll,hS.one k b hk' h2];by_cases e:b=k
   ·subst e;rw [if_pos rfl];grind
   ·rw [if_neg (by omega),h.done b (by omega) h2];grind
theorem St.nodup {n t M:Nat} {Q:List (List Rat)} {ps:List Nat} (hS:St n t M Q ps):ps.Nodup:=by
 rw [List.nodup_iff_pairwise_ne,List.pairwise_iff_getElem];intro a b ha hb hab e;have ha':a<Q.length:=by have:=hS.len;omega
 have hb':b<Q.length:=by have:=hS.len;omega
 have h1:=hS.one a a ha' ha';have h2:=hS.one a b ha' hb';have e1:ps.getD a 0=ps[a]:=by rw [Zac,List.getElem?_eq_getElem ha];rfl
 have e2:ps.getD b 0=ps[b]:=by rw [Zac,List.getElem?_eq_getElem hb];rfl
 rw [if_pos rfl,e1] at h1;rw [if_neg (by omega),e2,<- e,h1] at h2;exact absurd h2 (by decide)
theorem zus {Q:List (List Rat)} {ps:List Nat} (h:ps.length=Q.length):(aY Q ps).map (·.2)=ps:=by
 exact List.map_snd_zip (by omega)
theorem qb7 {n t M:Nat} {Q:List (List Rat)} {ps:List Nat} {f g:List Rat} (hS:St n t M Q ps) (hg:g.length=n) (hq:∀ q∈Q,dot q f=0) (hb:∀ c,c<n->c∉ps->dot (oW n Q ps c) g=0):dot g f=0:=by
 have h:=RkG.all hS hg Q.length (Zah _);have hlz:(aY Q ps).length=Q.length:=by unfold aY;rw [List.length_zip,hS.len,Nat.min_self]
 rw [Zad (by omega)] at h;rw [<- zc1 (n:=n) (f:=f) (aY Q ps) g (fun x hx=>⟨hS.row _ (Zes hx).1,hq _ (Zes hx).1⟩) hg];refine pX _ _ fun c => ?_;by_cases hc:c<n
 ·by_cases hcp:c∈ps
  ·obtain ⟨b,hb1,hb2⟩:=Zek hcp;have e:ps.getD b 0=c:=by rw [Zac,List.getElem?_eq_getElem hb1];exact hb2
   have:=h.done b (by have:=hS.len;omega) (by have:=hS.len;omega)
   rwa [e] at this
  ·have h1:=hb c hc hcp;unfold oW at h1
   have h2:=zho (c:=c) hg (aY Q ps) (wR n c) (vZ n c) (by rw [zus hS.len];exact hS.nodup) (fun x hx=>by
    have hx2:=(Zes hx).2;exact ⟨hS.rng _ hx2,zur fun e=>hcp (e ▸ hx2)⟩)
   have h3:=h.val c;rw [Zad (by omega)] at h3;rw [h3];rw [zrt hg hc] at h2
   grind
 ·exact kN (by rw [h.len];omega)
theorem zmo (l:List Rat):∀ (a:Rat),l.foldl (· + ·) a=a+dot l (List.replicate l.length 1):=by
 induction l with
 | nil=>intro a;rw [List.foldl_nil];show a=a+0;grind
 | cons x l ih=>intro a;rw [Zdn,ih,Zbt,Zbw,dot];grind
theorem zfp {n:Nat} {l:List Int} {c:Int} {b:List Rat} (hb:b.length=n) (hc:0<=c/\c<(n:Int)) (hn:c∉l) (hl:∀ x∈l,0<=x):dot (sS n (l++[c])) b=dot (sS n l) b+at' b c.toNat:=by
 have hz:∀ (l:List Int) (q:List Rat),c∉l->(∀ x∈l,0<=x)->at' q c.toNat=0->at' (l.foldl (fun q c=>q.set c.toNat 1) q) c.toNat=0:=by
  intro l
  induction l with
  | nil=>intro q _ _ h;exact h
  | cons x l ih =>
   intro q hcl hx h;rw [Zdn];have hx0:=hx x (Zal ..);have hne:x≠c:=fun e=>hcl (by rw [e];exact Zal ..);refine ih _ (fun hm=>hcl (Zau _ hm)) (fun y hy=>hx y (Zau _ hy)) ?_;rw [zjj (by omega)];exact h
 rw [zd9,bD _ _ _ _ (by rw [gF];omega) (by rw [gF];exact hb.symm)];have h0:at' (sS n l) c.toNat=0:=hz l _ hn hl (zc3 n _);rw [h0];grind
end Go.Ev
namespace Go.Ev
open Go Go.Proofs
variable {B:Nat}
set_option maxRecDepth 100000
theorem zru {v:AV} {z:Int} (hv:bP v z):Pure Tryz.prog B 121 [v] (fun v=>∃ (n:Int) (ok:Bool),v=.tup [I n,.bool ok]/\(ok=true->n=z)/\(ok=false->9223372036854775808<=z.natAbs)):=by
 obtain ⟨s,w,rfl,hv⟩:=hv;refine yB fun h nx K H0 hK=>zP zS jA 100 fun hf => ?_;rw [bM.go,bM.t3,zA,bM.jm];refine H0.box (l:=[s,w]) rfl fun pa h1 nx1 H1 => ?_;rw [zA,bM.jl,sFx,H1.load (k:=0) (i:=0+0) rfl rfl,sFx,H1.load (k:=0) (i:=0+1) rfl rfl];rcases hv with ⟨rfl,rfl,_⟩ | ⟨n,rfl,rfl,_,hb⟩
 ·rw [zfj];simp only [zJ,zT];rw [bM.ret];exact hK _ _ _ _ _ H1 (jP (.int _ _) (.bool _)) ⟨_,true,rfl,fun _=>rfl,fun e=>absurd e (by decide)⟩
 ·have hl:1<=(dg 18446744073709551616 z.natAbs).length:=by rw [wO (by decide) (by omega)];simp
  rw [zjc hl];simp only [zJ,zT];rw [bM.ret];exact hK _ _ _ _ _ H1 (jP (.int _ _) (.bool _)) ⟨_,false,rfl,fun e=>absurd e (by decide),fun _=>hb⟩
theorem zrv {n:Nat} {l:List AV} {h:T Blk} {op:AV->OP} (hl:n<=l.length):zE n (.fp l) h op=op (.agg (l.take n)):=by
 show (bif Nat.ble n l.length then op (.agg (l.take n)) else .no 8)=_;rw [Zaf hl];rfl
theorem Hp.zrx {h0 h:T Blk} {nx:Pa} {L:List Ob} {k e n m off:Nat} {id:Pa} {l l2:List AV} {op:AV->OP} (H:Hp h0 h nx L) (hk:L[k]? = some (.gro (some id) e n l)) (hle:off+m<=l.length) (he:(l.drop off).take m=l2):zE m (.ptr id off) h op=op (.agg l2):=by
 obtain ⟨t,h1,h2,h3⟩:=H.own _ (Zae hk);show qc (T.get .no id h) (fun _ m' t=>bif Nat.ble (off+m) m' then op (.agg (yP t off m)) else .no 8) (.no 9)=_;rw [h1];show (bif Nat.ble (off+m) (n*e) then op (.agg (yP t off m)) else .no 8)=_;rw [Zaf (by omega),cond_true,mZ (l:=l) (by rw [h2];exact h3) hle,he]
def zed (c8:List AV) (x:Rat×Rat):Prop:=∃ s w s' w' a b a' b',c8=[s,w,s',w',a,b,a',b']/\fJ s w x.1.num/\fJ s' w' (x.1.den:Int)/\fJ a b x.2.num/\fJ a' b' (x.2.den:Int)
def zee (c:List AV) (prs:List (Rat×Rat)):Prop:=c.length=prs.length*8/\∀ j x,prs[j]? = some x->zed ((c.drop (j*8)).take 8) x
theorem zee.add {c c8:List AV} {prs:List (Rat×Rat)} {x:Rat×Rat} (h:zee c prs) (h8:zed c8 x):zee (c++c8) (prs++[x]):=by
 have hl8:c8.length=8:=by obtain ⟨s,w,s',w',a,b,a',b',rfl,_⟩:=h8;rfl
 refine ⟨by rw [Zar,Zar,h.1,hl8,Zcv];omega,fun j y hy => ?_⟩;by_cases e:j<prs.length
 ·rw [List.getElem?_append_left e] at hy;have:=h.2 j y hy;rw [List.drop_append_of_le_length (by rw [h.1];omega),List.take_append_of_le_length (by rw [Zde,h.1];omega)];exact this
 ·have hj:=(List.getElem?_eq_some_iff.1 hy).1;rw [Zar,Zcv] at hj;obtain rfl:j=prs.length:=by omega
  rw [List.getElem?_append_right (Zah _),Zdl] at hy;obtain rfl:=Option.some.inj hy;rw [<- h.1,List.drop_left,Zad (by omega)];exact h8
theorem zed.fix {c8:List AV} {x:Rat×Rat} (h:zed c8 x):∀ v∈c8,fP v=true:=fun v hv=>by
 obtain ⟨s,w,s',w',a,b,a',b',rfl,h1,h2,h3,h4⟩:=h;have:v∈[s,w,s',w']\/v∈[a,b,a',b']:=by
  simp only [Zap,List.not_mem_nil,or_false] at hv ⊢;rcases hv with h | h | h | h | h | h | h | h <;> simp [h]
 rcases this with q | q
 ·exact h1.fix4 h2 v q
 ·exact h3.fix4 h4 v q
theorem zry {h0 h:T Blk} {nx p b5:Pa} {L:List Ob} {k5 k:Nat} {rc c8:List AV} {x:Rat×Rat} {ra:Rat} {K:Kw Prop} (H:Hp h0 h nx L) (hk5:L[k5]? = some (.arr b5 rc)) (hr:jX (.agg rc) ra) (h8:zed c8 x) (hk:k<=40000) (q1:Qs k x.1) (q2:Qs k x.2) (q3:Qs k ra) (q4:Qs k (ra*x.2)) (hK:∀ h' nx',Hp h0 h' nx' L->K (.bool (!decide (x.1=ra*x.2))) h' nx'=.ok True):(CS Tryz.prog B).fn 117 p [.agg c8,.ptr b5 0] h nx K=.ok True:=by
 obtain ⟨s,w,s',w',a,b,a',b',rfl,i1,i2,i3,i4⟩:=h8;have hrl:rc.length=4:=by obtain ⟨_,_,_,_,e,_⟩:=hr;rw [AV.agg.inj e];rfl
 refine zP zS jA 100 fun hf => ?_;rw [fF.go,fF.t3,zA,fF.jm];refine H.box (l:=[s,w,s',w',a,b,a',b']) rfl fun bx h1 nx1 H1 => ?_;have l1:∀ op:AV->OP,zE 4 (.ptr bx (0+0)) h1 op=op (.agg [s,w,s',w']):=fun op=>H1.qf (k:=0) (off:=0+0) rfl (by simp) rfl;have l2:∀ op:AV->OP,zE 4 (.ptr bx (0+4)) h1 op=op (.agg [a,b,a',b']):=fun op=>H1.qf (k:=0) (off:=0+4) rfl (by simp) rfl;have l3:∀ op:AV->OP,zE 4 (.ptr b5 0) h1 op=op (.agg rc):=fun op=>H1.zk (k:=k5+1) (n:=4) hk5 hrl;rw [zA,fF.jl];simp only [sFx,l1,l2,l3];refine zfl hr ⟨_,_,_,_,rfl,i3,i4⟩ hk q3 q2 _ _ _ _ ?_;rintro v6 f6 _;simp only [l1,zG];refine zui ⟨_,_,_,_,rfl,i1,i2⟩ f6 hk q1 q4 _ _ _ _ ?_;rintro _ rfl _;rw [yU];simp only [zJ,zT];rw [fF.ret];exact hK _ _ H1.drop
theorem sIxG {id:Pa} {e n j:Nat} {z:Int} {op:AV->OP} (hz:z=(j:Int)) (hj:j<n):zL e (.sl id 0 n none e) (I z) op=op (.ptr id (j*e)):=by
 subst hz;rw [wT hj,Zbe]
theorem zy7 {h0 h:T Blk} {nx p b5:Pa} {L:List Ob} {kg k5 k:Nat} {o:Option Pa} {rc c:List AV} {prs:List (Rat×Rat)} {ra:Rat} {K:Kw Prop} (H:Hp h0 h nx L) (hkg:L[kg]? = some (.gro o 8 prs.length c)) (hc:zee c prs) (hl:prs.length<=1000) (hk5:L[k5]? = some (.arr b5 rc)) (hr:jX (.agg rc) ra) (hk:k<=40000) (q12:∀ x∈prs,Qs k x.1/\Qs k x.2/\Qs k (ra*x.2)) (q3:Qs k ra)
  (hK:∀ (z:Int) h' nx',(0<=z↔∃ x∈prs,x.1≠ra*x.2)->Hp h0 h' nx' L->K (I z) h' nx'=.ok True):(CS Tryz.prog B).fn 199 p [vz o 8 prs.length,.fn 117 (.of 117) [.ptr b5 0]] h nx K=.ok True:=by
 refine zP zS jA 2000 fun hf => ?_;rw [jr.go,jr.t22,zA,jr.jm,zA,zA,jr.jl,H.zck hkg,zM];refine jr.znt (fun m x5 h' nx'=>∃ i:Nat,x5=I (i:Int)/\m+i=prs.length/\(∀ x∈prs.take i,x.1=ra*x.2)/\Hp h0 h' nx' L) (m:=prs.length) (by omega) ⟨0,rfl,rfl,by simp,H⟩ ?_;rintro m z2 z3 z5 z6 z7 h3 nx3 R ⟨i,rfl,hm,hn,H3⟩ hR;rw [jr.t15,zA,jr.qh,ug,zA,zB,jr.v6];by_cases ci:i<prs.length
 ·have hx:prs[i]? = some prs[i]:=List.getElem?_eq_getElem ci;have h8:=hc.2 i _ hx;have hcl:=hc.1;obtain ⟨q1,q2,q4⟩:=q12 _ (Zay ci);obtain ⟨id,rfl⟩:∃ id,o=some id:=by
   cases o with
   | none=>obtain ⟨_,hz⟩:=H3.own _ (Zae hkg);omega
   | some id=>exact ⟨id,rfl⟩
  rw [Zaa (by omega),zD,zF,zA,zM,zA,jr.rD,zA,jr.bJ];rw [show vz (some id) 8 prs.length=.sl id 0 prs.length none 8 from rfl,sIxG (j:=i) rfl ci,H3.zrx hkg (by omega) rfl,vK];refine zry H3 hk5 hr h8 hk q1 q2 q3 q4 fun h4 nx4 H4 => ?_;rw [zB,jr.v7];by_cases e:prs[i].1=ra*prs[i].2
  ·rw [Zaa e,Zag,zC,zF,jr.ng,jy (by omega)];refine hR (m-1) _ _ _ _ _ _ _ (by omega) ⟨i+1,by congr 1,by omega,fun x hx' => ?_,H4⟩;rw [Zan,hx,Zcm,Zbf,Zbo] at hx';rcases hx' with hx' | rfl
   ·exact hn x hx'
   ·exact e
  ·rw [Zab e,Zaj,zD,zA,jr.mg];simp only [zJ,uA,zT];rw [jr.ret];exact hK _ _ _ ⟨fun _=>⟨_,Zay ci,e⟩,fun _=>by omega⟩ H4
 ·rw [Zab (by omega),zC,zZ,yH,zA,jr.sW];simp only [zJ,zT];rw [jr.ret];rw [Zad (by omega)] at hn;exact hK _ _ _ ⟨fun q=>by omega,fun ⟨x,hx,e⟩=>absurd (hn x hx) e⟩ H3
theorem zut {h0 h:T Blk} {nx p b5:Pa} {L:List Ob} {kg k5 k:Nat} {o:Option Pa} {rc c:List AV} {prs:List (Rat×Rat)} {ra:Rat} {K:Kw Prop} (H:Hp h0 h nx L) (hkg:L[kg]? = some (.gro o 8 prs.length c)) (hc:zee c prs) (hl:prs.length<=1000) (hk5:L[k5]? = some (.arr b5 rc)) (hr:jX (.agg rc) ra) (hk:k<=40000) (q12:∀ x∈prs,Qs k x.1/\Qs k x.2/\Qs k (ra*x.2)) (q3:Qs k ra)
  (hK:∀ (b:Bool) h' nx',(b=true↔∃ x∈prs,x.1≠ra*x.2)->Hp h0 h' nx' L->K (.bool b) h' nx'=.ok True):(CS Tryz.prog B).fn 116 p [vz o 8 prs.length,.fn 117 (.of 117) [.ptr b5 0]] h nx K=.ok True:=by
 refine zP zS jA 2000 fun hf => ?_;rw [fE.go,fE.t3,zA,fE.jm,zA,fE.jl];refine zy7 H hkg hc hl hk5 hr hk q12 q3 fun z h1 nx1 hz H1 => ?_;rw [pz];simp only [zJ,zT];rw [fE.ret];exact hK _ _ _ (by rw [decide_eq_true_eq];exact hz) H1
theorem Dn.add {t M N:Nat} {p q:Rat} (hp:Dn t M p) (hq:Dn t N q):Dn t (M+N) (p+q):=by
 have:=hp.sub hq.neg;rw [show p - -q=p+q by grind] at this;exact this
theorem qb8 {m:Nat} (hm:m<=1000000) {K:AV->OP}:zi .quo .int (I (m:Int)) (I 2) K=K (I ((m / 2:Nat):Int)):=by
 rw [zwu (by omega) (by decide),Int.tdiv_eq_ediv_of_nonneg (by omega)]
 congr 2
theorem zhu (op:KW3->OP) (h:T Blk) (nx:Pa) (k:KW3):sGW (.bool true) false op h nx k=k .u h nx:=nr rfl
theorem zhv (op:KW3->OP) (h:T Blk) (nx:Pa) (k:KW3):sGW (.bool false) false op h nx k=op k:=nr rfl
def totQ (b:List Rat) (j:Nat):Rat:=(b.take j).foldl (· + ·) 0
def conQ (b:List Rat) (l:List Int) (j:Nat):Rat:=(l.take j).foldl (fun s c=>s+at' b c.toNat) 0
theorem mI {b:List Rat} {j:Nat} (h:j<b.length):totQ b (j+1)=totQ b j+at' b j:=by
 unfold totQ;rw [Zan,wJ h,Zcm,Zfb];rfl
theorem xG {b:List Rat} {l:List Int} {j:Nat} (h:j<l.length):conQ b l (j+1)=conQ b l j+at' b l[j].toNat:=by
 unfold conQ;rw [Zan,List.getElem?_eq_getElem h,Zcm,Zfb];rfl
def prQ (l:List Int) (b:List Rat):Rat×Rat:=(totQ b b.length,conQ b l l.length)
theorem zuu {b:List Rat} {n:Nat} (hb:b.length=n):totQ b b.length=dot (List.replicate n 1) b:=by
 unfold totQ;rw [Zad (Zah _),zmo,hb,xF];grind
theorem zfq {b:List Rat} {n:Nat} {l:List Int} (hb:b.length=n) (hl:AscL n l):∀ j,j<=l.length->conQ b l j=dot (sS n (l.take j)) b
 | 0,_=>by
  have:dot (sS n []) b=0:=pX _ _ (zc3 n);rw [Zee,this];rfl
 | j+1,hj=>by
  have hx:l[j]? = some l[j]:=List.getElem?_eq_getElem (by omega);rw [xG (by omega),zfq hb hl j (by omega),Zan,hx,Zcm];refine (zfp hb (hl.2.2 _ (Zay (by omega))) (fun hm => ?_) fun x hx=>(hl.2.2 _ (Zcx hx)).1).symm;obtain ⟨i,hi,he⟩:=Zek hm;rw [Zas] at hi;rw [List.getElem_take] at he;have:=List.pairwise_iff_getElem.1 hl.2.1 i j (by omega) (by omega) (by omega);omega
def zrz (n:Nat) (lines:List (List Int)) (x e:Int):Prop:=(e=0\/e=7\/e=21)/\(lines≠[]->∀ (f:List Rat) (k:Int),Mgf n lines f->dot f (List.replicate n 1)=(((n*(n+1) / 2:Nat):Int):Rat)->dot f (sS n (lines.getD 0 []))=(k:Rat)->k.natAbs<9223372036854775808->(e=0->x=k)/\e≠21)/\(lines=[]->e=7)
theorem big2 {X:Nat} (h:X<=65536*(2 ^ eX 11*2 ^ eX 11)):X<18446744073709551616 ^ 700:=by
 have e2:(65536:Nat)=2 ^ 16:=by decide
 rw [e2,<- Zcn,<- Zcn] at h;exact zw1 (k:=700) h (by decide)
theorem zjn {n:Nat} {lines:List (List Int)} (hn:n<=16) (hl:lines.length<=12) (hll:∀ l∈lines,l.length<=16) (he:jJ (n:Int) lines=0):Pure Tryz.prog B 33 [.agg [I (n:Int),qp lines]] (fun v=>∃ x e:Int,v=.tup [I x,I e]/\zrz n lines x e):=by
 obtain ⟨n',hn',_,_,_,hasc⟩:=zjk he;have en:n'=n:=by omega
 rw [en] at hasc;have hr:∀ l∈lines,∀ c∈l,0<=c/\c<(n:Int):=fun l hlm=>(hasc l hlm).2.2;refine yB fun h nx K H0 hK=>zP zS jA 1000 fun hf => ?_;have ret:∀ {x e:Int} {h1 nx1 L},Hp h h1 nx1 L->zrz n lines x e->K (.tup [I x,I e]) h1 nx1=.ok True:=fun H hc=>hK _ _ _ _ _ H (jP (zY rfl) (zY rfl)) ⟨_,_,rfl,hc⟩;rw [F33.go,F33.t91,zA,F33.jm];refine H0.box (l:=[I (n:Int),qp lines]) rfl fun b1 h1 nx1 H1 => ?_;rw [zA,zA,F33.jl,H1.zk (k:=0) (n:=2) rfl rfl];refine zw2 (fun q hq=>by have:=hll q hq;omega) _ _ _ _ ?_;rintro _ rfl _;rw [he,zA,F33.qh,vk,Zaa rfl,Zag,zB,F33.v15,zC,zF,zA,zA,F33.sH,sFx,H1.load (k:=0) (i:=0+1) rfl rfl,zX,ve,zB,F33.v16];by_cases c0:lines.length=0
 ·rw [Zaa (by omega),zD,zA,F33.ay];simp only [zJ,zT];rw [F33.ret];exact ret H1 ⟨.inr (.inl rfl),fun hne=>absurd (Zbu c0) hne,fun _=>rfl⟩
 have hx0:lines[0]? = some (lines.getD 0 []):=kI (by omega);have hm0:=gY (l:=lines) (d:=[]) (show 0<lines.length by omega);obtain ⟨l0,hl0⟩:∃ l0,l0=lines.getD 0 []:=⟨_,rfl⟩;rw [<- hl0] at hx0 hm0;have hl16:=hll _ hm0;have hr0:=hr _ hm0;rw [Zab (by omega),zC,zF,zA,F33.fM];refine H1.alloc fun b5 h2 nx2 H2 => ?_;rw [zA,F33.nP,zA,F33.sJ,zA,zA,F33.ru,H2.zk (k:=1) (n:=2) rfl rfl];refine zmn hn hl hll hr _ _ _ _ ?_;rintro _ ⟨Q,ps,⟨⟨t,M,hS,hM⟩,hdot⟩,cb,hcl,hcr,rfl⟩ _;obtain ⟨Bs,hBs⟩:∃ Bs,Bs=(frQ n ps).map (oW n Q ps):=⟨_,rfl⟩;rw [<- hBs] at hcl hcr ⊢;have hBl:Bs.length<=16:=by rw [hBs,Zaz];exact Zbj (zk6 n ps) hn
 have hBn:∀ b∈Bs,b.length=n/\∀ j,Dn t M (at' b j):=fun b hb=>by
  rw [hBs] at hb;obtain ⟨c,_,rfl⟩:=List.mem_map.1 hb;exact ⟨zhn ..,zul hS c⟩
 have ht1:=hS.t1;have htM:=hS.tM;have hMM:M*M<=2 ^ eX 11*2 ^ eX 11:=Zbd hM hM;have hM2:M<=M*M:=Nat.le_mul_self M;obtain ⟨Z,hZ⟩:∃ Z,Z=2 ^ eX 11*2 ^ eX 11:=⟨_,rfl⟩;rw [<- hZ] at hMM;have qB:∀ {t N:Nat} {q:Rat},1<=t->t<=N->N<=65536*Z->Dn t N q->Qs 700 q:=fun h1 h2 h3 hd=>hd.qs h1 h2 (big2 (by rw [<- hZ];exact h3));rw [jM,zX,zM];have H2:=H2.oZ 8;refine F33.zny (fun m x6 x7 x19 h' nx'=>∃ (a:Nat) (o:Option Pa) (gc rc:List AV) (found:Bool) (ra:Rat),x6=.bool found/\x7=vz o 8 a/\x19=I (a:Int)/\m+a=Bs.length/\zee gc ((Bs.take a).map (prQ l0))/\rc.length=4/\(found=true->jX (.agg rc) ra/\∃ s,1<=s/\s<=16*M/\Dn s (16*M) ra)/\Hp h h' nx' [.gro o 8 a gc,.arr b5 rc,.arr b1 [I (n:Int),qp lines]]) (m:=Bs.length) (by omega) ⟨0,none,[],_,false,0,rfl,rfl,rfl,rfl,⟨rfl,fun j x hx=>by simp at hx⟩,rfl,fun e=>absurd e (by decide),H2⟩ ?_;rintro m z6 z7 z8 z9 z10 z11 z19 z20 z21 z22 z23 z24 z25 z26 z27 z28 z29 h3 nx3 R ⟨a,o,gc,rc,found,ra,rfl,rfl,rfl,hma,hgc,hrc,hfo,H3⟩ hR;rw [F33.t63,zA,F33.rV,ug,zA,zB,F33.v20];by_cases ca:a<Bs.length
 case neg =>
  obtain rfl:a=Bs.length:=by omega
  rw [Zab (by omega),zC,zZ,yH,zA,zA,F33.znz];obtain ⟨prs,hprs⟩:∃ prs,prs=Bs.map (prQ l0):=⟨_,rfl⟩;rw [Zad (Zah _),<- hprs] at hgc;have epl:Bs.length=prs.length:=by rw [hprs,Zaz]
  have zr0:∀ {h1 nx1 L},Hp h h1 nx1 L->K (.tup [I 0,I 7]) h1 nx1=.ok True:=fun H=>ret H ⟨.inr (.inl rfl),fun _ _ _ _ _ _ _=>⟨fun e=>absurd e (by decide),by decide⟩,fun _=>rfl⟩;rw [F33.zac,F33.zad,yU];cases found with
  | false =>
   simp only [Zaj,yW,gQ,zhu];rw [F33.eu,F33.sZ];simp only [yW,zO,gQ,zhu];rw [F33.aP,F33.rW];simp only [zO];rw [zB,F33.v30,zD,zA,F33.zf8];simp only [zJ,zT];rw [F33.ret];exact zr0 H3
  | true =>
  obtain ⟨fra,s,s1,sN,hra⟩:=hfo rfl;have qra:Qs 700 ra:=qB s1 sN (by omega) hra;simp only [Zag,yJ,zhv];rw [H3.zk (k:=1) (n:=4) rfl hrc];refine pR fra _ _ _ _ ?_;rintro _ rfl _;rw [F33.eu,F33.sZ];simp only [yJ,zQ];rw [ve];by_cases hra0:ra=0
  ·rw [Zaa (fV.2 (Rat.num_eq_zero.2 hra0))];simp only [yW,gQ,zhu];rw [F33.aP,F33.rW];simp only [zO];rw [zB,F33.v30,zD,zA,F33.zf8];simp only [zJ,zT];rw [F33.ret];exact zr0 H3
  rw [Zab (fun q=>hra0 (Rat.num_eq_zero.1 (fV.1 q)))];simp only [yJ,zhv];rw [epl] at H3;rw [show vz o 8 Bs.length=vz o 8 prs.length by rw [epl]];have hprB:∀ x∈prs,Dn t (16*M) x.1/\Dn t (16*M) x.2:=fun x hx=>by
   rw [hprs] at hx;obtain ⟨b,hb,rfl⟩:=List.mem_map.1 hx;obtain ⟨hbl,hbd⟩:=hBn b hb;have d1:∀ j,j<=b.length->Dn t (j*M) (totQ b j):=by
    intro j
    induction j with
    | zero=>intro _;rw [Zec];exact Dn.zero _ _
    | succ j ih=>intro hj;rw [mI (by omega),Zam,Zbx];exact (ih (by omega)).add (hbd j)
   have d2:∀ j,j<=l0.length->Dn t (j*M) (conQ b l0 j):=by
    intro j
    induction j with
    | zero=>intro _;rw [Zec];exact Dn.zero _ _
    | succ j ih=>intro hj;rw [xG (by omega),Zam,Zbx];exact (ih (by omega)).add (hbd _)
   exact ⟨(d1 _ (Zah _)).mono (Zak M (by omega)),(d2 _ (Zah _)).mono (Zak M (by omega))⟩
  have e256:16*M*(16*M)=256*(M*M):=by rw [Nat.mul_mul_mul_comm]
  refine zut (kg:=0) (k5:=1) (k:=700) H3 rfl hgc (by omega) rfl fra (by omega) (fun x hx=>by
   obtain ⟨d1,d2⟩:=hprB x hx;refine ⟨qB ht1 (show t<=16*M by omega) (by omega) d1,qB ht1 (show t<=16*M by omega) (by omega) d2,qB (Zbd s1 ht1) (Zbd sN (show t<=16*M by omega)) (by omega) (hra.mul d2)⟩) qra fun bb h4 nx4 hbb H4 => ?_
  rw [F33.aP,F33.rW];simp only [zQ];rw [zB,F33.v30];cases bb with
  | true =>
   rw [zD,zA,F33.zf8];simp only [zJ,zT];rw [F33.ret];exact zr0 H4
  | false =>
  have hall:∀ x∈prs,x.1=ra*x.2:=fun x hx=>by
   by_cases e:x.1=ra*x.2
   ·exact e
   ·exact absurd (hbb.2 ⟨x,hx,e⟩) (by decide)
  have hnn:n*(n+1)<=16*17:=Zbd hn (by omega);have a1:∀ K:AV->OP,zi .add .int (I (n:Int)) (I 1) K=K (I ((n+1:Nat):Int)):=fun K=>by rw [jy (by omega)];simp
  have m1:∀ K:AV->OP,zi .mul .int (I (n:Int)) (I ((n+1:Nat):Int)) K=K (I ((n*(n+1):Nat):Int)):=fun K=>by
   have e:(n:Int)*((n+1:Nat):Int)=((n*(n+1):Nat):Int):=by simp
   rw [nU (by rw [e];omega),e]
  have q1:∀ K:AV->OP,zi .quo .int (I ((n*(n+1):Nat):Int)) (I 2) K=K (I ((n*(n+1) / 2:Nat):Int)):=fun K=>qb8 (by omega);obtain ⟨X,hXe⟩:∃ X:Nat,X=n*(n+1) / 2:=⟨_,rfl⟩;have hX:X<=136:=by omega
  have lb:∀ op:AV->OP,zH (.ptr b1 (0+0)) h4 op=op (I (n:Int)):=fun op=>H4.load (k:=2) (i:=0+0) rfl rfl;have l5:∀ op:AV->OP,zE 4 (.ptr b5 0) h4 op=op (.agg rc):=fun op=>H4.zk (k:=1) (n:=4) rfl hrc;have ck:(true&&true)=true:=rfl;rw [zC,zF,zA,F33.zf6,ck,jL];simp only [sFx,lb,a1,m1,q1,l5];rw [<- hXe];refine f89 (by omega) _ _ _ _ ?_;rintro vx fx _;simp only [sFx,lb,a1,m1,q1,l5,zG];have qX:Qs 700 (((X:Nat):Int):Rat):=qB (t:=1) (N:=136) (by omega) (by omega) (by omega) ⟨(X:Int),by grind,by omega⟩;refine zrf fx fra (k:=700) (by omega) (by omega) qX qra hra0 _ _ _ _ ?_;rintro _ ⟨s3,w3,s3',w3',rfl,k1,k2⟩ _;simp only [lb,l5,zG];refine H4.alloc fun b12 h5 nx5 H5 => ?_;have lb:∀ op:AV->OP,zH (.ptr b1 (0+0)) h5 op=op (I (n:Int)):=fun op=>H5.load (k:=3) (i:=0+0) rfl rfl;have l5:∀ op:AV->OP,zE 4 (.ptr b5 0) h5 op=op (.agg rc):=fun op=>H5.zk (k:=2) (n:=4) rfl hrc;simp only [lb,l5,zG];refine H5.jg (l2:=[s3,w3,s3',w3']) (k:=0) rfl rfl rfl fun h6 H6 => ?_;obtain ⟨cc,hcc⟩:∃ cc:Rat,cc=(((X:Nat):Int):Rat) / ra:=⟨_,rfl⟩;rw [<- hcc] at k1 k2;have fcc:jX (.agg [s3,w3,s3',w3']) cc:=⟨_,_,_,_,rfl,k1,k2⟩;have key:lines≠[]->∀ (f:List Rat) (k:Int),Mgf n lines f->dot f (List.replicate n 1)=(((n*(n+1) / 2:Nat):Int):Rat)->dot f (sS n (lines.getD 0 []))=(k:Rat)->cc=(k:Rat):=fun _ f k hfm hft hfk=>by
   have hil:=gF n l0;have hol:(List.replicate n (1:Rat)).length=n:=Zbi;have hz:=qb7 (g:=uF ra (List.replicate n 1) (sS n l0)) hS (by rw [u7 (by rw [hol,hil])];exact hol) (hdot f hfm) fun c hc hcp=>by
    have hmb:oW n Q ps c∈Bs:=by
     rw [hBs];exact Zen (by unfold frQ;rw [Zdb];exact ⟨List.mem_range.2 hc,by simp [hcp]⟩)
    have h1:=hall (prQ l0 (oW n Q ps c)) (by rw [hprs];exact Zen hmb);have hbn:=(hBn _ hmb).1;unfold prQ at h1;have h2:=zfq hbn (hasc _ hm0) l0.length (Zah _);rw [Zad (Zah _)] at h2;have h1:totQ (oW n Q ps c) (oW n Q ps c).length=ra*conQ (oW n Q ps c) l0 l0.length:=h1;rw [zuu hbn,h2] at h1;rw [xF,xE _ _ _ _ (by rw [hol,hil]),h1];grind
   rw [xE _ _ _ _ (by rw [hol,hil]),xF _ f,xF _ f,hft,hl0,hfk,<- hXe] at hz;rw [hcc,Rat.div_def]
   grind
  rw [zA,F33.zz6,H6.zk (k:=0) (n:=4) rfl rfl];have qcc:Qs 700 cc:=by
   obtain ⟨s4,r1,r2,_,r4⟩:=zji s1 hra0 hra;have hd:Dn s (s*X) (((X:Nat):Int):Rat):=⟨(s:Int)*(X:Int),by rw [Zer];grind,by rw [Zed,Zcl,Zcl];exact Zah _⟩;have hsX:s*X<=16*M*136:=Zbd sN hX;have:=(r4 hd).mono hsX;rw [hcc,Rat.div_def];exact qB r1 (show s4<=16*M*136 by omega) (by omega) this
  refine zrg fcc (k:=700) (by omega) qcc _ _ _ _ ?_;rintro vi fi _;refine zru fi _ _ _ _ ?_;rintro _ ⟨xn,ok,rfl,hok,hnok⟩ _;rw [yL,yI,zA,zA,F33.zz7,H6.zk (k:=0) (n:=4) rfl rfl];refine mR fcc _ _ _ _ ?_;rintro _ rfl _;rw [yU];have out:∀ {x e:Int},zrz n lines x e->K (.tup [I x,I e]) h6 nx5=.ok True:=fun hc=>ret H6 hc;by_cases hw:cc.den=1
  ·rw [Zaa hw];have hfl:cc.num / (cc.den:Int)=cc.num:=by rw [hw];simp
   rw [hfl] at hok hnok;simp only [Zag,yJ,yU,zQ];rw [zB,F33.v31];cases ok with
   | true =>
    rw [Zag,zC,zF,zA,F33.zz8];simp only [zJ,zT];rw [F33.ret];refine out ⟨.inl rfl,fun hne f k hfm hft hfk hks=>⟨fun _ => ?_,by decide⟩,fun e=>absurd (by rw [e];rfl) c0⟩;have:=key hne f k hfm hft hfk;rw [hok rfl,this,Zeq]
   | false =>
    rw [Zaj,zD,zA,F33.zj1];simp only [zJ,zT];rw [F33.ret];refine out ⟨.inr (.inr rfl),fun hne f k hfm hft hfk hks => ?_,fun e=>absurd (by rw [e];rfl) c0⟩;have:=key hne f k hfm hft hfk;have h9:=hnok rfl;rw [this,Zeq] at h9;omega
  ·rw [Zab hw];simp only [Zaj,yW,gQ,zO];rw [zB,F33.v31,zD,zA,F33.zj1];simp only [zJ,zT];rw [F33.ret];refine out ⟨.inr (.inr rfl),fun hne f k hfm hft hfk hks => ?_,fun e=>absurd (by rw [e];rfl) c0⟩;have:=key hne f k hfm hft hfk;exact absurd (by rw [this,Rat.den_intCast]) hw
 have hb:=gY (d:=[]) ca;have hba:Bs[a]? = some (Bs.getD a []):=kI ca;have hca:cb[a]? = some (cb.getD a []):=kI (by omega);obtain ⟨hbl,hbd⟩:=hBn _ hb;have hrow:=hcr a ca;obtain ⟨b,hbe⟩:∃ b,b=Bs.getD a []:=⟨_,rfl⟩;rw [<- hbe] at hba hbl hbd hrow;obtain ⟨c,hce⟩:∃ c,c=cb.getD a []:=⟨_,rfl⟩;rw [<- hce] at hca hrow;rw [Zaa (by omega),zD,zF,zA,zM,zA,F33.sW,bH (i:=a) rfl ca,ldL (show (cb.map fun c=>AV.lst 4 n c)[a]? = some (.lst 4 n c) by rw [List.getElem?_map,hca];rfl),zA,F33.zfw];refine f89 (by omega) _ _ _ _ ?_;rintro _ ⟨s,w,s',w',rfl,i1,i2⟩ _;refine f89 (by omega) _ _ _ _ ?_;rintro _ ⟨s2,w2,s2',w2',rfl,j1,j2⟩ _;rw [rat0] at i1 i2 j1 j2;rw [show ∀ K:AV->OP,gC [(I 0),.zf,(I 0),.zf,(I 0),.zf,(I 0),.zf] [(0,4,.agg [s,w,s',w']),(4,4,.agg [s2,w2,s2',w2'])] K=K (.agg [s,w,s',w',s2,w2,s2',w2']) from fun K=>nr rfl];refine H3.alloc fun b9 h4 nx4 H4 => ?_;refine H4.jg (l2:=[s,w,s',w',s2,w2,s2',w2']) (k:=0) rfl rfl rfl fun h5 H5 => ?_;rw [zA,zA,F33.sV,zX,zM];refine F33.zz4 (fun m x23 h' nx'=>∃ (j:Nat) (s w s' w':AV),x23=I (j:Int)/\m+j=n/\fJ s w (totQ b j).num/\fJ s' w' ((totQ b j).den:Int)/\Dn t (j*M) (totQ b j)/\Hp h h' nx' [.arr b9 [s,w,s',w',s2,w2,s2',w2'],.gro o 8 a gc,.arr b5 rc,.arr b1 [I (n:Int),qp lines]]) (m:=n) (by omega) ⟨0,s,w,s',w',rfl,rfl,i1,i2,by rw [Zec];exact Dn.zero _ _,H5⟩ ?_;rintro m2 u10 u23 u24 h6 nx6 R2 ⟨j,s,w,s',w',rfl,hmj,i1,i2,hdj,H6⟩ hR2;rw [F33.t31,zA,F33.aZ,ug,zA,zB,F33.v24];have hjM:j*M<=16*M:=Zak M (by omega);by_cases cj:j<n
 ·obtain ⟨cs2,e1,e2,_,fv⟩:=hrow.get (wJ (q:=b) (j:=j) (by omega));obtain ⟨so,wo,so',wo',e5,o1,o2⟩:=fv;obtain rfl:=AV.agg.inj e5;rw [Zaa (by omega),zD,zF,zA,zM,zA,F33.aF,zwx (j:=j) rfl cj,zrv (by rw [Zde];omega),e1];refine H6.alloc fun b10 h7 nx7 H7 => ?_;refine H7.jg (l2:=[so,wo,so',wo']) (k:=0) rfl rfl rfl fun h8 H8 => ?_;rw [F33.zat];simp only [sFx];rw [H8.qf (k:=1) (off:=0+0) (n:=4) rfl (by simp) rfl,H8.zk (k:=0) (n:=4) rfl rfl];refine zjg ⟨_,_,_,_,rfl,i1,i2⟩ ⟨_,_,_,_,rfl,o1,o2⟩ (k:=700) (by omega) (qB ht1 (show t<=16*M by omega) (by omega) (hdj.mono hjM)) (qB ht1 htM (by omega) (hbd j)) _ _ _ _ ?_;rintro _ ⟨s3,w3,s3',w3',rfl,k1,k2⟩ _;refine H8.tq (k:=1) (off:=0+0) (n:=4) rfl (by simp) rfl fun h9 H9 => ?_;rw [<- mI (by omega)] at k1 k2;rw [F33.aA,jy (by omega)];exact hR2 (m2-1) _ _ _ _ _ (by omega) ⟨j+1,s3,w3,s3',w3',by congr 1,by omega,k1,k2,by rw [mI (by omega),Zam,Zbx];exact hdj.add (hbd j),H9.drop⟩
 obtain rfl:j=n:=by omega
 rw [Zab (by omega),zC,zZ,yH,zA,zA,F33.zna,sFx,H6.load (k:=3) (i:=0+1) rfl rfl,bH (j:=0) (i:=0) rfl (by omega),ldL (getT hx0),zX,zM];refine F33.zz5 (fun m x27 h' nx'=>∃ (y:Nat) (s2 w2 s2' w2':AV),x27=I (y:Int)/\m+y=l0.length/\fJ s2 w2 (conQ b l0 y).num/\fJ s2' w2' ((conQ b l0 y).den:Int)/\Dn t (y*M) (conQ b l0 y)/\Hp h h' nx' [.arr b9 [s,w,s',w',s2,w2,s2',w2'],.gro o 8 a gc,.arr b5 rc,.arr b1 [I (j:Int),qp lines]]) (m:=l0.length) (by omega) ⟨0,s2,w2,s2',w2',rfl,rfl,j1,j2,by rw [Zec];exact Dn.zero _ _,H6⟩ ?_;rintro m3 v11 v27 v28 h7 nx7 R3 ⟨y,s2,w2,s2',w2',rfl,hmy,j1,j2,hdy,H7⟩ hR3;rw [F33.t45,zA,F33.o9,ug,zA,zB,F33.v28];have hyM:y*M<=16*M:=Zak M (by omega);by_cases cy:y<l0.length
 ·have hy:l0[y]? = some l0[y]:=List.getElem?_eq_getElem cy;have hyr:=hr0 _ (Zay cy);obtain ⟨cs2,e1,e2,_,fv⟩:=hrow.get (wJ (q:=b) (j:=l0[y].toNat) (by omega));rw [Zaa (by omega),zD,zF,zA,zM,zA,F33.zfy,bH rfl cy,ldL (rJ hy),F33.zfz];simp only [sFx];rw [H7.qf (k:=0) (off:=0+4) (n:=4) rfl (by simp) rfl,zwx (j:=l0[y].toNat) (by omega) (by omega),zrv (by rw [Zde];omega),e1];refine zjg ⟨_,_,_,_,rfl,j1,j2⟩ fv (k:=700) (by omega) (qB ht1 (show t<=16*M by omega) (by omega) (hdy.mono hyM)) (qB ht1 htM (by omega) (hbd _)) _ _ _ _ ?_;rintro _ ⟨s3,w3,s3',w3',rfl,k1,k2⟩ _;refine H7.tq (k:=0) (off:=0+4) (n:=4) rfl (by simp) rfl fun h9 H9 => ?_;rw [<- xG cy] at k1 k2;rw [F33.zdd,jy (by omega)];exact hR3 (m3-1) _ _ _ _ _ (by omega) ⟨y+1,s3,w3,s3',w3',by congr 1,by omega,k1,k2,by rw [xG cy,Zam,Zbx];exact hdy.add (hbd _),H9⟩
 obtain rfl:y=l0.length:=by omega
 have h8:zed [s,w,s',w',s2,w2,s2',w2'] (prQ l0 b):=⟨_,_,_,_,_,_,_,_,rfl,by rw [prQ,hbl];exact i1,by rw [prQ,hbl];exact i2,j1,j2⟩;have hT:Dn t (16*M) (totQ b j):=hdj.mono hjM;have hC:Dn t (16*M) (conQ b l0 l0.length):=hdy.mono hyM;rw [Zab (by omega),zC,zZ,yH,zA,zA,F33.zf7];simp only [sFx];rw [H7.qf (k:=0) (off:=0+4) (n:=4) rfl (by simp) rfl];refine pR ⟨_,_,_,_,rfl,j1,j2⟩ _ _ _ _ ?_;rintro _ rfl _;rw [vk];by_cases hC0:conQ b l0 l0.length=0
 ·rw [Zaa (fV.2 (Rat.num_eq_zero.2 hC0))];simp only [Zag,yM,gQ,zQ];rw [zB,F33.v29,zC,zF];rw [F33.zf0,H7.zk (k:=0) (n:=8) rfl rfl];refine H7.yu (l:=[s,w,s',w',s2,w2,s2',w2']) rfl fun tb h10 nx10 H10 => ?_;refine H10.appN (k:=2) (o:=o) (c:=1) (new:=[s,w,s',w',s2,w2,s2',w2']) rfl (uj.rd (l:=[s,w,s',w',s2,w2,s2',w2']) (n:=1) (H10.own _ (Zal ..)) rfl) rfl (List.all_eq_true.2 fun v hv=>fP.uz (h8.fix v hv)) (by decide) (by decide) (by omega) fun o' h11 nx11 _ H11 => ?_;rw [F33.zf5,jy (by omega)];refine hR (m-1) _ _ _ _ _ _ _ _ _ _ _ _ _ _ _ _ _ _ _ (by omega) ⟨a+1,o',gc++[s,w,s',w',s2,w2,s2',w2'],rc,found,ra,rfl,rfl,by congr 1,by omega,?_,hrc,hfo,H11.drop.drop⟩;rw [Zan,hba,Zcm,Zat];exact hgc.add h8
 rw [Zab (fun q=>hC0 (Rat.num_eq_zero.1 (fV.1 q)))];simp only [Zaj,yN,yU,zO];rw [zB,F33.v29];cases found with
 | true =>
  rw [Zag,zC,zF];rw [F33.zf0,H7.zk (k:=0) (n:=8) rfl rfl];refine H7.yu (l:=[s,w,s',w',s2,w2,s2',w2']) rfl fun tb h10 nx10 H10 => ?_;refine H10.appN (k:=2) (o:=o) (c:=1) (new:=[s,w,s',w',s2,w2,s2',w2']) rfl (uj.rd (l:=[s,w,s',w',s2,w2,s2',w2']) (n:=1) (H10.own _ (Zal ..)) rfl) rfl (List.all_eq_true.2 fun v hv=>fP.uz (h8.fix v hv)) (by decide) (by decide) (by omega) fun o' h11 nx11 _ H11 => ?_;rw [F33.zf5,jy (by omega)];refine hR (m-1) _ _ _ _ _ _ _ _ _ _ _ _ _ _ _ _ _ _ _ (by omega) ⟨a+1,o',gc++[s,w,s',w',s2,w2,s2',w2'],rc,true,ra,rfl,rfl,by congr 1,by omega,?_,hrc,hfo,H11.drop.drop⟩;rw [Zan,hba,Zcm,Zat];exact hgc.add h8
 | false =>
  rw [Zaj,zD,F33.zf3];simp only [sFx];rw [H7.qf (k:=0) (off:=0+0) (n:=4) rfl (by simp) rfl,H7.qf (k:=0) (off:=0+4) (n:=4) rfl (by simp) rfl];refine zrf ⟨_,_,_,_,rfl,i1,i2⟩ ⟨_,_,_,_,rfl,j1,j2⟩ (k:=700) (by omega) (by omega) (qB ht1 (show t<=16*M by omega) (by omega) hT) (qB ht1 (show t<=16*M by omega) (by omega) hC) hC0 _ _ _ _ ?_;rintro _ ⟨s5,w5,s5',w5',rfl,k1,k2⟩ _;refine H7.jg (l2:=[s5,w5,s5',w5']) (k:=2) rfl hrc rfl fun h9 H9 => ?_;obtain ⟨sr,sr1,srN,_,dmul⟩:=zji ht1 hC0 hC;have hdr:=dmul hT;rw [<- Rat.div_def] at hdr;rw [F33.zf0,H9.zk (k:=0) (n:=8) rfl rfl];refine H9.yu (l:=[s,w,s',w',s2,w2,s2',w2']) rfl fun tb h10 nx10 H10 => ?_;refine H10.appN (k:=2) (o:=o) (c:=1) (new:=[s,w,s',w',s2,w2,s2',w2']) rfl (uj.rd (l:=[s,w,s',w',s2,w2,s2',w2']) (n:=1) (H10.own _ (Zal ..)) rfl) rfl (List.all_eq_true.2 fun v hv=>fP.uz (h8.fix v hv)) (by decide) (by decide) (by omega) fun o' h11 nx11 _ H11 => ?_;rw [F33.zf5,jy (by omega)];refine hR (m-1) _ _ _ _ _ _ _ _ _ _ _ _ _ _ _ _ _ _ _ (by omega) ⟨a+1,o',gc++[s,w,s',w',s2,w2,s2',w2'],[s5,w5,s5',w5'],true,totQ b j / conQ b l0 l0.length,rfl,rfl,by congr 1,by omega,?_,rfl,fun _=>⟨⟨_,_,_,_,rfl,k1,k2⟩,sr,sr1,srN,hdr⟩,H11.drop.drop⟩;rw [Zan,hba,Zcm,Zat];exact hgc.add h8
end Go.Ev
namespace Go.Ev
theorem zhw:∀ (l r:List Int),l.Nodup->(∀ x∈l,x∈r)->∃ s,r.Perm (l++s)
 | [],r,_,_=>⟨r,.refl _⟩
 | a::l,r,hn,hs=>by
  obtain ⟨h1,h2⟩:=List.nodup_cons.1 hn;have ha:=hs a (by simp);obtain ⟨s,hp⟩:=zhw l (r.erase a) h2 fun x hx=>(List.mem_erase_of_ne (by rintro rfl;exact h1 hx)).2 (hs x (by simp [hx]));exact ⟨s,(List.perm_cons_erase ha).trans (.cons a hp)⟩
abbrev upTo (n:Nat):List Int:=(List.range n).map fun (i:Nat)=>(i:Int)+1
def Rv (l cur:List Int) (i:Nat):Prop:=cur.length=l.length/\∀ t,t<l.length->cur[t]? = if t<i\/l.length<=t+i then l[l.length-1-t]? else l[t]?
theorem Rv.done {l cur:List Int} {i:Nat} (h:Rv l cur i) (hi:l.length<=2*i+1):cur=l.reverse:=by
 refine Zcj fun t => ?_;by_cases ht:t<l.length
 ·rw [h.2 t ht,List.getElem?_reverse ht];by_cases c:t<i\/l.length<=t+i
  ·rw [if_pos c]
  ·rw [if_neg c,show l.length-1-t=t by omega]
 ·rw [List.getElem?_eq_none (by rw [h.1];omega),List.getElem?_eq_none (by simp;omega)]
theorem Rv.step {l cur:List Int} {i j:Nat} {a b:Int} (h:Rv l cur i) (hij:i<j) (hs:i+j+1=l.length) (ha:cur[i]? = some a) (hb:cur[j]? = some b):Rv l ((cur.set i b).set j a) (i+1):=by
 obtain ⟨hl,hg⟩:=h;refine ⟨by simp [hl],fun t ht => ?_⟩;have e1:=hg i (by omega);have e2:=hg j (by omega);rw [if_neg (by omega),ha] at e1;rw [if_neg (by omega),hb] at e2;rw [List.getElem?_set,List.getElem?_set,Zbp];by_cases c1:j=t
 ·subst c1;rw [if_pos rfl,if_pos (by omega),if_pos (by omega),show l.length-1-j=i by omega];exact e1
 ·rw [if_neg c1];by_cases c2:i=t
  ·subst c2;rw [if_pos rfl,if_pos (by omega),if_pos (by omega),show l.length-1-i=j by omega];exact e2
  ·rw [if_neg c2,hg t ht];by_cases c3:t<i\/l.length<=t+i
   ·rw [if_pos c3,if_pos (by omega)]
   ·rw [if_neg c3,if_neg (by omega)]
section
variable {σ α:Type}
end
end Go.Ev
namespace Go.Ev
def SpOK (M:Int) (q:List (Int×Int)):Prop:=q.Pairwise (fun a b=>a.1<b.1)/\∀ p∈q,0<=p.1/\p.1<=M
theorem SpOK.len {q:List (Int×Int)} (h:SpOK 9000 q):q.length<=9001:=by
 obtain ⟨t,ht⟩:=zhw (q.map (·.1)) ((List.range 9001).map fun (i:Nat)=>(i:Int)) (by
  rw [List.nodup_iff_pairwise_ne,Zfw];exact h.1.imp fun {a b} q e=>by omega) fun x hx=>by
  obtain ⟨p,hp,rfl⟩:=List.mem_map.1 hx;have:=h.2 p hp;exact List.mem_map.2 ⟨p.1.toNat,List.mem_range.2 (by omega),by omega⟩
 have:=ht.length_eq;rw [Zaz,List.length_range,Zar,Zaz] at this;omega
end Go.Ev
namespace Go.Ev
open Go Go.Proofs
variable {B:Nat}
set_option maxRecDepth 100000
theorem zc4 {α:Type} [DecidableEq α]:∀ (l r:List α),l.Nodup->(∀ x∈l,x∈r)->∃ s,r.Perm (l++s)
 | [],r,_,_=>⟨r,.refl _⟩
 | a::l,r,hn,hs=>by
  obtain ⟨h1,h2⟩:=List.nodup_cons.1 hn;have ha:=hs a (by simp);obtain ⟨s,hp⟩:=zc4 l (r.erase a) h2 fun x hx=>(List.mem_erase_of_ne (by rintro rfl;exact h1 hx)).2 (hs x (by simp [hx]));exact ⟨s,(List.perm_cons_erase ha).trans (.cons a hp)⟩
theorem zfr {α:Type} [DecidableEq α] {l r:List α} (h1:l.Nodup) (h2:∀ x∈l,x∈r) (h3:r.length<=l.length):r.Perm l:=by
 obtain ⟨s,hs⟩:=zc4 l r h1 h2;have hl:=hs.length_eq;obtain rfl:s=[]:=Zbu (by rw [Zar] at hl;omega);simpa using hs
theorem zhx (l:List Int):(srt l).length=l.length:=(kS l).length_eq
theorem zah {n:Nat} {x:Int}:x∈upTo n↔1<=x/\x<=(n:Int):=by
 rw [Zbk];constructor
 ·rintro ⟨i,hi,rfl⟩;have:=List.mem_range.1 hi;omega
 ·rintro ⟨h1,h2⟩;exact ⟨(x-1).toNat,List.mem_range.2 (by omega),by omega⟩
theorem zai {f:List Int}:srt f=upTo f.length↔∀ j,j<f.length->((j:Int)+1)∈f:=by
 constructor
 ·intro h j hj;rw [<- (kS f).mem_iff,h,zah];omega
 ·intro h;have hnd:(upTo f.length).Nodup:=by
   refine List.pairwise_map.2 (List.nodup_range.imp fun hne e=>hne (by omega))
  have hp:(upTo f.length).Perm f:=List.Perm.symm <| zfr hnd (fun x hx=>by
   rw [zah] at hx;have:=h (x-1).toNat (by omega)
   rwa [show (((x-1).toNat:Nat):Int)+1=x by omega] at this) (by simp)
  refine (zjl hp ?_).symm;exact List.pairwise_map.2 (List.pairwise_lt_range.imp fun h=>by omega)
theorem zhy {f:List Int} (hj:∀ B,JOk Tryz.prog B pQ) (hl:f.length<=100000):Pure Tryz.prog B 136 [encI f] (· = .bool (decide (srt f=upTo f.length))):=by
 intro p h nx K hK;refine zP zS jd 10000000 fun hf => ?_;rw [wz.go];refine zmj _ _ _ _ ?_;rintro _ rfl _;refine zml hj hl _ _ _ _ ?_;rintro _ rfl _;have hlen:=zhx f;simp only [zX];refine wz.L1 (fun m z6 h' nx'=>∃ i:Nat,z6=I i/\f.length-i=m/\i<=f.length/\h'=h/\nx'=nx/\(srt f).take i=(upTo f.length).take i) (m:=f.length) (by omega) ⟨0,rfl,rfl,by omega,rfl,rfl,rfl⟩ ?_;rintro m z1 z2 z3 z6 z7 z8 _ _ R ⟨i,rfl,rfl,hi,rfl,rfl,htk⟩ hR;simp only [ug];by_cases hlt:i<f.length
 ·simp only [show (i:Int)<((srt f).length:Int) by omega,decide_true,zD];have hx:(srt f)[i]? = some (srt f)[i]:=List.getElem?_eq_getElem (by omega);have hu:(upTo f.length)[i]? = some ((i:Int)+1):=by simp [List.getElem?_map,hlt]
  rw [bH rfl (by omega),ldL (rJ hx),jy (by omega)];simp only [vk];by_cases c:(srt f)[i]=(i:Int)+1
  ·simp only [c,decide_true,Zag,zC];rw [jy (by omega)];refine hR _ _ _ _ _ _ _ _ _ (by omega) ⟨i+1,rfl,rfl,by omega,rfl,rfl,?_⟩;rw [Zan,Zan,htk,hx,hu,c]
  ·simp only [c,decide_false,Zaj,zD];refine hK _ ?_ hf;rw [Zab];intro q;have h9:(srt f)[i]? = some ((i:Int)+1):=by rw [q];exact hu
   rw [hx] at h9;exact c (Option.some.inj h9)
 ·simp only [show ¬ (i:Int)<((srt f).length:Int) by omega,decide_false,zC];rw [wz.k8];rw [Zad (by omega),Zad (by simp;omega)] at htk;exact hK _ (by rw [Zaa htk]) hf
theorem mY {f:List Int} (hl:f.length<=100000):Pure Tryz.prog B 46 [encI f] (· = .bool (decide (srt f=upTo f.length))):=by
 intro p h nx K hK;refine zP zS jd 10000000 fun hf => ?_;rw [F46.go];refine F46.L1 (fun m z2 h' nx'=>∃ k:Nat,z2=I ((k:Int)+1)/\f.length-k=m/\k<=f.length/\h'=h/\nx'=nx/\∀ j,j<k->((j:Int)+1)∈f) (m:=f.length) (by omega) ⟨0,rfl,rfl,by omega,rfl,rfl,fun j hj=>by omega⟩ ?_;rintro m z1 z2 z3 z4 z5 z6 z7 h nx R ⟨k,rfl,rfl,hk,rfl,rfl,hin⟩ hR;simp only [zX,ni];by_cases hlt:k<f.length
 case neg =>
  simp only [show ¬ (k:Int)+1<=(f.length:Int) by omega,decide_false,zC];rw [F46.k16];exact hK _ (by rw [Zaa (zai.2 fun j hj=>hin j (by omega))]) hf
 simp only [show (k:Int)+1<=(f.length:Int) by omega,decide_true,zD];refine F46.L7 (fun m z3 z4 h' nx'=>∃ i:Nat,z4=I i/\z3=.bool (decide (((k:Int)+1)∈f.take i))/\f.length-i=m/\i<=f.length/\h'=h/\nx'=nx) (m:=f.length) (by omega) ⟨0,rfl,by simp,rfl,by omega,rfl,rfl⟩ ?_;rintro m z3 z4 z6 _ _ R2 ⟨i,rfl,rfl,rfl,hi,rfl,rfl⟩ hR2;simp only [zX,ug];by_cases hlt2:i<f.length
 case neg =>
  simp only [show ¬ (i:Int)<(f.length:Int) by omega,decide_false,zC];rw [Zad (by omega),F46.k14];simp only [yU];by_cases c:((k:Int)+1)∈f
  ·rw [Zaa c];simp only [Zag,zC];rw [F46.k15,jy (by omega)];refine hR _ _ _ _ _ _ _ _ _ _ (by omega) ⟨k+1,by push_cast;rfl,rfl,by omega,rfl,rfl,fun j hj => ?_⟩;by_cases e:j=k
   ·rw [e];exact c
   ·exact hin j (by omega)
  ·rw [Zab c];simp only [Zaj,zD];exact hK _ (by rw [Zab fun q=>c (zai.1 q k hlt)]) hf
 simp only [show (i:Int)<(f.length:Int) by omega,decide_true,zD];have hx:f[i]? = some f[i]:=List.getElem?_eq_getElem hlt2;have hs:f.take (i+1)=f.take i++[f[i]]:=by rw [Zan,hx];rfl
 by_cases c:((k:Int)+1)∈f.take i
 ·rw [Zaa c];simp only [yW,zO];rw [jy (by omega)];exact hR2 _ _ _ _ _ _ (by omega) ⟨i+1,rfl,by rw [hs,Zaa (Zdi _ c)],rfl,by omega,rfl,rfl⟩
 ·rw [Zab c];simp only [yJ];rw [bH rfl hlt2,ldL (rJ hx)];simp only [ve,zQ];rw [jy (by omega)];refine hR2 _ _ _ _ _ _ (by omega) ⟨i+1,rfl,?_,rfl,by omega,rfl,rfl⟩;rw [hs]
  congr 1
  rw [decide_eq_decide,Zbf,Zbo];exact ⟨fun e=>.inr e.symm,fun e=>(e.resolve_left c).symm⟩
abbrev o8 (x:Int):Bool:=decide (x < -999999999)||decide (999999999<x)
def gH (f:List Int):Int:=if f.length=0 then 12 else if 256<f.length then 5 else if f.any o8 then 3 else 0
theorem zc5 {f:List Int} (hl:f.length<=100000):Pure Tryz.prog B 183 [encI f] (· = I (if f.any o8 then 3 else 0)):=by
 intro p h nx K hK;refine zP zS jd 1000 fun hf => ?_;rw [oG.go];refine zk5 (by omega) _ _ _ _ ?_;rintro _ rfl _;exact hK _ rfl hf
theorem zjo {f:List Int} (hl:f.length<=100000):Pure Tryz.prog B 135 [encI f] (· = I (gH f)):=by
 refine yB fun h nx K H0 hK=>zP zS jd 1000 fun hf => ?_;rw [oH.go];simp only [zX,ve];refine qD _ _ _ _ _ _ ?_;rintro _ rfl _;simp only [bf];refine qD _ _ _ _ _ _ ?_;rintro _ rfl _;refine zc5 hl _ _ _ _ ?_;rintro _ rfl _;refine H0.yu (l:=[I (if decide ((f.length:Int)=0)=true then 12 else 0),I (if decide ((256:Int)<(f.length:Int))=true then 5 else 0),I (if f.any o8=true then 3 else 0)]) rfl fun tb h1 nx1 H1 => ?_;refine wY (l:=[if decide ((f.length:Int)=0)=true then 12 else 0,if decide ((256:Int)<(f.length:Int))=true then 5 else 0,if f.any o8=true then 3 else 0]) H1 (k:=0) rfl (fun B=>vR (by simp)) (fun v hv=>by rw [hv];exact .int _ _) ?_;rintro _ rfl;have e:uJ [if decide ((f.length:Int)=0)=true then 12 else 0,if decide ((256:Int)<(f.length:Int))=true then 5 else 0,if f.any o8=true then 3 else 0]=gH f:=by
  simp only [uJ,gH,decide_eq_true_eq];by_cases c1:f.length=0
  ·simp [c1]
  ·by_cases c2:256<f.length
   ·simp [c1,c2,show (256:Int)<(f.length:Int) by omega]
   ·by_cases c3:f.any o8=true
    ·simp [c1,c2,c3,show ¬ (256:Int)<(f.length:Int) by omega]
    ·simp [c1,c2,c3,show ¬ (256:Int)<(f.length:Int) by omega]
 rw [e];exact hK _ _ _ _ _ H1 (zY rfl) rfl
theorem zy8 {l:List Int}:∀ v∈l.map I,fP v=true:=fun v hv=>by obtain ⟨x,_,rfl⟩:=List.mem_map.1 hv;rfl
def uL (f:List Int):List Int:=f.map fun x=>(f.length:Int)+1-x
theorem kK (f:List Int):(uL f).length=f.length:=by simp [uL]
def vH (f:List Int) (i:Nat):List Int:=(uL f).take i++List.replicate (f.length-i) 0
theorem zmp {f:List Int} {i:Nat} (h:i<=f.length):(vH f i).length=f.length:=by simp [vH,kK];omega
theorem zjq {f:List Int} {i:Nat} (h:i<f.length):(vH f i).set i ((f.length:Int)+1-f[i])=vH f (i+1):=by
 have hx:(uL f)[i]? = some ((f.length:Int)+1-f[i]):=by rw [uL,List.getElem?_map,List.getElem?_eq_getElem h];rfl
 have ht:((uL f).take i).length=i:=by rw [Zas,kK];omega
 rw [vH,vH,Zdp _ _ (by omega),ht,Zdl,Zan,hx,show f.length-i=(f.length-(i+1))+1 by omega,Zbw];simp
theorem zr1 {h0 h:T Blk} {nx p bx:Pa} {L:List Ob} {k:Nat} {f:List Int} {K:Kw Prop} (hl:f.length<=1000) (hf:∀ x∈f, -1000000000<=x/\x<=1000000000) (H:Hp h0 h nx L) (hk:L[k]? = some (.arr bx [encI f]))
  (hK:∀ tb h' nx',Hp h0 h' nx' (.arr tb ((uL f).map I)::L)->K (.sl tb 0 f.length (some f.length) 1) h' nx'=.ok True):(CS Tryz.prog B).fn 137 p [I f.length,.fn 138 (.of 138) [.ptr bx 0]] h nx K=.ok True:=by
 refine jK (p:=.of 137) (K:=K) (zP zS jd 100000 fun _ => ?_) fun _ _ _ _ q=>q;rw [xg.go];refine H.mk1 f.length rfl rfl (by omega) (by decide) fun tb h1 nx1 H1 => ?_;simp only [yX];have e0:List.replicate f.length (I 0)=(vH f 0).map I:=by simp [vH]
 rw [e0] at H1;refine xg.L1 (fun m z6 h' nx'=>∃ i:Nat,z6=I i/\f.length-i=m/\i<=f.length/\Hp h0 h' nx' (.arr tb ((vH f i).map I)::L)) (m:=f.length) (by omega) ⟨0,rfl,rfl,by omega,H1⟩ ?_;rintro m z4 z6 z7 h2 nx2 R ⟨i,rfl,rfl,hi,H2⟩ hR;simp only [ug];by_cases hlt:i<f.length
 case neg =>
  simp only [show ¬ (i:Int)<(f.length:Int) by omega,decide_false,zC];obtain rfl:i=f.length:=by omega
  rw [xg.k8];refine hK tb _ _ (H2.cast ?_);have:vH f f.length=uL f:=by rw [vH,Zad (by rw [kK];omega)];simp
  rw [this]
 simp only [show (i:Int)<(f.length:Int) by omega,decide_true,zD];have hx:f[i]? = some f[i]:=List.getElem?_eq_getElem hlt;have hfb:=hf _ (Zay hlt);have hk2:(Ob.arr tb ((vH f i).map I)::L)[k+1]? = some (.arr bx [encI f]):=by simpa using hk
 rw [vK];refine jK (p:=.of 138) (zP zS jd 9 fun _ => ?_) fun _ _ _ _ q=>q;show zR tbl 9 _ (Pa.of 138) [I (i:Int),.ptr bx 0] _ _ _=_;rw [oD.go,H2.load (k:=k+1) (i:=0) hk2 rfl];simp only [zX];rw [jy (by omega),H2.load (k:=k+1) (i:=0) hk2 rfl,bH rfl hlt,ldL (rJ hx),xw (by omega),sIx (i:=i) rfl hlt];refine H2.store (k:=0) rfl (by rw [Zaz,zmp hi];exact hlt) rfl fun h3 H3 => ?_;rw [jy (by omega)];refine hR _ _ _ _ _ _ (by omega) ⟨i+1,rfl,rfl,by omega,H3.cast ?_⟩;rw [<- zjq hlt,List.map_set];rfl
def p6 (f:List Int):Int:=if gH f≠0 then gH f else if srt f=upTo f.length then 0 else 14
theorem p5 {f:List Int} (hj:∀ B,JOk Tryz.prog B pQ) (hl:f.length<=100000):Pure Tryz.prog B 47 [encI f] (· = if p6 f≠0 then .tup [.zf,I (p6 f)] else .tup [encI (uL f),I 0]):=by
 refine yB fun h nx K H0 hK=>zP zS jd 1000 fun hf => ?_;rw [F47.go];refine H0.box (l:=[encI f]) rfl fun bx h1 nx1 H1 => ?_;rw [H1.load (k:=0) (i:=0) rfl rfl,H1.load (k:=0) (i:=0) rfl rfl];refine zjo hl _ _ _ _ ?_;rintro _ rfl _;rw [H1.load (k:=0) (i:=0) rfl rfl];simp only [zG];refine zhy hj hl _ _ _ _ ?_;rintro _ rfl _;simp only [yU];refine qD _ _ _ _ _ _ ?_;rintro _ rfl _;refine H1.yu (l:=[I (gH f),I (if (!decide (srt f=upTo f.length))=true then 14 else 0)]) rfl fun tb h2 nx2 H2 => ?_;refine wY (l:=[gH f,if (!decide (srt f=upTo f.length))=true then 14 else 0]) H2 (k:=0) rfl (fun B=>vR (by simp)) (fun v hv=>by rw [hv];exact .int _ _) ?_;rintro _ rfl;have e:uJ [gH f,if (!decide (srt f=upTo f.length))=true then 14 else 0]=p6 f:=by
  simp only [uJ,p6];by_cases c1:gH f=0
  ·by_cases c2:srt f=upTo f.length <;> simp [c1,c2]
  ·simp [c1]
 rw [e];simp only [vk];by_cases c:p6 f=0
 case neg =>
  rw [if_pos c] at hK;simp only [c,decide_false,Zaj,zD];exact hK _ _ _ _ _ H2 (jP (zY rfl) (zY rfl)) rfl
 rw [if_neg (fun q=>q c)] at hK;simp only [c,decide_true,Zag,zC];rw [H2.load (k:=1) (i:=0) rfl rfl];simp only [zX];have ha:gH f=0:=by
  by_cases q:gH f=0
  ·exact q
  ·rw [p6,if_pos q] at c;exact absurd c q
 have hl2:f.length<=256:=by
  rw [gH] at ha;by_cases q1:f.length=0
  ·omega
  ·rw [if_neg q1] at ha;by_cases q2:256<f.length
   ·rw [if_pos q2] at ha;cases ha
   ·omega
 have hn:srt f=upTo f.length:=by
  rw [p6,if_neg (fun q=>q ha)] at c;by_cases q:srt f=upTo f.length
  ·exact q
  ·rw [if_neg q] at c;cases c
 have hfb:∀ x∈f, -1000000000<=x/\x<=1000000000:=fun x hx=>by
  rw [<- (kS f).mem_iff,hn,zah] at hx;omega
 refine zr1 (by omega) hfb H2 (k:=1) rfl fun tc h3 nx3 H3 => ?_;refine hK _ _ _ _ _ H3 (jP (H3.ziu (k:=0) (cap:=some f.length) (e:=1) (n:=f.length) rfl (Zah _) (by rw [Zaz,kK];omega) zy8) (zY rfl)) ?_;rw [encI,kK]
def jZ (l f:List Int):Int:=l.foldl (fun s c=>s+f.getD c.toNat 0) 0
structure aS (l f:List Int):Prop where
 len:l.length<=1000
 rng:∀ c∈l,0<=c/\c<(f.length:Int)
 bd:∀ x∈f, -1000000000<=x/\x<=1000000000
theorem aS.get {l f:List Int} (h:aS l f) {c:Int} (hc:c∈l):f[c.toNat]? = some (f.getD c.toNat 0) /\ -1000000000<=f.getD c.toNat 0/\f.getD c.toNat 0<=1000000000:=by
 have:=h.rng c hc;have hx:f[c.toNat]? = some (f.getD c.toNat 0):=by rw [Zac,List.getElem?_eq_getElem (by omega)];rfl
 exact ⟨hx,h.bd _ (Zae hx)⟩
theorem qU {l f:List Int} {i:Nat} (h:i<l.length):jZ (l.take (i+1)) f=jZ (l.take i) f+f.getD l[i].toNat 0:=by
 rw [jZ,Zan,List.getElem?_eq_getElem h,Zfb];rfl
theorem zc6 {l f:List Int} (h:aS l f):∀ i,i<=l.length -> -(1000000000*(i:Int))<=jZ (l.take i) f/\jZ (l.take i) f<=1000000000*(i:Int)
 | 0,_=>by simp [jZ]
 | i+1,hi=>by
  have ih:=zc6 h i (by omega);have:=(h.get (Zay (show i<l.length by omega))).2;rw [qU (by omega)];omega
theorem zy9 {l f:List Int} (h0:aS l f):Pure Tryz.prog B 219 [encI l,encI f] (· = I (jZ l f)):=by
 intro p h nx K hK;have hl:=h0.len;refine zP zS jd 10000 fun hf => ?_;rw [xk.go];simp only [zX];refine xk.L1 (fun m x3 x7 h' nx'=>∃ i:Nat,x7=I i/\x3=I (jZ (l.take i) f)/\l.length-i=m/\i<=l.length/\h'=h/\nx'=nx) (m:=l.length) (by omega) ⟨0,rfl,rfl,rfl,by omega,rfl,rfl⟩ ?_;rintro m z3 z4 z7 z8 h nx R ⟨i,rfl,rfl,rfl,hi,rfl,rfl⟩ hR;simp only [ug];by_cases hlt:i<l.length
 case neg =>
  simp only [show ¬ (i:Int)<(l.length:Int) by omega,decide_false,zC];rw [xk.k8,Zad (by omega)];exact hK _ rfl hf
 simp only [show (i:Int)<(l.length:Int) by omega,decide_true,zD];have hx:l[i]? = some l[i]:=List.getElem?_eq_getElem hlt;have hr:=h0.rng _ (Zay hlt);obtain ⟨hg,hb⟩:=h0.get (Zay hlt);have hbd:=zc6 h0 i (by omega);rw [bH rfl hlt,ldL (rJ hx),bH (i:=l[i].toNat) (by omega) (by omega),ldL (rJ hg),jy (by omega),jy (by omega)];exact hR _ _ _ _ _ _ _ (by omega) ⟨i+1,rfl,by rw [qU hlt],rfl,by omega,rfl,rfl⟩
def uU (lines:List (List Int)) (f:List Int):List Int:=lines.map fun l=>jZ l f
theorem zc7 {lines:List (List Int)} {f:List Int} {i:Nat} (h:i<lines.length):uU (lines.take (i+1)) f=uU (lines.take i) f++[jZ lines[i] f]:=by
 rw [uU,Zan,List.getElem?_eq_getElem h,Zat];rfl
theorem u6 (lines:List (List Int)) (f:List Int):(uU lines f).length=lines.length:=by simp [uU]
theorem zk7 {cells:Int} {lines:List (List Int)} {f:List Int} (hn:lines.length<=1000) (h0:∀ l∈lines,aS l f):Pure Tryz.prog B 139 [.agg [I cells,qp lines],encI f] (· = encI (uU lines f)):=by
 refine yB fun h nx K H0 hK=>zP zS jd 10000 fun hf => ?_;rw [xh.go];refine H0.box (l:=[I cells,qp lines]) rfl fun bx h1 nx1 H1 => ?_;rw [sFx,H1.load (k:=0) (i:=0+1) rfl rfl];simp only [zX];refine xh.L1 (fun m x4 x8 h' nx'=>∃ (i:Nat) (o:Option Pa),x8=I i/\x4=vz o 1 (uU (lines.take i) f).length/\lines.length-i=m/\i<=lines.length/\Hp h h' nx' [.gro o 1 (uU (lines.take i) f).length ((uU (lines.take i) f).map I),.arr bx [I cells,qp lines]]) (m:=lines.length) (by omega) ⟨0,none,rfl,rfl,rfl,by omega,H1.oZ 1⟩ ?_;rintro m z4 z5 z8 z9 h2 nx2 R ⟨i,o,rfl,rfl,rfl,hi,H2⟩ hR;simp only [ug];by_cases hlt:i<lines.length
 case neg =>
  simp only [show ¬ (i:Int)<(lines.length:Int) by omega,decide_false,zC];rw [Zad (by omega)] at H2 ⊢;rw [xh.k8];exact hK _ _ _ _ _ H2 (H2.zfa (k:=0) rfl fun v hv=>by obtain ⟨x,_,rfl⟩:=List.mem_map.1 hv;rfl) rfl
 simp only [show (i:Int)<(lines.length:Int) by omega,decide_true,zD];have hx:lines[i]? = some lines[i]:=List.getElem?_eq_getElem hlt;have hlen:(uU (lines.take i) f).length=i:=by rw [u6,Zas];omega
 rw [bH rfl hlt,ldL (getT hx)];refine zy9 (h0 _ (Zay hlt)) _ _ _ _ ?_;rintro _ rfl _;refine H2.yu (l:=[I (jZ lines[i] f)]) rfl fun tb h4 nx4 H4 => ?_;refine H4.appN (k:=1) (o:=o) (c:=1) (new:=[I (jZ lines[i] f)]) rfl (uj.rd (l:=[I (jZ lines[i] f)]) (n:=1) (H4.own _ (Zal ..)) rfl) rfl rfl (by decide) (by decide) (by omega) fun o' h5 nx5 _ H5 => ?_;rw [jy (by omega)];refine hR _ _ _ _ _ _ _ (by omega) ⟨i+1,o',rfl,by rw [zc7 hlt,Zar];rfl,rfl,by omega,?_⟩;rw [zc7 hlt,Zar,Zat];exact H5.drop
def kL (cells:Int) (lines:List (List Int)) (f:List Int):Int:=if jJ cells lines≠0 then jJ cells lines else if (f.length:Int)≠cells then 2 else if f.any o8 then 3 else 0
theorem zk8 {cells:Int} {lines:List (List Int)} {f:List Int} (hw:∀ q∈lines,q.length<=1000000) (hl:f.length<=100000):Pure Tryz.prog B 94 [.agg [I cells,qp lines],encI f] (· = I (kL cells lines f)):=by
 refine yB fun h nx K H0 hK=>zP zS jd 1000 fun hf => ?_;rw [F94.go];refine H0.box (l:=[I cells,qp lines]) rfl fun bx h1 nx1 H1 => ?_;rw [H1.zk (k:=0) (n:=2) rfl rfl];simp only [zX];rw [sFx,H1.load (k:=0) (i:=0+0) rfl rfl];simp only [vk];refine zw2 hw _ _ _ _ ?_;rintro _ rfl _;simp only [zG];rw [H1.load (k:=0) (i:=0+0) rfl rfl];simp only [zG];rw [sFx];simp only [zG];refine qD _ _ _ _ _ _ ?_;rintro _ rfl _;refine zc5 hl _ _ _ _ ?_;rintro _ rfl _;refine H1.yu (l:=[I (jJ cells lines),I (if (!decide ((f.length:Int)=cells))=true then 2 else 0),I (if f.any o8=true then 3 else 0)]) rfl fun tb h2 nx2 H2 => ?_;refine wY (l:=[jJ cells lines,if (!decide ((f.length:Int)=cells))=true then 2 else 0,if f.any o8=true then 3 else 0]) H2 (k:=0) rfl (fun B=>vR (by simp)) (fun v hv=>by rw [hv];exact .int _ _) ?_;rintro _ rfl;have e:uJ [jJ cells lines,if (!decide ((f.length:Int)=cells))=true then 2 else 0,if f.any o8=true then 3 else 0]=kL cells lines f:=by
  simp only [uJ,kL];by_cases c1:jJ cells lines=0
  ·by_cases c2:(f.length:Int)=cells
   ·by_cases c3:f.any o8=true
    ·simp [c1,c2,c3]
    ·simp [c1,c2,c3]
   ·simp [c1,c2]
  ·simp [c1]
 rw [e];exact hK _ _ _ _ _ H2 (zY rfl) rfl
theorem zr2 {cells:Int} {lines:List (List Int)} {f:List Int} (h:kL cells lines f=0):jJ cells lines=0/\lines.length<=128/\f.length<=256/\∀ l∈lines,l.length<=1000->aS l f:=by
 rw [kL] at h;by_cases c1:jJ cells lines=0
 case neg=>rw [if_pos c1] at h;exact absurd h c1
 rw [if_neg (fun q=>q c1)] at h;by_cases c2:(f.length:Int)=cells
 case neg=>rw [if_pos c2] at h;cases h
 rw [if_neg (fun q=>q c2)] at h;have c3:f.any o8=false:=by cases q:f.any o8 with
  | false=>rfl
  | true=>rw [q] at h;cases h
 obtain ⟨n,rfl,n1,n2,n3,n4⟩:=zjk c1;refine ⟨c1,n3,by omega,fun l hl hlen=>⟨hlen,fun c hc => ?_,fun x hx => ?_⟩⟩
 ·have:=(n4 l hl).2.2 c hc;omega
 ·have:=List.any_eq_false.1 c3 x hx;simp at this;omega
def difA (a:Int):List Int->Nat->Int
 | [],_ => -1
 | x::t,i=>if x=a then difA a t (i+1) else (i:Int)
def m8 (S:List Int):Int:=difA (S.getD 0 0) S 0
theorem zmq {a:Int} {S:List Int} {i k:Nat} (h:i<S.length):difA a (S.drop i) k=if S[i]=a then difA a (S.drop (i+1)) (k+1) else (k:Int):=by
 rw [Zax h];rfl
theorem zr3 {h0 h:T Blk} {nx p bx:Pa} {L:List Ob} {k:Nat} {S:List Int} {K:Kw Prop} {v:AV} (hl:S.length<=100000) (H:Hp h0 h nx L) (hk:L[k]? = some (.arr bx [encI S]))
  (hK:K (I (m8 S)) h nx=.ok True):(CS Tryz.prog B).fn 184 p [encI S,.fn 185 (.of 185) [.ptr bx 0]] h nx K=.ok True:=by
 refine jK (p:=.of 184) (K:=K) (zP zS jd 1000000 fun hf => ?_) fun _ _ _ _ q=>q;rw [qm.go];simp only [zX];refine qm.L1 (fun m z5 h' nx'=>∃ i:Nat,z5=I i/\S.length-i=m/\i<=S.length/\h'=h/\nx'=nx/\m8 S=difA (S.getD 0 0) (S.drop i) i) (m:=S.length) (by omega) ⟨0,rfl,rfl,by omega,rfl,rfl,rfl⟩ ?_;rintro m z2 z3 z5 z6 z7 h nx R ⟨i,rfl,rfl,hi,rfl,rfl,he⟩ hR;simp only [ug];by_cases hlt:i<S.length
 case neg =>
  simp only [show ¬ (i:Int)<(S.length:Int) by omega,decide_false,zC];rw [qm.k8];rw [he,Zby (by omega)] at hK;exact hK
 simp only [show (i:Int)<(S.length:Int) by omega,decide_true,zD];have hx:S[i]? = some S[i]:=List.getElem?_eq_getElem hlt;have hy:S[0]? = some (S.getD 0 0):=by rw [Zac,List.getElem?_eq_getElem (by omega)];rfl
 rw [zmq hlt] at he;rw [bH rfl hlt,ldL (rJ hx),vK];refine jK (p:=.of 185) (zP zS jd 9 fun _ => ?_) fun _ _ _ _ q=>q;show zR tbl 9 _ (Pa.of 185) [I S[i],.ptr bx 0] _ _ _=_;rw [oI.go,H.load (k:=k) (i:=0) hk rfl,bH (i:=0) (show (0:Int)=((0:Nat):Int) from rfl) (by omega),ldL (rJ hy)];simp only [vk];by_cases c:S[i]=S.getD 0 0
 ·rw [if_pos c] at he;simp only [c,decide_true,Zag,zC];rw [jy (by omega)];exact hR _ _ _ _ _ _ _ _ (by omega) ⟨i+1,rfl,rfl,by omega,rfl,rfl,he⟩
 ·rw [if_neg c] at he;simp only [c,decide_false,Zaj,zD];rw [he] at hK;exact hK
theorem zmr {cells:Int} {lines:List (List Int)} {f:List Int} (hn:lines.length<=1000) (h0:∀ l∈lines,aS l f):Pure Tryz.prog B 95 [.agg [I cells,qp lines],encI f] (· = I (m8 (uU lines f))):=by
 refine yB fun h nx K H0 hK=>zP zS jd 1000 fun hf => ?_;rw [F95.go];refine H0.box (l:=[I cells,qp lines]) rfl fun bx h1 nx1 H1 => ?_;rw [H1.zk (k:=0) (n:=2) rfl rfl];refine zk7 hn h0 _ _ _ _ ?_;rintro _ rfl _;refine H1.alloc fun b8 h2 nx2 H2 => ?_;refine H2.store (k:=0) rfl (by simp) rfl fun h3 H3 => ?_;rw [H3.load (k:=0) (i:=0) rfl rfl];have hlen:=u6 lines f;refine zr3 (v:=.zf) (by omega) H3 (k:=0) rfl ?_;exact hK _ _ _ _ _ H3 (zY rfl) rfl
section
variable {cells:Int} {lines:List (List Int)} {f:List Int}
theorem zr4 (hw:∀ q∈lines,q.length<=1000) (hl:f.length<=100000):Pure Tryz.prog B 48 [.agg [I cells,qp lines],encI f] (· = if kL cells lines f≠0 then .tup [.zf,I (kL cells lines f)] else .tup [encI (uU lines f),I 0]):=by
 refine yB fun h nx K H0 hK=>zP zS jd 1000 fun hf => ?_;rw [F48.go];refine H0.box (l:=[I cells,qp lines]) rfl fun bx h1 nx1 H1 => ?_;rw [H1.zk (k:=0) (n:=2) rfl rfl];refine zk8 (fun q hq=>by have:=hw q hq;omega) hl _ _ _ _ ?_;rintro _ rfl _;simp only [vk];by_cases c:kL cells lines f=0
 ·rw [if_neg (fun q=>q c)] at hK;obtain ⟨_,n1,n2,n3⟩:=zr2 c;simp only [c,decide_true,Zag,zC];rw [H1.zk (k:=0) (n:=2) rfl rfl];refine zk7 (by omega) (fun l hl=>n3 l hl (hw l hl)) _ _ _ _ ?_;rintro _ rfl _;exact hK _ _ _ _ _ H1 (jP (zY (mT _)) (zY rfl)) rfl
 ·rw [if_pos c] at hK;simp only [c,decide_false,Zaj,zD];exact hK _ _ _ _ _ H1 (jP (zY rfl) (zY rfl)) rfl
theorem zk9 (hw:∀ q∈lines,q.length<=1000) (hl:f.length<=100000):Pure Tryz.prog B 43 [.agg [I cells,qp lines],encI f] (· = if kL cells lines f≠0 then .tup [.bool false,I (kL cells lines f)] else .tup [.bool (decide (m8 (uU lines f)<0)),I 0]):=by
 refine yB fun h nx K H0 hK=>zP zS jd 1000 fun hf => ?_;rw [F43.go];refine H0.box (l:=[I cells,qp lines]) rfl fun bx h1 nx1 H1 => ?_;rw [H1.zk (k:=0) (n:=2) rfl rfl];refine zk8 (fun q hq=>by have:=hw q hq;omega) hl _ _ _ _ ?_;rintro _ rfl _;simp only [vk];by_cases c:kL cells lines f=0
 ·rw [if_neg (fun q=>q c)] at hK;obtain ⟨_,n1,n2,n3⟩:=zr2 c;simp only [c,decide_true,Zag,zC];rw [H1.zk (k:=0) (n:=2) rfl rfl];refine zmr (by omega) (fun l hl=>n3 l hl (hw l hl)) _ _ _ _ ?_;rintro _ rfl _;simp only [ug];exact hK _ _ _ _ _ H1 (jP (zY rfl) (zY rfl)) rfl
 ·rw [if_pos c] at hK;simp only [c,decide_false,Zaj,zD];exact hK _ _ _ _ _ H1 (jP (zY rfl) (zY rfl)) rfl
end
end Go.Ev
namespace Go.Ev
open Go Go.Proofs
def Nml (f:List Int):Prop:=srt f=upTo f.length
theorem zla {f:List Int} (h:Nml f):∀ x∈f,1<=x/\x<=(f.length:Int):=fun x hx=>by
 have:x∈srt f:=(kS f).mem_iff.2 hx;rw [h] at this;exact zah.1 this
theorem zuv {f:List Int} (h:Nml f):Nml (uL f):=by
 refine zai.2 fun j hj => ?_;rw [kK] at hj;have:=zai.1 h (f.length-1-j) (by omega);exact List.mem_map.2 ⟨_,this,by omega⟩
theorem zuw (f:List Int):uL (uL f)=f:=by
 unfold uL;rw [Zaz,List.map_map]
 conv=>rhs;rw [<- List.map_id f]
 exact Zfn fun x _=>by simp only [Function.comp,id];omega
theorem zlb {f:List Int} (h:Nml f) (hl:f.length<=16):f.any o8=false:=by
 refine List.any_eq_false.2 fun x hx => ?_;have:=zla h x hx;simp only [o8,Zda,decide_eq_true_eq];omega
theorem zef {f:List Int} (h:Nml f) (h1:1<=f.length) (hl:f.length<=16):p6 f=0:=by
 have ha:gH f=0:=by
  unfold gH;rw [if_neg (by omega),if_neg (by omega),zlb h hl,if_neg (by simp)]
 unfold p6;rw [ha,if_neg (by simp)];exact if_pos h
theorem zlc {n:Nat} {lines:List (List Int)} {f:List Int} (h:Nml f) (hf:f.length=n) (hl:n<=16) (hs:jJ (n:Int) lines=0):kL (n:Int) lines f=0:=by
 unfold kL;rw [if_neg (by simp [hs]),if_neg (by omega),zlb h (by omega),if_neg (by simp)]
theorem zza {n:Nat} {lines:List (List Int)} {f:List Int} (h:Nml f) (hf:f.length=n) (hl:n<=16) (hr:∀ l∈lines,AscL n l) (hll:∀ l∈lines,l.length<=16):∀ l∈lines,aS l f:=fun l hm =>
 ⟨by have:=hll l hm;omega,fun c hc=>by have:=(hr l hm).2.2 c hc;omega,fun x hx=>by have:=zla h x hx;omega⟩
theorem zux {f:List Int} {i:Nat} (h:i<f.length):(uL f).getD i 0=(f.length:Int)+1-f.getD i 0:=by
 unfold uL;rw [Zac,Zac,List.getElem?_map,List.getElem?_eq_getElem h];rfl
theorem zeg {l f:List Int} (h:aS l f):∀ j,j<=l.length->jZ (l.take j) (uL f)=(j:Int)*((f.length:Int)+1)-jZ (l.take j) f
 | 0,_=>by simp [jZ]
 | j+1,hj=>by
  have hc:=h.rng _ (Zay (show j<l.length by omega));rw [qU (by omega),qU (by omega),zeg h j (by omega),zux (by omega),show ((j+1:Nat):Int)=(j:Int)+1 by omega,Int.add_mul,Int.one_mul];omega
theorem zc8 {l f:List Int} (h:aS l f):jZ l (uL f)=(l.length:Int)*((f.length:Int)+1)-jZ l f:=by
 have:=zeg h l.length (Zah _)
 rwa [Zad (Zah _)] at this
def Cst (L:List (List Int)) (f:List Int):Prop:=∀ l∈L,∀ l'∈L,jZ l f=jZ l' f
theorem zhz {a:Int}:∀ {S:List Int} {k:Nat},difA a S k<0↔∀ s∈S,s=a
 | [],k=>by simp [difA]
 | x::S,k=>by
  by_cases c:x=a
  ·rw [difA,if_pos c,zhz (S:=S)];simp [c]
  ·rw [difA,if_neg c];constructor
   ·intro h;omega
   ·intro h;exact absurd (h x (by simp)) c
theorem zc9 {L:List (List Int)} {f:List Int}:m8 (uU L f)<0↔Cst L f:=by
 rw [m8,zhz];constructor
 ·intro h l hl l' hl';have h1:=h (jZ l f) (Zen hl);have h2:=h (jZ l' f) (Zen hl');rw [h1,h2]
 ·intro h s hs;obtain ⟨l,hl,rfl⟩:=List.mem_map.1 hs;cases L with
  | nil=>simp at hl
  | cons a L=>exact h l hl a (by simp)
theorem zuy {L:List (List Int)} {f:List Int} (hok:∀ l∈L,aS l f) (hal:∀ l∈L,l.length=(L.getD 0 []).length):Cst L (uL f)↔Cst L f:=by
 have e:∀ l∈L,jZ l (uL f)=((L.getD 0 []).length:Int)*((f.length:Int)+1)-jZ l f:=fun l hl=>by rw [zc8 (hok l hl),hal l hl]
 constructor
 ·intro h l hl l' hl';have:=h l hl l' hl';rw [e l hl,e l' hl'] at this;omega
 ·intro h l hl l' hl';rw [e l hl,e l' hl',h l hl l' hl']
def fQ (f:List Int):List Rat:=f.map fun (x:Int)=>(x:Rat)
theorem zjr (f:List Int):(fQ f).length=f.length:=by unfold fQ;rw [Zaz]
theorem qb9 {f:List Int} {i:Nat}:at' (fQ f) i=((f.getD i 0:Int):Rat):=by
 by_cases h:i<f.length
 ·unfold fQ;rw [at',Zac,Zac,List.getElem?_map,List.getElem?_eq_getElem h];rfl
 ·rw [kN (by rw [zjr];omega),Zac,List.getElem?_eq_none (by omega)];rfl
theorem zr5 {l f:List Int}:∀ j,j<=l.length->conQ (fQ f) l j=((jZ (l.take j) f:Int):Rat)
 | 0,_=>by rw [Zee];rfl
 | j+1,hj=>by rw [xG (by omega),zr5 j (by omega),qU (by omega),qb9,Rat.intCast_add]
theorem zfs {n:Nat} {l f:List Int} (hf:f.length=n) (hl:AscL n l):dot (sS n l) (fQ f)=((jZ l f:Int):Rat):=by
 have h1:=zfq (b:=fQ f) (by rw [zjr];exact hf) hl l.length (Zah _);have h2:=zr5 (l:=l) (f:=f) l.length (Zah _);rw [Zad (Zah _)] at h1 h2;rw [<- h1,h2]
def aT (l:List Int):Int:=l.foldr (· + ·) 0
theorem zms {a b:List Int} (h:a.Perm b):aT a=aT b:=by
 induction h with
 | nil=>rfl
 | cons x _ ih=>unfold aT at ih ⊢;rw [Zdz,Zdz,ih]
 | swap x y l=>unfold aT;simp only [Zdz];omega
 | trans _ _ h1 h2=>rw [h1,h2]
theorem zr6 (a b:List Int):aT (a++b)=aT a+aT b:=by
 induction a with
 | nil=>unfold aT;simp
 | cons x a ih=>unfold aT at ih ⊢;rw [Zch,Zdz,Zdz,ih];omega
theorem zzb (f:List Int):dot (fQ f) (List.replicate f.length 1)=((aT f:Int):Rat):=by
 induction f with
 | nil=>rfl
 | cons x f ih =>
  unfold fQ aT at ih ⊢;rw [Zbr,Zbt,Zbw,dot,ih,Zdz,Rat.intCast_add];grind
theorem zr7 (n:Nat):2*aT (upTo n)=(n:Int)*((n:Int)+1):=by
 induction n with
 | zero=>rfl
 | succ n ih =>
  have e:upTo (n+1)=upTo n++[((n:Int)+1)]:=by unfold upTo;rw [List.range_succ,Zat];rfl
  rw [e,zr6,Int.mul_add,ih];have:aT [((n:Int)+1)]=(n:Int)+1:=by unfold aT;simp
  rw [this]
  grind
theorem zuz {f:List Int} (h:Nml f):aT f=((f.length*(f.length+1) / 2:Nat):Int):=by
 have h1:aT f=aT (upTo f.length):=by rw [<- h];exact (zms (kS f)).symm
 have h2:=zr7 f.length;rw [<- h1] at h2;have e:(f.length:Int)*((f.length:Int)+1)=((f.length*(f.length+1):Nat):Int):=by simp
 rw [e] at h2;omega
theorem zu0 {n:Nat} {lines:List (List Int)} {f:List Int} (hf:f.length=n) (hr:∀ l∈lines,AscL n l) (hc:Cst lines f):Mgf n lines (fQ f):=by
 refine ⟨by rw [zjr];exact hf,fun l hl => ?_⟩;have h0:0<lines.length:=by cases lines with
  | nil=>simp at hl
  | cons a L=>simp
 have hm:=gY (l:=lines) (d:=[]) h0;rw [zfs hf (hr l hl),zfs hf (hr _ hm),hc l hl _ hm]
end Go.Ev
namespace Go.Ev
open Go Go.Proofs
variable {B:Nat}
set_option maxRecDepth 100000
theorem qca {a b:Bool} {K:AV->OP}:zi .neq .bool (.bool a) (.bool b) K=K (.bool (a != b)):=by cases a <;> cases b <;> exact nr rfl
def fewB (a b:Int) (cells:Int) (lines:List (List Int)):Bool:=decide ((lines.length:Int)<=b/\∀ l∈lines,(l.length:Int)<=a)&&(decide (jJ cells lines=0)&&decide (cells<=a))
theorem qcb {cells:Int} {lines:List (List Int)}:Pure Tryz.prog B 35 [.agg [I cells,qp lines],I 16,I 12] (· = .bool (fewB 16 12 cells lines)):=by
 refine yB fun h nx K H0 hK=>zP zS jA 100 fun hf => ?_;rw [F35.go,F35.t3,zA,F35.jm];refine H0.box (l:=[I cells,qp lines]) rfl fun bx h1 nx1 H1 => ?_;have ret:∀ {b:Bool},b=fewB 16 12 cells lines->K (.bool b) h1 nx1=.ok True:=fun e=>hK _ _ _ _ _ H1 (zY rfl) (by rw [e]);rw [zA,F35.jl,F35.eF,F35.eG,H1.zk (k:=0) (n:=2) rfl rfl];refine zum (by omega) _ _ _ _ ?_;rintro _ rfl _;rw [F35.r1_1,F35.tu];by_cases c1:(lines.length:Int)<=12/\∀ l∈lines,(l.length:Int)<=16
 case neg =>
  rw [Zab c1];simp only [yM,gQ,uGWf];rw [F35.r1_2,F35.zbf];simp only [yM,gQ,zQ];rw [F35.r1_3,F35.oJ];simp only [zJ,zT];rw [F35.ret];exact ret (by rw [fewB,Zab c1];rfl)
 rw [Zaa c1];simp only [yN,uGWt];rw [H1.zk (k:=0) (n:=2) rfl rfl];refine zro (fun q hq=>by have:=c1.2 q hq;omega) _ _ _ _ ?_;rintro _ rfl _;rw [F35.r1_2,F35.zbf];simp only [yN,zO];rw [ve];by_cases c2:jJ cells lines=0
 case neg =>
  rw [Zab c2];simp only [yM,gQ,zQ];rw [F35.r1_3,F35.oJ];simp only [zJ,zT];rw [F35.ret];exact ret (by rw [fewB,Zaa c1,Zab c2];rfl)
 rw [Zaa c2];simp only [yN,zO];rw [sFx,H1.load (k:=0) (i:=0+0) rfl rfl,ni];rw [F35.r1_3,F35.oJ];simp only [zJ,zT];rw [F35.ret];exact ret (by rw [fewB,Zaa c1,Zaa c2];rfl)
theorem law9 {cells:Int} {lines:List (List Int)} {f:List Int} (hj:∀ B,JOk Tryz.prog B pQ) (haw:∀ {B},Pure Tryz.prog B 17 [] (· = .bool true)):Pure Tryz.prog B 9 [.agg [I cells,qp lines],encI f] (· = .bool true):=by
 refine yB fun h nx K H0 hK=>zP zS jA 1000 fun hf => ?_;have awk:∀ (h:T Blk) (nx:Pa) (Z:Kw Prop),Z (.bool true) h nx=.ok True->(CS Tryz.prog B).fn 17 (.of 17) [] h nx Z=.ok True:=fun h nx Z hZ=>haw _ _ _ _ fun v hv _=>by rw [hv];exact hZ
 have ret:∀ {h1 nx1 L},Hp h h1 nx1 L->K (.bool true) h1 nx1=.ok True:=fun H=>hK _ _ _ _ _ H (zY rfl) rfl;rw [F9.go,F9.t70,zA,F9.jm];refine H0.box (l:=[I cells,qp lines]) rfl fun bx h1 nx1 H1 => ?_;have lN:∀ op:AV->OP,zE 2 (.ptr bx 0) h1 op=op (.agg [I cells,qp lines]):=fun op=>H1.zk (k:=0) (n:=2) rfl rfl;have l0:∀ op:AV->OP,zH (.ptr bx (0+0)) h1 op=op (I cells):=fun op=>H1.load (k:=0) (i:=0+0) rfl rfl;have l1:∀ op:AV->OP,zH (.ptr bx (0+1)) h1 op=op (qp lines):=fun op=>H1.load (k:=0) (i:=0+1) rfl rfl;rw [zA,zA,F9.jl,F9.eF,F9.eG,lN];refine qcb _ _ _ _ ?_;rintro _ rfl _;rw [F9.r1_1,F9.tu,yU];cases cF:fewB 16 12 cells lines with
 | false =>
  simp only [Zaj,yW,gQ,zO];rw [F9.r1_2,F9.zbf];simp only [yW,zhu];rw [F9.r1_3,F9.oJ];simp only [yW,zO];rw [zB,F9.v21,zD,zA,F9.qh];refine awk _ _ _ ?_;simp only [zJ,zT];rw [F9.ret];exact ret H1
 | true =>
 simp only [fewB,Zai,decide_eq_true_eq] at cF;obtain ⟨⟨hl,hll⟩,he,hc16⟩:=cF;have hl:lines.length<=12:=by omega
 have hll:∀ l∈lines,l.length<=16:=fun l hm=>by have:=hll l hm;omega
 obtain ⟨n,rfl,hn1,_,_,hasc⟩:=zjk he;have hn:n<=16:=by omega
 simp only [Zag,yJ,zX,sFx,l0,vk,zQ];rw [F9.r1_2,F9.zbf];by_cases c1:(f.length:Int)=(n:Int)
 case neg =>
  rw [Zab c1,Zaj];simp only [yW,zhu];rw [F9.r1_3,F9.oJ];simp only [yW,zO];rw [zB,F9.v21,zD,zA,F9.qh];refine awk _ _ _ ?_;simp only [zJ,zT];rw [F9.ret];exact ret H1
 have hfn:f.length=n:=by omega
 have hlen:f.length<=100000:=by omega
 rw [Zaa c1,Zag];simp only [yJ,zhv];refine mY hlen _ _ _ _ ?_;rintro _ rfl _;rw [F9.r1_3,F9.oJ];simp only [yJ,zQ,yU];rw [zB,F9.v21];by_cases c2:srt f=upTo f.length
 case neg =>
  rw [Zab c2,Zaj,zD,zA,F9.qh];refine awk _ _ _ ?_;simp only [zJ,zT];rw [F9.ret];exact ret H1
 have hN:Nml f:=c2;have hNc:=zuv hN;have hcl:=kK f;have hE:=zef hN (by omega) (by omega);have hEc:=zef hNc (by omega) (by omega);have hK1:=zlc hN hfn hn he;have hK2:=zlc hNc (by omega) hn he;have hok:=zza hN hfn hn hasc hll;rw [Zaa c2,Zag,zC,zF,zA,F9.mg];refine p5 hj hlen _ _ _ _ ?_;rintro _ rfl _;rw [hE,if_neg (by decide),yL,yI,zA,zA,F9.rq,F9.r4_0,F9.zxe,vk,Zaa rfl,Zag];simp only [yJ,zX,vk];rw [hcl,Zaa rfl,Zag,F9.r4_1,F9.zxf];simp only [yJ,zQ,zhv];rw [<- hcl];refine mY (by omega) _ _ _ _ ?_;rintro _ rfl _;rw [F9.r4_2,F9.zxg,show decide (srt (uL f)=upTo (uL f).length)=true from Zaa hNc];simp only [yJ,zQ,yU,Zag];rw [zB,F9.v22,zC,zF,zA,F9.ng];refine p5 hj (by omega) _ _ _ _ ?_;rintro _ rfl _;rw [hEc,if_neg (by decide),yL,yI,zuw,zA,F9.fM,lN];refine zr4 (fun q hq=>by have:=hll q hq;omega) hlen _ _ _ _ ?_;rintro _ rfl _;rw [hK1,if_neg (by decide),yL,yI,zA,F9.nP,lN];refine zr4 (fun q hq=>by have:=hll q hq;omega) (by omega) _ _ _ _ ?_;rintro _ rfl _;rw [hK2,if_neg (by decide),yL,yI,zA,zA,F9.sJ,F9.r9_0,F9.zaj,jy (by decide),jy (by decide),vk,Zaa (by decide),Zag];simp only [yJ];rw [F9.r9_1,F9.aB];simp only [yJ,zhv];refine zc2 (by omega) _ _ _ _ ?_;rintro _ rfl _;rw [F9.r9_2,F9.aC,Zaa rfl];simp only [yJ,zQ,yU,Zag,zX,sFx,l1];rw [F9.r9_3,F9.zeh];simp only [yJ,zQ,vk,zX,sFx,l1];rw [u6,Zaa rfl,Zag];simp only [yJ,zQ,vk,zX,sFx,l1];rw [F9.r9_4,F9.zxh];simp only [yJ,zQ,vk];rw [u6,Zaa rfl,Zag,zB,F9.v23,zC,zF,zA,F9.zfw,zA,zA,F9.sV,sFx,l1,zX,zM];have hbd:∀ l∈lines, -16000000000<=jZ l f/\jZ l f<=16000000000:=fun l hm=>by
  have:=zc6 (hok l hm) l.length (Zah _);rw [Zad (Zah _)] at this;have:=hll l hm;omega
 refine F9.qaa (fun m x12 x26 h' nx'=>∃ (i:Nat) (al:Bool),x12=.bool al/\x26=I (i:Int)/\m+i=lines.length/\(al=true↔∀ l∈lines.take i,l.length=(lines.getD 0 []).length)/\h'=h1/\nx'=nx1) (m:=lines.length) (by omega) ⟨0,true,rfl,rfl,rfl,by simp,rfl,rfl⟩ ?_;rintro m z3 z12 z13 z14 z26 z27 z28 h3 nx3 R ⟨i,al,rfl,rfl,hm,hal,rfl,rfl⟩ hR;rw [F9.t37,zA,F9.aZ,ug,zA,zB,F9.v27];by_cases ci:i<lines.length
 ·have hx:lines[i]? = some lines[i]:=List.getElem?_eq_getElem ci;have hx0:lines[0]? = some (lines.getD 0 []):=kI (by omega);have hmi:=Zay ci;have g1:(uU lines f)[i]? = some (jZ lines[i] f):=by rw [uU,List.getElem?_map,hx];rfl
  have g2:(uU lines (uL f))[i]? = some (jZ lines[i] (uL f)):=by rw [uU,List.getElem?_map,hx];rfl
  have b1:=hbd _ hmi;have b2:=zc8 (hok _ hmi);have hli:=hll _ hmi;have hp:(lines[i].length:Int)*((f.length:Int)+1)=((lines[i].length*(n+1):Nat):Int):=by rw [hfn];simp
  have hp2:lines[i].length*(n+1)<=16*17:=Zbd hli (by omega);rw [hp] at b2;have a1:∀ K:AV->OP,zi .add .int (I (n:Int)) (I 1) K=K (I ((n+1:Nat):Int)):=fun K=>by rw [jy (by omega)];simp
  have m1:∀ K:AV->OP,zi .mul .int (I (lines[i].length:Int)) (I ((n+1:Nat):Int)) K=K (I ((lines[i].length*(n+1):Nat):Int)):=fun K=>by
   have e:(lines[i].length:Int)*((n+1:Nat):Int)=((lines[i].length*(n+1):Nat):Int):=by simp
   rw [nU (by rw [e];omega),e]
  rw [Zaa (by omega),zD,zF,zA,zM,zA,F9.aF,bH rfl ci,ldL (getT hx),zA,zA,F9.zat,F9.zn0,F9.zsl,bH (i:=i) rfl (by rw [u6];exact ci),ldL (rJ g1),bH (i:=i) rfl (by rw [u6];exact ci),ldL (rJ g2),F9.zv0,F9.zsm,jy (by omega),zX,sFx,l0,a1,m1,vk,Zaa (by omega),Zag,zB,F9.v28,zC,zF,F9.znl,F9.za6,F9.zej];have nxt:∀ al':Bool,(al'=true↔al=true/\lines[i].length=(lines.getD 0 []).length)->(al'=true↔∀ l∈lines.take (i+1),l.length=(lines.getD 0 []).length):=fun al' h'=>by
   rw [h',hal,Zan,hx,Zcm];constructor
   ·rintro ⟨p1,p2⟩ l hl';rcases List.mem_append.1 hl' with q | q
    ·exact p1 l q
    ·rw [List.mem_singleton.1 q];exact p2
   ·intro p;exact ⟨fun l q=>p l (Zdi _ q),p _ (Zeb _ (List.mem_singleton.2 rfl))⟩
  cases al with
  | false =>
   simp only [yM,gQ];rw [F9.zdz,F9.zay];simp only [yM,gQ,zQ];rw [F9.zam,jy (by omega)];exact hR (m-1) _ _ _ _ _ _ _ _ _ (by omega) ⟨i+1,false,rfl,by congr 1,by omega,nxt false (by simp),rfl,rfl⟩
  | true =>
   simp only [yN,zX,sFx,l1];rw [bH (j:=0) (i:=0) rfl (by omega),ldL (getT hx0),F9.zdz,F9.zay];simp only [yN,zX,zO,ve];rw [F9.zam,jy (by omega)];refine hR (m-1) _ _ _ _ _ _ _ _ _ (by omega) ⟨i+1,_,rfl,by congr 1,by omega,nxt _ ?_,rfl,rfl⟩;rw [decide_eq_true_eq];constructor
   ·intro q;exact ⟨rfl,by omega⟩
   ·intro q;have:=q.2;omega
 obtain rfl:i=lines.length:=by omega
 rw [Zad (Zah _)] at hal;rw [Zab (by omega),zC,zZ,yH,zA,F9.znx,lN];refine zk9 (fun q hq=>by have:=hll q hq;omega) hlen _ _ _ _ ?_;rintro _ rfl _;rw [hK1,if_neg (by decide),yL,yI,zA,F9.zdd,lN];refine zk9 (fun q hq=>by have:=hll q hq;omega) (by omega) _ _ _ _ ?_;rintro _ rfl _;rw [hK2,if_neg (by decide),yL,yI,zA,F9.zas,lN];refine zjn hn hl hll he _ _ _ _ ?_;rintro _ ⟨x,e,rfl,hce,hcf,hcn⟩ _;obtain ⟨p,hp⟩:∃ p:Bool,p=decide (m8 (uU lines f)<0):=⟨_,rfl⟩;obtain ⟨q,hq⟩:∃ q:Bool,q=decide (m8 (uU lines (uL f))<0):=⟨_,rfl⟩;have hpq:al=true->p=q:=fun ha=>by
  rw [hp,hq];exact decide_eq_decide.2 (zc9.trans ((zuy hok (hal.1 ha)).symm.trans zc9.symm))
 have hpc:p=true->(e=0->lines≠[]/\x=jZ (lines.getD 0 []) f)/\e≠21:=fun h'=>by
  by_cases hne:lines=[]
  ·have:=hcn hne;exact ⟨fun q=>by omega,by omega⟩
  ·have hC:=zc9.1 (of_decide_eq_true (hp ▸ h'));have h0:0<lines.length:=by cases lines with
    | nil=>exact absurd rfl hne
    | cons a L=>simp
   have hm0:=gY (l:=lines) (d:=[]) h0;have b0:=hbd _ hm0;have:=hcf hne (fQ f) (jZ (lines.getD 0 []) f) (zu0 hfn hasc hC) (by rw [<- hfn,zzb,zuz hN]) (by rw [xF,zfs hfn (hasc _ hm0)]) (by omega);exact ⟨fun q=>⟨hne,this.1 q⟩,this.2⟩
 rw [<- hp,<- hq,yL,yI,zA,zA,F9.zde,F9.za3,F9.zei,jy (by decide),vk,Zaa (by decide),Zag];simp only [yJ];cases hal2:al
 case' false =>
  simp only [yM,gQ];rw [F9.zd0,F9.zax];simp only [yM,gQ,yJ,zQ];rw [zB,F9.v29,zC,zF]
 case' true =>
  have hpq2:=hpq hal2;simp only [yN];rw [F9.zd0,F9.zax];simp only [yN];rw [qca,hpq2,show (q != q)=false by cases q <;> rfl];simp only [yJ,zO,zQ];rw [zB,F9.v29,zC,zF,<- hpq2]
 all_goals
  rw [zA,zA,F9.zf7,F9.za9,F9.zek];cases hp2:p with
  | false =>
   simp only [yM,gQ,zQ];rw [F9.zco,F9.zaa];simp only [yM,gQ];rw [F9.zkm,F9.zel];simp only [zQ];rw [zB,F9.v30,zC,zF,zA,F9.zn4,F9.zac,F9.zad,ve];rcases hce with rfl | rfl | rfl
   ·rw [Zaa rfl];simp only [yW,gQ,zO];rw [F9.eu,F9.sZ];simp only [yW,gQ,zO,uGWt];refine awk _ _ _ ?_;rw [F9.aP,F9.rW];simp only [zO,zJ,zT];rw [F9.ret];exact ret H1
   ·rw [Zab (by decide)];simp only [yJ];rw [ve,Zaa rfl];simp only [yW,gQ,zO,zQ];rw [F9.eu,F9.sZ];simp only [yW,gQ,zO,uGWt];refine awk _ _ _ ?_;rw [F9.aP,F9.rW];simp only [zO,zJ,zT];rw [F9.ret];exact ret H1
   ·rw [Zab (by decide)];simp only [yJ];rw [ve,Zab (by decide)];simp only [yJ,zQ];rw [F9.eu,F9.sZ];simp only [yJ];rw [ve,Zaa rfl];simp only [yN,yU,Zaj,zO,zQ,uGWt];refine awk _ _ _ ?_;rw [F9.aP,F9.rW];simp only [zO,zJ,zT];rw [F9.ret];exact ret H1
  | true =>
   obtain ⟨hp0,hp21⟩:=hpc hp2;simp only [yN];rw [ve];rcases hce with rfl | rfl | rfl
   ·obtain ⟨hne,hxe⟩:=hp0 rfl;have h0:0<lines.length:=by cases lines with
     | nil=>exact absurd rfl hne
     | cons a L=>simp
    have g0:(uU lines f)[0]? = some (jZ (lines.getD 0 []) f):=by rw [uU,List.getElem?_map,kI (d:=[]) h0];rfl
    rw [Zaa rfl];simp only [yN,zO,zX];rw [F9.zco,F9.zaa];simp only [yN];rw [ve,u6,Zab (by omega)];simp only [yJ];rw [bH (j:=0) (i:=0) rfl (by rw [u6];exact h0),ldL (rJ g0),vk,hxe,Zaa rfl,Zag];simp only [zQ];rw [F9.zkm,F9.zel];simp only [zO];rw [zB,F9.v30,zC,zF,zA,F9.zn4,F9.zac,F9.zad,ve,Zaa rfl];simp only [yW,gQ,zO];rw [F9.eu,F9.sZ];simp only [yW,gQ,zO,uGWt];refine awk _ _ _ ?_;rw [F9.aP,F9.rW];simp only [zO,zJ,zT];rw [F9.ret];exact ret H1
   ·rw [Zab (by decide)];simp only [yM,gQ,zO,zQ];rw [F9.zco,F9.zaa];simp only [yM,gQ];rw [F9.zkm,F9.zel];simp only [zQ];rw [zB,F9.v30,zC,zF,zA,F9.zn4,F9.zac,F9.zad,ve,Zab (by decide)];simp only [yJ];rw [ve,Zaa rfl];simp only [yW,gQ,zO,zQ];rw [F9.eu,F9.sZ];simp only [yW,gQ,zO,uGWt];refine awk _ _ _ ?_;rw [F9.aP,F9.rW];simp only [zO,zJ,zT];rw [F9.ret];exact ret H1
   ·exact absurd rfl hp21
end Go.Ev
