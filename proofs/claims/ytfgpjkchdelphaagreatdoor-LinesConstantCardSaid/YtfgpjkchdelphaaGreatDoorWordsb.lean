import Derived.Test.YtfgpjkchdelphaaGreatDoorWordsa
import Derived.Test.YtfgpjkchdelphaaGreatDoorCodea
import Derived.Test.YtfgpjkchdelphaaGreatDoorEvD
import GoSem.Core.Next
import Derived.Sort.Grow
import Derived.Sort.Row
import Derived.Test.YtfgpjkchdelphaaGreatDoorCodeb
import Derived.IntWalk
set_option linter.unusedSimpArgs false
set_option linter.unusedVariables false
namespace Go.Ev
open Go Go.Proofs
variable {B:Nat}
set_option maxRecDepth 100000
theorem zrc {h0 h:T Blk} {nx p:Pa} {L:List Ob} {k x:Nat} {o:Option Pa} {l:List Nat} {K:Kw Prop} (H:Hp h0 h nx L) (hk:L[k]? = some (.gro o 1 l.length (l.map λp=>I ((p:Nat):Int)))) (hl:l.length<=1000) (hK:∀ z:Int,(0<=z↔x∈l)->K (I z) h nx=.ok True):(CS Tryz.prog B).fn 247 p [uy o 1 l.length,I (x:Int)] h nx K=.ok True:=by
 refine zN zP yD 2000 λhf => ?_;rw [jh.go,jh.t22,zA,jh.zy,zA,zA,jh.zx,H.oJ hk,zJ];refine jh.zab (λm x5 h' nx'=>∃ i:Nat,x5=I (i:Int)/\m+i=l.length/\x∉l.take i/\h'=h/\nx'=nx) (m:=l.length) (by omega) ⟨0,rfl,rfl,by simp,rfl,rfl⟩ ?_;rintro m z2 z3 z5 z6 z7 h3 nx3 R ⟨i,rfl,hm,hn,rfl,rfl⟩ hR;rw [jh.t15,zA,jh.jb,jq,zA,zB,jh.v6];by_cases ci:i<l.length
 .have hx:l[i]? = some l[i]:=List.getElem?_eq_getElem ci;obtain ⟨id,g,d⟩:=H.zc5 hk (j:=i) (v:=I ((l[i]:Nat):Int)) (by rw [List.getElem?_map,hx];rfl);rw [Zac (by omega),zC,zG,zA,zJ,zA,jh.rD,zA,jh.rE,g,d,qx,zB,jh.v7];by_cases e:x=l[i]
  .rw [Zac (by omega),zC,zA,jh.qg];simp only [zE,vN,zM];rw [jh.ret];exact hK _ ⟨λ_=>e ▸ Zau ci,λ_=>by omega⟩
  .rw [Zab (by omega),zD,zG,jh.ni,um (by omega)];refine hR (m-1) _ _ _ _ _ _ _ (by omega) ⟨i+1,by congr 1,by omega,?_,rfl,rfl⟩;rw [Zar,hx,Zbn,Zaw,Zat];exact λq=>q.elim hn e
 .rw [Zab (by omega),zD,zV,yC,zA,jh.rX];simp only [zE,zM];rw [jh.ret];rw [Zam (by omega)] at hn;exact hK _ ⟨λq=>by omega,λq=>absurd q hn⟩
theorem ztx {h0 h:T Blk} {nx p:Pa} {L:List Ob} {k x:Nat} {o:Option Pa} {l:List Nat} {K:Kw Prop} (H:Hp h0 h nx L) (hk:L[k]? = some (.gro o 1 l.length (l.map λp=>I ((p:Nat):Int)))) (hl:l.length<=1000) (hK:K (.bool (decide (x∈l))) h nx=.ok True):(CS Tryz.prog B).fn 182 p [uy o 1 l.length,I (x:Int)] h nx K=.ok True:=by
 refine zN zP yD 2000 λhf => ?_;rw [nV.go,nV.t3,zA,nV.zy,zA,nV.zx];refine zrc H hk hl λz hz => ?_;rw [fI];simp only [zE,zM];rw [nV.ret];have:decide (0<=z)=decide (x∈l):=decide_eq_decide.2 hz;rw [this];exact hK
def oP (c:Nat):List (List Rat×Nat)->List Rat->List Rat
 | [],b=>b
 |(q,p)::l,b=>oP c l (b.set p (-at' q c))
theorem zdi (c:Nat) (q:List Rat) (p:Nat):∀ (l:List (List Rat×Nat)) (b:List Rat),oP c (l++[(q,p)]) b=(oP c l b).set p (-at' q c)
 | [],b=>rfl
 |(q',p')::l,b=>by rw [Zbx,oP,zdi c q p l,oP]
theorem bH (c:Nat):∀ (l:List (List Rat×Nat)) (b:List Rat),(oP c l b).length=b.length
 | [],_=>rfl
 |(q,p)::l,b=>by rw [oP,bH c l,Zan]
def gC (n c:Nat):List Rat:=(List.replicate n 0).set c 1
def eO (n:Nat) (Q:List (List Rat)) (ps:List Nat) (c:Nat):List Rat:=oP c (aC Q ps) (gC n c)
theorem gB (n c:Nat):(gC n c).length=n:=by unfold gC;rw [Zan,Zba]
theorem dL (n:Nat) (Q:List (List Rat)) (ps:List Nat) (c:Nat):(eO n Q ps c).length=n:=by unfold eO;rw [bH,gB]
theorem zca (n c j:Nat):at' (gC n c) j=0\/at' (gC n c) j=1:=by
 unfold gC;by_cases e:c=j
 .by_cases hj:j<n
  .right;rw [at',Zaa,e,List.getElem?_set_self (by rw [Zba];exact hj)];rfl
  .left;exact jH (by rw [Zan,Zba];omega)
 .left
  rw [at',Zaa,List.getElem?_set_ne e];by_cases hj:j<n
  .rw [List.getElem?_replicate,if_pos hj];rfl
  .rw [List.getElem?_eq_none (by rw [Zba];omega)];rfl
theorem Dn.neg {t M:Nat} {q:Rat} (h:Dn t M q):Dn t M (-q):=by
 obtain ⟨z,e,hz⟩:=h;exact ⟨-z,by rw [Zct];grind,by omega⟩
theorem m7:∀ (b g:List Rat) (p:Nat) (x:Rat),p<b.length->b.length=g.length->dot (b.set p x) g=dot b g+(x-at' b p)*at' g p
 | [],_,p,x,h,_=>by simp at h
 | y::b,[],p,x,h,h2=>by simp at h2
 | y::b,z::g,0,x,_,_=>by
  rw [Zgm,dot,dot];show _=_+(x-y)*z
  grind
 | y::b,z::g,p+1,x,h,h2=>by
  have ih:=m7 b g p x (by simpa using h) (by simpa using h2);rw [Zfm,dot,dot,ih];show _=_+(x-at' b p)*at' g p
  grind
def sumA (c:Nat) (g:List Rat):List (List Rat×Nat)->Rat
 | []=>0
 |(q,p)::l=>at' g p*at' q c+sumA c g l
theorem zey {b:List Rat} {p j:Nat} {x:Rat} (h:p≠j):at' (b.set p x) j=at' b j:=by
 rw [at',Zaa,List.getElem?_set_ne h,<- Zaa]
theorem zho {n c:Nat} {g:List Rat} (hg:g.length=n):∀ (l:List (List Rat×Nat)) (b:List Rat),b.length=n->(l.map (·.2)).Nodup->(∀ x∈l,x.2<n/\at' b x.2=0)->dot (oP c l b) g=dot b g-sumA c g l
 | [],b,_,_,_=>by rw [oP,sumA];grind
 |(q,p)::l,b,hb,hd,hz=>by
  obtain ⟨h1,h2⟩:=hz (q,p) (Zaj ..);have h1:p<n:=h1;have h2:at' b p=0:=h2;rw [Zea,Zdx] at hd;rw [oP,zho hg l _ (by rw [Zan];exact hb) hd.2 (λx hx => ?_),m7 _ _ _ _ (by omega) (by omega),h2,sumA]
  .grind
  .obtain ⟨h3,h4⟩:=hz x (Zao _ hx);refine ⟨h3,?_⟩;rw [zey (λe=>hd.1 (List.mem_map.2 ⟨x,hx,e.symm⟩))];exact h4
end Go.Ev
namespace Go.Ev
open Go Go.Proofs
theorem jU:∀ (a b:List Rat),dot a b=dot b a
 | [],[]=>rfl
 | [],_::_=>rfl
 | _::_,[]=>rfl
 | x::a,y::b=>by rw [dot,dot,jU a b];grind
theorem xT:∀ (r f:List Rat),(∀ j,at' r j=0)->dot r f=0
 | [],_,_=>by cases ‹List Rat› <;> rfl
 | x::r,[],_=>rfl
 | x::r,y::f,h=>by
  have h0:x=0:=h 0;rw [dot,xT r f λj=>h (j+1),h0];grind
theorem wW (n j:Nat):at' (List.replicate n (0:Rat)) j=0:=by
 by_cases hj:j<n
 .rw [at',Zaa,List.getElem?_replicate,if_pos hj];rfl
 .exact jH (by rw [Zba];omega)
theorem zrd {n c:Nat} {g:List Rat} (hg:g.length=n) (hc:c<n):dot (gC n c) g=at' g c:=by
 unfold gC;rw [m7 _ _ _ _ (by rw [Zba];exact hc) (by rw [Zba];exact hg.symm),wW,xT _ _ (wW n)];grind
theorem zez {n c j:Nat} (h:j≠c):at' (gC n c) j=0:=by
 unfold gC;rw [zey (λe=>h e.symm),wW]
theorem bP (c:Nat) (g:List Rat) (q:List Rat) (p:Nat):∀ l:List (List Rat×Nat),sumA c g (l++[(q,p)])=sumA c g l+at' g p*at' q c
 | []=>by simp only [Zbo,sumA];grind
 |(q',p')::l=>by rw [Zbx,sumA,sumA,bP c g q p l];grind
structure RkG (n:Nat) (Q:List (List Rat)) (ps:List Nat) (g:List Rat) (k:Nat) (r:List Rat):Prop where
 eq:r=oC ((aC Q ps).take k) g
 len:r.length=n
 val:∀ c,at' r c=at' g c-sumA c g ((aC Q ps).take k)
 late:∀ b,k<=b->b<Q.length->at' r (ps.getD b 0)=at' g (ps.getD b 0)
 done:∀ b,b<k->b<Q.length->at' r (ps.getD b 0)=0
theorem RkG.all {n t M:Nat} {Q:List (List Rat)} {ps:List Nat} {g:List Rat} (hS:St n t M Q ps) (hg:g.length=n):∀ k,k<=Q.length->RkG n Q ps g k (oC ((aC Q ps).take k) g)
 | 0,_=>⟨rfl,hg,λc=>by rw [Zdm,oC,sumA];grind,λb _ _=>rfl,λb h=>by omega⟩
 | k+1,hk=>by
  have h:=RkG.all hS hg k (by omega);have hk':k<Q.length:=by omega
  have hq:=zY (d:=[]) hk';have hll:(oC ((aC Q ps).take k) g).length=(Q.getD k []).length:=by rw [h.len,hS.row _ hq]
  have hl:=h.late k (Zaf _) hk';refine ⟨rfl,?_,λc => ?_,λb h1 h2 => ?_,λb h1 h2 => ?_⟩
  .rw [kZ hS.len hk',kU,jA hll];exact h.len
  .rw [kZ hS.len hk',kU,yY hll,h.val c,bP,hl];grind
  .rw [kZ hS.len hk',kU,yY hll,hS.one k b hk' h2,if_neg (by omega),h.late b (by omega) h2];grind
  .rw [kZ hS.len hk',kU,yY hll,hS.one k b hk' h2];by_cases e:b=k
   .subst e;rw [if_pos rfl];grind
   .rw [if_neg (by omega),h.done b (by omega) h2];grind
theorem St.nodup {n t M:Nat} {Q:List (List Rat)} {ps:List Nat} (hS:St n t M Q ps):ps.Nodup:=by
 rw [Zfb,Zdn];intro a b ha hb hab e;have ha':a<Q.length:=by have:=hS.len;omega
 have hb':b<Q.length:=by have:=hS.len;omega
 have h1:=hS.one a a ha' ha';have h2:=hS.one a b ha' hb';have e1:ps.getD a 0=ps[a]:=by rw [Zaa,List.getElem?_eq_getElem ha];rfl
 have e2:ps.getD b 0=ps[b]:=by rw [Zaa,List.getElem?_eq_getElem hb];rfl
 rw [if_pos rfl,e1] at h1;rw [if_neg (by omega),e2,<- e,h1] at h2;exact absurd h2 (by decide)
theorem zty {Q:List (List Rat)} {ps:List Nat} (h:ps.length=Q.length):(aC Q ps).map (·.2)=ps:=by
 exact List.map_snd_zip (by omega)
theorem zm2 (l:List Rat):∀ (a:Rat),l.foldl (· + ·) a=a+dot l (List.replicate l.length 1):=by
 induction l with
 | nil=>intro a;rw [List.foldl_nil];show a=a+0;grind
 | cons x l ih=>intro a;rw [Zdz,ih,Zbd,Zfd,dot];grind
theorem ze0 {n:Nat} {l:List Int} {c:Int} {b:List Rat} (hb:b.length=n) (hc:0<=c/\c<(n:Int)) (hn:c∉l) (hl:∀ x∈l,0<=x):dot (rQ n (l++[c])) b=dot (rQ n l) b+at' b c.toNat:=by
 have hz:∀ (l:List Int) (q:List Rat),c∉l->(∀ x∈l,0<=x)->at' q c.toNat=0->at' (l.foldl (λq c=>q.set c.toNat 1) q) c.toNat=0:=by
  intro l
  induction l with
  | nil=>intro q _ _ h;exact h
  | cons x l ih =>
   intro q hcl hx h;rw [Zdz];have hx0:=hx x (Zaj ..);have hne:x≠c:=λe=>hcl (by rw [e];exact Zaj ..);refine ih _ (λhm=>hcl (Zao _ hm)) (λy hy=>hx y (Zao _ hy)) ?_;rw [zey (by omega)];exact h
 rw [cD,m7 _ _ _ _ (by rw [yH];omega) (by rw [yH];exact hb.symm)];have h0:at' (rQ n l) c.toNat=0:=hz l _ hn hl (wW n _);rw [h0];grind
def wdg:List Int->(List Bool->Int)->List Bool->Int
 | _::a,w,false::s=>wdg a (λt=>w (false::t)) s
 | x::a,w,true::s=>x*w (false::s)-wdg a (λt=>w (true::t)) s
 | _,_,_=>0
def ctr:List Int->(List Bool->Int)->List Bool->Int
 | x::a,w,false::s=>ctr a (λt=>w (false::t)) s+x*w (true::s)
 | _::a,w,true::s => -ctr a (λt=>w (true::t)) s
 | _,_,_=>0
def ipf:Nat->(List Bool->Int)->(List Bool->Int)->Int
 | 0,v,w=>v []*w []
 | n+1,v,w=>ipf n (λt=>v (false::t)) (λt=>w (false::t))+ipf n (λt=>v (true::t)) (λt=>w (true::t))
def sqV:List Int->Int
 | []=>0
 | x::a=>x*x+sqV a
def dtI:List Int->List Int->Int
 | x::a,y::b=>x*y+dtI a b
 | _,_=>0
theorem kE:∀ n v w,ipf n v w=ipf n w v
 | 0,_,_=>Int.mul_comm ..
 | n+1,v,w=>by rw [ipf,ipf,kE n,kE n (λt=>v (true::t))]
theorem c5 (c:Int):∀ n u v w,ipf n u (λs=>c*v s-w s)=c*ipf n u v-ipf n u w
 | 0,_,_,_=>by simp only [ipf];grind
 | n+1,u,v,w=>by
  simp only [ipf];rw [c5 c n _ (λt=>v (false::t)) (λt=>w (false::t)),c5 c n _ (λt=>v (true::t)) (λt=>w (true::t))];grind
theorem mR (c:Int):∀ n u v w,ipf n (λs=>v s+c*w s) u=ipf n v u+c*ipf n w u
 | 0,_,_,_=>by simp only [ipf];grind
 | n+1,u,v,w=>by
  simp only [ipf];rw [mR c n _ (λt=>v (false::t)) (λt=>w (false::t)),mR c n _ (λt=>v (true::t)) (λt=>w (true::t))];grind
theorem c4:∀ n u v,ipf n (λs => -v s) u = -ipf n v u
 | 0,_,_=>by simp only [ipf];grind
 | n+1,u,v=>by
  simp only [ipf];rw [c4 n _ (λt=>v (false::t)),c4 n _ (λt=>v (true::t))];grind
theorem zcb:∀ n w,ipf n (λ_=>0) w=0
 | 0,_=>Int.zero_mul _
 | n+1,w=>by rw [ipf,zcb n,zcb n];rfl
theorem wR:∀ n w,0<=ipf n w w
 | 0,w=>by
  rcases Int.le_total 0 (w []) with h | h
  .exact Zgj h h
  .exact Zec h h
 | n+1,w=>Int.add_nonneg (wR n _) (wR n _)
theorem zk0 (x:Int):0<=x*x:=by
 rcases Int.le_total 0 x with h | h
 .exact Zgj h h
 .exact Zec h h
theorem zjm:∀ (a:List Int) (v w),ipf a.length v (wdg a w)=ipf a.length (ctr a v) w
 | [],v,w=>by simp only [ipf,wdg,ctr,Zfe];grind
 | x::a,v,w=>by
  show ipf a.length (λt=>v (false::t)) (wdg a λt=>w (false::t))+ipf a.length (λt=>v (true::t)) (λs=>x*w (false::s)-wdg a (λt=>w (true::t)) s)=ipf a.length (λs=>ctr a (λt=>v (false::t)) s+x*v (true::s)) (λt=>w (false::t))+ipf a.length (λs => -ctr a (λt=>v (true::t)) s) (λt=>w (true::t));rw [zjm a,c5 x _ _ (λs=>w (false::s)) (λs=>wdg a (λt=>w (true::t)) s),mR x _ _ (λs=>ctr a (λt=>v (false::t)) s) (λs=>v (true::s)),c4,show (λs=>wdg a (λt=>w (true::t)) s)=wdg a λt=>w (true::t) from rfl,zjm a]
  grind
theorem zcc:∀ (a:List Int) w,ipf a.length (wdg a w) (wdg a w)+ipf a.length (ctr a w) (ctr a w)=sqV a*ipf a.length w w
 | [],w=>by simp only [ipf,wdg,ctr,sqV,Zfe];grind
 | x::a,w=>by
  have e1:=zcc a λt=>w (false::t);have e2:=zcc a λt=>w (true::t);have e3:=zjm a (λt=>w (false::t)) (λt=>w (true::t));show ipf a.length (wdg a λt=>w (false::t)) (wdg a λt=>w (false::t))+ipf a.length (λs=>x*w (false::s)-wdg a (λt=>w (true::t)) s) (λs=>x*w (false::s)-wdg a (λt=>w (true::t)) s)+(ipf a.length (λs=>ctr a (λt=>w (false::t)) s+x*w (true::s)) (λs=>ctr a (λt=>w (false::t)) s+x*w (true::s))+ipf a.length (λs => -ctr a (λt=>w (true::t)) s) (λs => -ctr a (λt=>w (true::t)) s))=(x*x+sqV a)*(ipf a.length (λt=>w (false::t)) (λt=>w (false::t))+ipf a.length (λt=>w (true::t)) (λt=>w (true::t)));have c1:∀ u,ipf a.length u (λs=>x*w (false::s)-wdg a (λt=>w (true::t)) s)=x*ipf a.length u (λs=>w (false::s))-ipf a.length u (wdg a λt=>w (true::t)):=λu=>c5 x _ _ (λs=>w (false::s)) (λs=>wdg a (λt=>w (true::t)) s);have c2:∀ u,ipf a.length (λs=>ctr a (λt=>w (false::t)) s+x*w (true::s)) u=ipf a.length (ctr a λt=>w (false::t)) u+x*ipf a.length (λs=>w (true::s)) u:=λu=>mR x _ _ (λs=>ctr a (λt=>w (false::t)) s) (λs=>w (true::s));have c3:∀ u,ipf a.length (λs => -ctr a (λt=>w (true::t)) s) u = -ipf a.length (ctr a λt=>w (true::t)) u:=λu=>c4 ..;rw [c1,kE _ (λs=>x*w (false::s)-wdg a (λt=>w (true::t)) s),c1,kE _ (λs=>x*w (false::s)-wdg a (λt=>w (true::t)) s),c1,c2,c3,kE _ _ (λs => -ctr a (λt=>w (true::t)) s),c3,kE _ _ (λs=>ctr a (λt=>w (false::t)) s+x*w (true::s)),c2,kE _ _ (λs=>ctr a (λt=>w (false::t)) s+x*w (true::s)),c2];rw [kE _ (wdg a λt=>w (true::t)) (λs=>w (false::s)),kE _ (λs=>w (true::s)) (ctr a λt=>w (false::t)),e3]
  grind
theorem zre (a:List Int) (w):ipf a.length (wdg a w) (wdg a w)<=sqV a*ipf a.length w w:=by
 have:=zcc a w;have:=wR a.length (ctr a w);omega
theorem mB (c:Int):∀ (a:List Int) v w s,wdg a (λt=>c*v t-w t) s=c*wdg a v s-wdg a w s
 | [],_,_,_=>by simp only [wdg];grind
 | _::_,_,_,[]=>by simp only [wdg];grind
 | x::a,v,w,false::s=>mB c a (λt=>v (false::t)) (λt=>w (false::t)) s
 | x::a,v,w,true::s=>by
  have:=mB c a (λt=>v (true::t)) (λt=>w (true::t)) s;simp only [wdg] at this ⊢;rw [this];grind
theorem xF:∀ (a b:List Int) w s,a.length=b.length->wdg a (wdg b w) s = -wdg b (wdg a w) s
 | [],[],_,_,_=>by simp only [wdg];rfl
 | _::_,_::_,_,[],_=>by simp only [wdg];rfl
 | x::a,y::b,w,false::s,h=>xF a b (λt=>w (false::t)) s (by simpa using h)
 | x::a,y::b,w,true::s,h=>by
  have ih:=xF a b (λt=>w (true::t)) s (by simpa using h);show x*wdg b (λt=>w (false::t)) s-wdg a (λt=>y*w (false::t)-wdg b (λt=>w (true::t)) t) s = -(y*wdg a (λt=>w (false::t)) s-wdg b (λt=>x*w (false::t)-wdg a (λt=>w (true::t)) t) s);rw [mB y a (λt=>w (false::t)) (wdg b λt=>w (true::t)),mB x b (λt=>w (false::t)) (wdg a λt=>w (true::t)),ih]
  grind
 | [],_::_,_,_,h=>by simp at h
 | _::_,[],_,_,h=>by simp at h
theorem vS:∀ (a:List Int) w s,(∀ t:List Bool,t.length=s.length->w t=0)->wdg a w s=0
 | [],_,_,_=>by simp only [wdg]
 | _::_,_,[],_=>by simp only [wdg]
 | x::a,w,false::s,h=>vS a _ s λt ht=>h _ (by simpa using ht)
 | x::a,w,true::s,h=>by
  simp only [wdg];rw [h (false::s) rfl,vS a _ s λt ht=>h _ (by simpa using ht)];grind
theorem cZ:∀ (a:List Int) w s,wdg a w s≠0->∃ t:List Bool,t.length=s.length/\w t≠0/\t.count true+1=s.count true
 | [],_,_,h=>absurd (by simp only [wdg]) h
 | _::_,_,[],h=>absurd (by simp only [wdg]) h
 | x::a,w,false::s,h=>by
  obtain ⟨t,h1,h2,h3⟩:=cZ a (λt=>w (false::t)) s h;exact ⟨false::t,by simp [h1],h2,by simpa using h3⟩
 | x::a,w,true::s,h=>by
  by_cases c:w (false::s)=0
  .obtain ⟨t,h1,h2,h3⟩:=cZ a (λt=>w (true::t)) s λe=>h (by simp only [wdg];rw [c,e];grind);exact ⟨true::t,by simp [h1],h2,by simpa using h3⟩
  .exact ⟨false::s,rfl,c,by simp⟩
def xvL:List Bool->(List Bool->Int)->List Int
 | [],_=>[]
 | false::s,w=>0::xvL s λt=>w (false::t)
 | true::s,w=>w (false::s)::(xvL s λt=>w (true::t)).map λx => -x
theorem cY:∀ s w,(xvL s w).length=s.length
 | [],_=>rfl
 | false::s,_=>congrArg (· + 1) (cY s _)
 | true::s,_=>congrArg (· + 1) (by rw [Zai];exact cY s _)
theorem zk1:∀ a b:List Int,dtI a (b.map λx => -x) = -dtI a b
 | [],_=>by simp only [dtI];rfl
 | _::_,[]=>rfl
 | x::a,y::b=>by rw [Zea,dtI,dtI,zk1 a b];grind
theorem zk2:∀ b:List Int,sqV (b.map λx => -x)=sqV b
 | []=>rfl
 | y::b=>by rw [Zea,sqV,sqV,zk2 b];grind
theorem ze1:∀ (a:List Int) w s,s.length=a.length->wdg a w s=dtI a (xvL s w)
 | [],_,[],_=>rfl
 | x::a,w,false::s,h=>by
  show wdg a (λt=>w (false::t)) s=x*0+dtI a _;rw [ze1 a _ s (by simpa using h)];grind
 | x::a,w,true::s,h=>by
  show x*w (false::s)-wdg a (λt=>w (true::t)) s=x*w (false::s)+dtI a _;rw [ze1 a _ s (by simpa using h),zk1];grind
 | [],_,_::_,h=>by simp at h
 | _::_,_,[],h=>by simp at h
theorem zrf:∀ s w,w s*w s<=ipf s.length w w
 | [],_=>Zgk _
 | false::s,w=>by
  have:=zrf s λt=>w (false::t);have:=wR s.length λt=>w (true::t);show _<=ipf s.length (λt=>w (false::t)) (λt=>w (false::t))+ipf s.length (λt=>w (true::t)) (λt=>w (true::t));omega
 | true::s,w=>by
  have:=zrf s λt=>w (true::t);have:=wR s.length λt=>w (false::t);show _<=ipf s.length (λt=>w (false::t)) (λt=>w (false::t))+ipf s.length (λt=>w (true::t)) (λt=>w (true::t));omega
theorem zk3:∀ s w,sqV (xvL s w)<=ipf s.length w w
 | [],w=>wR 0 w
 | false::s,w=>by
  have:=zk3 s λt=>w (false::t);have:=wR s.length λt=>w (true::t);show 0*0+sqV (xvL s λt=>w (false::t))<=ipf s.length (λt=>w (false::t)) (λt=>w (false::t))+ipf s.length (λt=>w (true::t)) (λt=>w (true::t));omega
 | true::s,w=>by
  have:=zk3 s λt=>w (true::t);have:=zrf s λt=>w (false::t);show w (false::s)*w (false::s)+sqV ((xvL s λt=>w (true::t)).map λx => -x)<=ipf s.length (λt=>w (false::t)) (λt=>w (false::t))+ipf s.length (λt=>w (true::t)) (λt=>w (true::t));rw [zk2];omega
theorem zrg:∀ (s:List Bool) w,w s≠0->s.count true<s.length->∃ S:List Bool,S.length=s.length/\∃ j,(xvL S w).getD j 0≠0
 | [],_,_,h=>by simp at h
 | false::s,w,h,_=>⟨true::s,rfl,0,h⟩
 | true::s,w,h,hc=>by
  obtain ⟨S,h1,j,hj⟩:=zrg s (λt=>w (true::t)) h (by simpa using hc);refine ⟨true::S,by simp [h1],j+1,?_⟩;show ((xvL S λt=>w (true::t)).map λx => -x).getD j 0≠0;rw [Zaa] at hj ⊢;rw [List.getElem?_map];cases e:(xvL S λt=>w (true::t))[j]? with
  | none=>rw [e] at hj;exact absurd rfl hj
  | some y=>rw [e] at hj;show -y≠0;have:y≠0:=hj;omega
def oneF:List Bool->Int
 | []=>1
 | false::s=>oneF s
 | true::_=>0
theorem zk4:∀ n,ipf n oneF oneF=1
 | 0=>rfl
 | n+1=>by
  show ipf n oneF oneF+ipf n (λ_=>0) (λ_=>0)=1;rw [zk4 n,zcb];rfl
theorem zk5:∀ n,oneF (List.replicate n false)≠0
 | 0=>by decide
 | n+1=>by rw [Zfd];exact zk5 n
theorem zk6:∀ s,oneF s≠0->s.count true<=0
 | [],_=>by simp
 | false::s,h=>by simpa using zk6 s h
 | true::_,h=>absurd rfl h
theorem zjn {n:Nat} {B:Int} (hB:1<=B):∀ L:List (List Int),(∀ a∈L,a.length=n/\sqV a<=B)->∃ w:List Bool->Int,(∃ s:List Bool,s.length=n/\w s≠0)/\(∀ s:List Bool,s.length=n->w s≠0->s.count true<=L.length)/\ipf n w w<=B ^ L.length/\∀ a∈L,∀ s:List Bool,s.length=n->wdg a w s=0
 | [],_=>⟨oneF,⟨_,Zba,zk5 n⟩,λs _ h=>zk6 s h,by rw [zk4];simp,by simp⟩
 | a::L,h=>by
  obtain ⟨w,⟨s0,hs0,hw0⟩,hd,hi,hk⟩:=zjn hB L λb hb=>h b (Zao _ hb);obtain ⟨hal,haB⟩:=h a (Zaj ..);have hp:(0:Int)<=B ^ L.length:=Zfo (by omega);have hpow:B ^ (L.length+1)=B*B ^ L.length:=by rw [Int.pow_succ,Int.mul_comm]
  by_cases c:∀ s:List Bool,s.length=n->wdg a w s=0
  .refine ⟨w,⟨s0,hs0,hw0⟩,λs hs e=>Zgv (hd s hs e),?_,λb hb => ?_⟩
   .rw [Zbd,hpow];have:=Zcu hB hp;omega
   .rcases List.mem_cons.1 hb with rfl | hb
    .exact c
    .exact hk b hb
  .obtain ⟨s1,h1,hw1⟩:∃ s:List Bool,s.length=n/\wdg a w s≠0:=by
    refine Classical.byContradiction λe=>c λs hs=>Classical.byContradiction λq=>e ⟨s,hs,q⟩
   refine ⟨wdg a w,⟨s1,h1,hw1⟩,λs hs e => ?_,?_,λb hb s hs => ?_⟩
   .obtain ⟨t,t1,t2,t3⟩:=cZ a w s e;have:=hd t (by rw [t1];exact hs) t2;rw [Zbd];omega
   .rw [Zbd,hpow];have e1:=zre a w;rw [hal] at e1;have e2:=Zcu haB (wR n w);have e3:=Zdr hi (show (0:Int)<=B by omega);omega
   .rcases List.mem_cons.1 hb with rfl | hb
    .have:=xF b b w s rfl;omega
    .rw [xF b a w s (by rw [(h b (Zao _ hb)).1,hal]),vS a _ s λt ht=>hk b hb t (by rw [ht];exact hs)]
     rfl
theorem hada {n:Nat} {B:Int} (hB:1<=B) (L:List (List Int)) (h:∀ a∈L,a.length=n/\sqV a<=B) (hn:L.length<n):∃ x:List Int,x.length=n/\(∃ j,x.getD j 0≠0)/\sqV x<=B ^ L.length/\∀ a∈L,dtI a x=0:=by
 obtain ⟨w,⟨s,hs,hw⟩,hd,hi,hk⟩:=zjn hB L h;obtain ⟨S,hS,hj⟩:=zrg s w hw (by have:=hd s hs hw;omega);have hSn:S.length=n:=by rw [hS,hs]
 refine ⟨xvL S w,by rw [cY];exact hSn,hj,?_,λa ha => ?_⟩
 .have:=zk3 S w;rw [hSn] at this;omega
 .rw [<- ze1 a w S (by rw [hSn,(h a ha).1])];exact hk a ha S hSn
def sI:Nat->(Nat->Int)->Int
 | 0,_=>0
 | k+1,F=>sI k F+F k
theorem zhp {F G:Nat->Int}:∀ {k:Nat},(∀ j,j<k->F j=G j)->sI k F=sI k G
 | 0,_=>rfl
 | k+1,h=>by rw [sI,sI,zhp (k:=k) λj hj=>h j (by omega),h k (by omega)]
theorem zcd (x y:Int):∀ a b:List Int,a.length=b.length->dtI (a++[x]) (b++[y])=dtI a b+x*y
 | [],[],_=>by simp only [Zbo,dtI];omega
 | u::a,v::b,h=>by
  rw [Zbx,Zbx,dtI,dtI,zcd x y a b (by simpa using h)];omega
 | [],_::_,h=>by simp at h
 | _::_,[],h=>by simp at h
theorem m6 (f g:Nat->Int):∀ k,dtI ((List.range k).map f) ((List.range k).map g)=sI k λj=>f j*g j
 | 0=>rfl
 | k+1=>by
  rw [List.range_succ,Zbp,Zbp];show dtI (_++[f k]) (_++[g k])=_;rw [zcd _ _ _ _ (by simp),m6 f g k,sI]
theorem zrh:∀ l:List Int,(∀ x∈l,x = -1\/x=0\/x=1)->sqV l<=(l.length:Int)
 | [],_=>Zgk _
 | x::l,h=>by
  have:=zrh l λy hy=>h y (Zao _ hy);rw [sqV,Zbd];rcases h x (Zaj ..) with rfl | rfl | rfl <;> omega
theorem zk7:∀ l:List Int,0<=sqV l
 | []=>Zgk _
 | x::l=>Int.add_nonneg (zk0 x) (zk7 l)
theorem ze2:∀ (l:List Int) (j:Nat),l.getD j 0*l.getD j 0<=sqV l
 | [],_=>Zgk _
 | x::l,0=>by
  have:=zk7 l;show x*x<=x*x+sqV l;omega
 | x::l,j+1=>by
  have:=ze2 l j;have:=zk0 x;show l.getD j 0*l.getD j 0<=x*x+sqV l;omega
def HB:Nat:=861979
theorem ztz (r:Nat) (hr:r<=11) (a:Nat->Nat->Int) (ha:∀ i j,a i j = -1\/a i j=0\/a i j=1):∃ x:Nat->Int,(∃ j,j<=r/\x j≠0)/\(∀ j,(x j).natAbs<=HB)/\∀ i,i<r->sI (r+1) (λj=>a i j*x j)=0:=by
 obtain ⟨x,hx,⟨j,hj⟩,hs,hk⟩:=hada (n:=r+1) (B:=((r+1:Nat):Int)) (by omega) ((List.range r).map λi=>(List.range (r+1)).map (a i)) (λb hb=>by
  obtain ⟨i,_,rfl⟩:=List.mem_map.1 hb;refine ⟨by simp,?_⟩;have:=zrh ((List.range (r+1)).map (a i)) λy hy=>by
   obtain ⟨j,_,rfl⟩:=List.mem_map.1 hy;exact ha i j
  simpa using this) (by simp)
 have hxe:x=(List.range (r+1)).map λj=>x.getD j 0:=by
  refine Zcw (by simp [hx]) λi h1 h2 => ?_;simp [Zaa,h1]
 refine ⟨λj=>x.getD j 0,⟨j,?_,hj⟩,λj => ?_,λi hi => ?_⟩
 .refine Classical.byContradiction λc=>hj ?_;rw [Zaa,List.getElem?_eq_none (by omega)];rfl
 .have h1:=ze2 x j;rw [Zai,Zdd] at hs;have h2:(r+1) ^ r<=12 ^ 11:=Zay (Nat.pow_le_pow_left (show r+1<=12 by omega) r) (Zdh (by decide) hr);have h3:(((r+1:Nat):Int)) ^ r=(((r+1) ^ r:Nat):Int):=by simp
  rw [h3] at hs;have h4:(12:Nat) ^ 11=743008370688:=by decide
  rw [h4] at h2;show (x.getD j 0).natAbs<=861979;refine Zeh λc => ?_;have h5:=Zbk (show 861980<=(x.getD j 0).natAbs from c) (show 861980<=(x.getD j 0).natAbs from c);have h6:=Zgg (a:=x.getD j 0);omega
 .have:=hk _ (List.mem_map.2 ⟨i,List.mem_range.2 hi,rfl⟩);rw [hxe,m6] at this;exact this
def sR:Nat->(Nat->Rat)->Rat
 | 0,_=>0
 | k+1,F=>sR k F+F k
theorem yW {F G:Nat->Rat}:∀ {k:Nat},(∀ j,j<k->F j=G j)->sR k F=sR k G
 | 0,_=>rfl
 | k+1,h=>by rw [sR,sR,yW (k:=k) λj hj=>h j (by omega),h k (by omega)]
theorem vC (F:Nat->Int):∀ k,sR k (λj=>(F j:Rat))=((sI k F:Int):Rat)
 | 0=>rfl
 | k+1=>by rw [sR,sI,vC F k,Zfh]
theorem ze3 (x:Nat->Rat) (i:Nat):∀ k,sR k (λb=>(if i=b then 1 else 0)*x b)=if i<k then x i else 0
 | 0=>by rw [if_neg (by omega)];rfl
 | k+1=>by
  rw [sR,ze3 x i k];by_cases e:i=k
  .subst e;rw [if_neg (by omega),if_pos rfl,if_pos (by omega)];grind
  .rw [if_neg e];by_cases c:i<k
   .rw [if_pos c,if_pos (by omega)];grind
   .rw [if_neg c,if_neg (by omega)];grind
theorem zhq (y:Rat):∀ (o f:List Rat) (c:Nat),o.length=f.length->c<f.length->dot o (f.set c (at' f c+y))=dot o f+at' o c*y
 | [],[],c,_,h=>by simp at h
 | a::o,b::f,0,_,_=>by
  show dot (a::o) ((b+y)::f)=dot (a::o) (b::f)+a*y;rw [dot,dot];grind
 | a::o,b::f,c+1,h,hc=>by
  have ih:=zhq y o f c (by simpa using h) (by simpa using hc);show dot (a::o) (b::f.set c (at' f c+y))=dot (a::o) (b::f)+at' o c*y;rw [dot,dot,ih];grind
 | [],_::_,_,h,_=>by simp at h
 | _::_,[],_,h,_=>by simp at h
theorem zce:∀ (o:List Rat) (n:Nat),dot o (List.replicate n 0)=0
 | [],_=>by cases ‹Nat› <;> rfl
 | a::o,0=>rfl
 | a::o,n+1=>by rw [Zfd,dot,zce o n];grind
def plF (n:Nat) (c:Nat->Nat) (x:Nat->Rat):Nat->List Rat
 | 0=>List.replicate n 0
 | k+1=>(plF n c x k).set (c k) (at' (plF n c x k) (c k)+x k)
theorem uK {n:Nat} {c:Nat->Nat} {x:Nat->Rat}:∀ k,(plF n c x k).length=n
 | 0=>Zba
 | k+1=>by rw [plF,Zan];exact uK k
theorem kI {n:Nat} {c:Nat->Nat} {x:Nat->Rat} {o:List Rat} (ho:o.length=n):∀ k,(∀ i,i<k->c i<n)->dot o (plF n c x k)=sR k λi=>at' o (c i)*x i
 | 0,_=>zce ..
 | k+1,h=>by rw [plF,zhq _ _ _ _ (by rw [uK];exact ho) (by rw [uK];exact h k (by omega)),kI ho k λi hi=>h i (by omega),sR]
structure Sv (n:Nat) (O Q:List (List Rat)) (ps:List Nat):Prop where
 len:ps.length=Q.length
 olen:O.length=Q.length
 row:∀ q∈Q,q.length=n
 orow:∀ o∈O,o.length=n
 osg:∀ o∈O,∀ j,Sg (at' o j)
 rng:∀ p∈ps,p<n
 one:∀ a b,a<Q.length->b<Q.length->at' (Q.getD a []) (ps.getD b 0)=if a=b then 1 else 0
 ker:∀ f:List Rat,f.length=n->(∀ o∈O,dot o f=0)->∀ q∈Q,dot q f=0
 tri:∀ a,a<Q.length->∀ b,ps.getD a 0<b->at' (Q.getD a []) b=0
theorem Sv.nil (n:Nat):Sv n [] [] []:=⟨rfl,rfl,by simp,by simp,by simp,by simp,λa b h=>by simp at h,by simp,λa h=>by simp at h⟩
def sgI (q:Rat):Int:=if q = -1 then -1 else if q=1 then 1 else 0
theorem Sg.int {q:Rat} (h:Sg q):(sgI q:Rat)=q:=by
 unfold sgI;rcases h with rfl | rfl | rfl
 .rw [if_pos rfl];rfl
 .rw [if_neg (by decide),if_neg (by decide)];rfl
 .rw [if_neg (by decide),if_pos rfl];rfl
theorem ze4 (q:Rat):sgI q = -1\/sgI q=0\/sgI q=1:=by
 unfold sgI;split
 .exact .inl rfl
 .split
  .exact .inr (.inr rfl)
  .exact .inr (.inl rfl)
theorem Sv.col {n:Nat} {O Q:List (List Rat)} {ps:List Nat} (h:Sv n O Q ps) (hQ:Q.length<=11) (j:Nat):∃ t,1<=t/\t<=HB/\∀ q∈Q,Dn t (HB) (at' q j):=by
 rcases Zdb j n with hj | hj
 case inr =>
  refine ⟨1,Zaf _,(by decide:1<=HB),λq hq => ?_⟩;rw [jH (by rw [h.row q hq];exact hj)];exact Dn.zero _ _
 obtain ⟨c,hc⟩:∃ c:Nat->Nat,c=λi=>if i<Q.length then ps.getD i 0 else j:=⟨_,rfl⟩
 obtain ⟨x,⟨b,hb,hb0⟩,hx,hz⟩:=ztz Q.length hQ (λi k=>sgI (at' (O.getD i []) (c k))) λi k=>ze4 _;have hcn:∀ i,i<Q.length+1->c i<n:=λi _=>by
  rw [hc];show (if i<Q.length then ps.getD i 0 else j)<n;by_cases q:i<Q.length
  .rw [if_pos q];exact h.rng _ (zY (by rw [h.len];exact q))
  .rw [if_neg q];exact hj
 have hk:=h.ker (plF n c (λi=>(x i:Rat)) (Q.length+1)) (uK _) λo ho=>by
  obtain ⟨i,hi⟩:=List.mem_iff_getElem?.1 ho;have hil:=(List.getElem?_eq_some_iff.1 hi).1;have hio:O.getD i []=o:=by rw [Zaa,hi];rfl
  rw [kI (h.orow o ho) _ hcn];have:=hz i (by rw [<- h.olen];exact hil);rw [show (0:Rat)=((0:Int):Rat) from rfl,<- this,<- vC];refine yW λk _ => ?_;rw [hio,Zcl,(h.osg o ho _).int]
 have hrow:∀ i,i<Q.length->(x i:Rat)+at' (Q.getD i []) j*(x Q.length:Rat)=0:=λi hi=>by
  have hm:=zY (l:=Q) (d:=[]) hi;have e:=hk _ hm;rw [kI (h.row _ hm) _ hcn,sR] at e;have e2:sR Q.length (λk=>at' (Q.getD i []) (c k)*(x k:Rat))=(x i:Rat):=by
   rw [yW (G:=λb=>(if i=b then 1 else 0)*(x b:Rat)) λk hk => ?_,ze3 (λb=>(x b:Rat)),if_pos hi];have:c k=ps.getD k 0:=by rw [hc];exact if_pos hk
   rw [this,h.one i k hi hk]
  rw [e2,show c Q.length=j by rw [hc];exact if_neg (Zcf _)] at e;exact e
 have hxr:x Q.length≠0:=λe=>by
  rcases Zdb b Q.length with q | q
  .have:=hrow b q;rw [e,show ((0:Int):Rat)=0 from rfl,Zbg,Zeu] at this;exact wH hb0 this
  .obtain rfl:b=Q.length:=by omega
   exact hb0 e
 refine ⟨(x Q.length).natAbs,by omega,hx _,λq hq => ?_⟩;obtain ⟨i,hi⟩:=List.mem_iff_getElem?.1 hq;have hil:=(List.getElem?_eq_some_iff.1 hi).1;have hqi:Q.getD i []=q:=by rw [Zaa,hi];rfl
 have e:=hrow i hil;rw [hqi] at e;by_cases s:0<x Q.length
 .refine ⟨-x i,?_,by rw [Zeg];exact hx i⟩;rw [show (((x Q.length).natAbs:Nat):Int)=x Q.length by omega,Zct];grind
 .refine ⟨x i,?_,hx i⟩;rw [show (((x Q.length).natAbs:Nat):Int) = -x Q.length by omega,Zct];grind
theorem Sv.den {n:Nat} {O Q:List (List Rat)} {ps:List Nat} (h:Sv n O Q ps) (hQ:Q.length<=11):∃ t:Nat->Nat,(∀ j,1<=t j/\t j<=HB)/\∀ q∈Q,∀ j,Dn (t j) (HB) (at' q j) :=
 ⟨λj=>Classical.choose (h.col hQ j),λj=>⟨(Classical.choose_spec (h.col hQ j)).1,(Classical.choose_spec (h.col hQ j)).2.1⟩,λq hq j=>(Classical.choose_spec (h.col hQ j)).2.2 q hq⟩
structure Rvq (n:Nat) (t:Nat->Nat) (M:Nat) (Q:List (List Rat)) (ps:List Nat) (r0:List Rat) (k:Nat) (r:List Rat):Prop where
 eq:r=oC ((aC Q ps).take k) r0
 len:r.length=n
 den:∀ j,Dn (t j) (M+k*M) (at' r j)
 late:∀ b,k<=b->b<Q.length->at' r (ps.getD b 0)=at' r0 (ps.getD b 0)
 done:∀ b,b<k->b<Q.length->at' r (ps.getD b 0)=0
theorem Rvq.zero {n M:Nat} {t:Nat->Nat} {Q:List (List Rat)} {ps:List Nat} {r0:List Rat} (ht:∀ j,t j<=M) (hl:r0.length=n) (hs:∀ j,Sg (at' r0 j)):Rvq n t M Q ps r0 0 r0 :=
 ⟨rfl,hl,λj=>(hs j).dn (by have:=ht j;omega),λb _ _=>rfl,λb h=>by omega⟩
theorem Rvq.next {n M k:Nat} {t:Nat->Nat} {O Q:List (List Rat)} {ps:List Nat} {r0 r:List Rat} (hS:Sv n O Q ps) (hd:∀ q∈Q,∀ j,Dn (t j) M (at' q j)) (hs:∀ j,Sg (at' r0 j)) (h:Rvq n t M Q ps r0 k r) (hk:k<Q.length):Rvq n t M Q ps r0 (k+1) (jD (at' r (ps.getD k 0)) r (Q.getD k [])):=by
 have hq:=zY (d:=[]) hk;have hql:=hS.row _ hq;have hll:r.length=(Q.getD k []).length:=by rw [h.len,hql]
 have hb:Sg (at' r (ps.getD k 0)):=by rw [h.late k (Zaf _) hk];exact hs _
 refine ⟨by rw [kZ hS.len hk,kU,<- h.eq],by rw [jA hll];exact h.len,λj => ?_,λb h1 h2 => ?_,λb h1 h2 => ?_⟩
 .rw [yY hll];have:=(h.den j).sub (hb.mul (hd _ hq j));exact this.mono (by rw [Zbf];omega)
 .rw [yY hll,hS.one k b hk h2,if_neg (by omega),Zbg,h.late b (by omega) h2];grind
 .rw [yY hll,hS.one k b hk h2];by_cases e:b=k
  .subst e;rw [if_pos rfl,Rat.mul_one];grind
  .rw [if_neg (by omega),Zbg,h.done b (by omega) h2];grind
theorem zt0 {t N:Nat} {v:Rat} (ht:1<=t) (hv:v≠0) (h:Dn t N v):∃ z:Nat,1<=z/\z<=N/\Dn z t v⁻¹/\∀ {s R:Nat} {x:Rat},Dn s R x->Dn (s*z) (R*t) (x*v⁻¹):=by
 obtain ⟨z,h1,h2,h3,_⟩:=zjl ht hv h;exact ⟨z,h1,h2,h3,λhx=>hx.mul h3⟩
structure Nv (n:Nat) (Q:List (List Rat)) (ps:List Nat) (p:Nat) (r:List Rat):Prop where
 len:r.length=n
 one:at' r p=1
 out:∀ b,b<Q.length->at' r (ps.getD b 0)=0
 p1:p<n
 tri:∀ b,p<b->at' r b=0
theorem Sv.next {n p:Nat} {O Q:List (List Rat)} {ps:List Nat} {r r0:List Rat} (hS:Sv n O Q ps) (h:Nv n Q ps p r) (hl0:r0.length=n) (hs0:∀ j,Sg (at' r0 j)) (hk:∀ f:List Rat,f.length=n->(∀ q∈Q,dot q f=0)->dot r0 f=0->dot r f=0):Sv n (O++[r0]) (uV Q p r++[r]) (ps++[p]):=by
 have hnl:(uV Q p r).length=Q.length:=by unfold uV;rw [Zai]
 refine ⟨by rw [Zae,Zae,hnl,hS.len];rfl,by rw [Zae,Zae,hnl,hS.olen];rfl,λq hq => ?_,λo ho => ?_,λo ho => ?_,λx hx => ?_,λa b ha hb => ?_,λf hf ho q hq => ?_,λa ha b hb => ?_⟩
 .rcases List.mem_append.1 hq with hq | hq
  .obtain ⟨o,ho,rfl⟩:=List.mem_map.1 hq;rw [jA (by rw [hS.row o ho,h.len])];exact hS.row o ho
  .obtain rfl:=List.mem_singleton.1 hq;exact h.len
 .rcases List.mem_append.1 ho with ho | ho
  .exact hS.orow o ho
  .obtain rfl:=List.mem_singleton.1 ho;exact hl0
 .rcases List.mem_append.1 ho with ho | ho
  .exact hS.osg o ho
  .obtain rfl:=List.mem_singleton.1 ho;exact hs0
 .rcases List.mem_append.1 hx with hx | hx
  .exact hS.rng x hx
  .obtain rfl:=List.mem_singleton.1 hx;exact h.p1
 .rw [Zae,hnl,Zbh] at ha hb;have eb:(ps++[p]).getD b 0=if b<Q.length then ps.getD b 0 else p:=by
   by_cases c:b<Q.length
   .rw [if_pos c,Zaa,List.getElem?_append_left (by rw [hS.len];exact c),<- Zaa]
   .rw [if_neg c,Zaa,List.getElem?_append_right (by rw [hS.len];omega),hS.len,show b-Q.length=0 by omega];rfl
  have ea:(uV Q p r++[r]).getD a []=if a<Q.length then jD (at' (Q.getD a []) p) (Q.getD a []) r else r:=by
   by_cases c:a<Q.length
   .rw [if_pos c,Zaa,List.getElem?_append_left (by rw [hnl];exact c),uV,List.getElem?_map,jZ (d:=[]) c];rfl
   .rw [if_neg c,Zaa,List.getElem?_append_right (by rw [hnl];omega),hnl,show a-Q.length=0 by omega];rfl
  rw [ea,eb];by_cases c1:a<Q.length
  .have hl:(Q.getD a []).length=r.length:=by rw [hS.row _ (zY c1),h.len]
   rw [if_pos c1,yY hl];by_cases c2:b<Q.length
   .rw [if_pos c2,h.out b c2,hS.one a b c1 c2,Zbg];grind
   .rw [if_neg c2,h.one,if_neg (by omega)];grind
  .rw [if_neg c1];by_cases c2:b<Q.length
   .rw [if_pos c2,h.out b c2,if_neg (by omega)]
   .rw [if_neg c2,h.one,if_pos (by omega)]
 .have hQ:=hS.ker f hf λo h1=>ho o (Zdf _ h1);have hr:=hk f hf hQ (ho r0 (by simp));rcases List.mem_append.1 hq with hq | hq
  .obtain ⟨o,h1,rfl⟩:=List.mem_map.1 hq;rw [j3 _ _ _ _ (by rw [hS.row o h1,h.len]),hQ o h1,hr,Zbg];grind
  .obtain rfl:=List.mem_singleton.1 hq;exact hr
 .rw [Zae,hnl,Zbh] at ha;by_cases c1:a<Q.length
  .have eb:(ps++[p]).getD a 0=ps.getD a 0:=by
    rw [Zaa,List.getElem?_append_left (by rw [hS.len];exact c1),<- Zaa]
   have ea:(uV Q p r++[r]).getD a []=jD (at' (Q.getD a []) p) (Q.getD a []) r:=by
    rw [Zaa,List.getElem?_append_left (by rw [hnl];exact c1),uV,List.getElem?_map,jZ (d:=[]) c1];rfl
   rw [eb] at hb;have hl:(Q.getD a []).length=r.length:=by rw [hS.row _ (zY c1),h.len]
   rw [ea,yY hl,hS.tri a c1 b hb];by_cases c2:p<b
   .rw [h.tri b c2,Zbg];grind
   .rw [hS.tri a c1 p (by omega),Zbm];grind
  .obtain rfl:a=Q.length:=by omega
   have eb:(ps++[p]).getD Q.length 0=p:=by
    rw [Zaa,List.getElem?_append_right (by rw [hS.len];exact Zaf _),hS.len,Zcd];rfl
   have ea:(uV Q p r++[r]).getD Q.length []=r:=by
    rw [Zaa,List.getElem?_append_right (by rw [hnl];exact Zaf _),hnl,Zcd];rfl
   rw [eb] at hb;rw [ea];exact h.tri b hb
theorem sD {B:Nat}:bM Tryz.prog B Prop:=zbf mixed
variable {B:Nat}
theorem zjo {a b:List Int} (ha:a.length<=1000000000):Pure Tryz.prog B 49 [encI a,encI b] (· = .bool (decide (a=b))):=by
 intro p h nx K hK;refine zN zP sD (a.length+2) λhf => ?_;rw [F49.go];simp (disch:=omega) only [um,dz,rC,qx,fV,jq,rT,dm,fI,zW,zZ,zC,zD,yL,y4,jM,jF,yT,jB,jC,gE,jY,jR,jX,yA,yJ,yI,zH,decide_true,decide_false,Zap,Zal,jN];by_cases hl:a.length=b.length
 .simp only [hl,decide_true,Zap,zD];refine F49.L2 (λm z3 h' nx'=>∃ i:Nat,z3=I i/\m=a.length-i/\i<=a.length/\h'=h/\nx'=nx/\a.take i=b.take i) (m:=a.length) (by omega) ⟨0,rfl,by simp,by omega,rfl,rfl,by simp⟩ ?_;rintro m z2 z3 z5 z6 _ _ R ⟨i,rfl,rfl,hi,rfl,rfl,htk⟩ hR;simp (disch:=omega) only [um,dz,rC,qx,fV,jq,rT,dm,fI,zW,zZ,zC,zD,yL,y4,jM,jF,yT,jB,jC,gE,jY,jR,jX,yA,yJ,yI,zH,decide_true,decide_false,Zap,Zal,jN];by_cases hlt:i<a.length
  .have h1:(i:Int)<a.length:=by omega
   have hb:i<b.length:=by omega
   simp only [h1,decide_true,zC];rw [fO rfl hlt,ldL (aI (List.getElem?_eq_getElem hlt)),fO rfl hb,ldL (aI (List.getElem?_eq_getElem hb))];simp (disch:=omega) only [um,dz,rC,qx,fV,jq,rT,dm,fI,zW,zZ,zC,zD,yL,y4,jM,jF,yT,jB,jC,gE,jY,jR,jX,yA,yJ,yI,zH,decide_true,decide_false,Zap,Zal,jN];by_cases he:a[i]=b[i]
   .simp only [he,decide_true,Zap,zD];refine hR (a.length-(i+1)) _ _ _ _ _ _ (by omega) ⟨i+1,rfl,rfl,by omega,rfl,rfl,?_⟩;rw [Zar,Zar,htk,List.getElem?_eq_getElem hlt,List.getElem?_eq_getElem hb,he]
   .simp only [he,decide_false,Zal,zC];refine hK _ ?_ hf;rw [Zab];rintro rfl;exact he rfl
  .have h1:¬ (i:Int)<a.length:=by omega
   simp only [h1,decide_false,zD];rw [F49.k9];refine hK _ ?_ hf;rw [Zam (by omega),Zam (by omega)] at htk;rw [Zac htk]
 .have h1:¬ (a.length:Int)=b.length:=by omega
  simp only [h1,decide_false,Zal,zC];refine hK _ ?_ hf;rw [Zab];rintro rfl;exact hl rfl
end Go.Ev
namespace Go.Ev
open Go Go.Proofs
variable {B:Nat}
theorem mA (b:Bool) (e:Int):Pure Tryz.prog B 88 [.bool b,I e] (· = I (if b then e else 0)):=by
 intro p h nx K hK;refine zN zP sD 9 λhf => ?_;rw [F88.go];cases b <;> simp (disch:=omega) only [um,dz,rC,qx,fV,jq,rT,dm,fI,zW,zZ,zC,zD,yL,y4,jM,jF,yT,jB,jC,gE,jY,jR,jX,yA,yJ,yI,zH,decide_true,decide_false,Zap,Zal,jN] <;> exact hK _ rfl hf
def qF:List Int->Int
 | []=>0
 | e::l=>if e≠0 then e else qF l
theorem dG:∀ (l:List Int) (i:Nat),(∀ e∈l.take i,e=0)->qF l=qF (l.drop i)
 | l,0,_=>rfl
 | [],_+1,_=>rfl
 | e::l,i+1,h=>by
  have h0:e=0:=h e (by simp);rw [qF,if_neg (by simp [h0]),List.drop_succ_cons];exact dG l i λx hx=>h x (by simp [hx])
theorem zhr {l:List Int} (hl:l.length<=1000000):Pure Tryz.prog B 86 [encI l] (· = I (qF l)):=by
 intro p h nx K hK;refine zN zP sD 10000000 λhf => ?_;rw [F86.go];simp (disch:=omega) only [um,dz,rC,qx,fV,jq,rT,dm,fI,zW,zZ,zC,zD,yL,y4,jM,jF,yT,jB,jC,gE,jY,jR,jX,yA,yJ,yI,zH,decide_true,decide_false,Zap,Zal,jN];refine F86.L1 (λm z5 h' nx'=>∃ i:Nat,z5=I i/\l.length-i=m/\i<=l.length/\h'=h/\nx'=nx/\∀ e∈l.take i,e=0) (m:=l.length) (by omega) ⟨0,rfl,rfl,by omega,rfl,rfl,by simp⟩ ?_;rintro m z1 z2 z5 z6 z7 _ _ R ⟨i,rfl,rfl,hi,rfl,rfl,htk⟩ hR;simp (disch:=omega) only [um,dz,rC,qx,fV,jq,rT,dm,fI,zW,zZ,zC,zD,yL,y4,jM,jF,yT,jB,jC,gE,jY,jR,jX,yA,yJ,yI,zH,decide_true,decide_false,Zap,Zal,jN];by_cases hlt:i<l.length
 .simp only [show (i:Int)<(l.length:Int) by omega,decide_true,zC];have hx:l[i]? = some l[i]:=List.getElem?_eq_getElem hlt;rw [fO rfl hlt,ldL (aI hx)];simp (disch:=omega) only [um,dz,rC,qx,fV,jq,rT,dm,fI,zW,zZ,zC,zD,yL,y4,jM,jF,yT,jB,jC,gE,jY,jR,jX,yA,yJ,yI,zH,decide_true,decide_false,Zap,Zal,jN];have hd:l.drop i=l[i]::l.drop (i+1):=Zbj hlt;by_cases h0:l[i]=0
  .simp only [h0,decide_true,Zap,zD];refine hR _ _ _ _ _ _ _ _ (by omega) ⟨i+1,rfl,rfl,by omega,rfl,rfl,λe he => ?_⟩;rw [Zar,hx] at he;rcases List.mem_append.1 he with q | q
   .exact htk e q
   .simp at q;rw [q];exact h0
  .simp only [h0,decide_false,Zal,zC];refine hK _ ?_ hf;rw [dG l i htk,hd,qF,if_pos h0]
 .simp only [show ¬ (i:Int)<(l.length:Int) by omega,decide_false,zD];rw [F86.k8];refine hK _ ?_ hf;rw [dG l i htk,Zbs (by omega)];rfl
theorem zri {a b:List Int} (ha:a.length<=1000000000):Pure Tryz.prog B 177 [encI a,encI b] (· = .bool (decide (a=b))):=by
 intro p h nx K hK;refine zN zP sD (a.length+2) λhf => ?_;rw [xu.go];simp (disch:=omega) only [um,dz,rC,qx,fV,jq,rT,dm,fI,zW,zZ,zC,zD,yL,y4,jM,jF,yT,jB,jC,gE,jY,jR,jX,yA,yJ,yI,zH,decide_true,decide_false,Zap,Zal,jN];by_cases hl:a.length=b.length
 .simp only [hl,decide_true,Zap,zD];refine xu.L2 (λm z6 h' nx'=>∃ i:Nat,z6=I i/\a.length-i=m/\i<=a.length/\h'=h/\nx'=nx/\a.take i=b.take i) (m:=a.length) (by omega) ⟨0,rfl,by simp,by omega,rfl,rfl,by simp⟩ ?_;rintro m z2 z3 z6 z7 z8 _ _ R ⟨i,rfl,rfl,hi,rfl,rfl,htk⟩ hR;simp (disch:=omega) only [um,dz,rC,qx,fV,jq,rT,dm,fI,zW,zZ,zC,zD,yL,y4,jM,jF,yT,jB,jC,gE,jY,jR,jX,yA,yJ,yI,zH,decide_true,decide_false,Zap,Zal,jN];by_cases hlt:i<a.length
  .have hb:i<b.length:=by omega
   simp only [show (i:Int)<(b.length:Int) by omega,decide_true,zC];rw [fO rfl hlt,ldL (aI (List.getElem?_eq_getElem hlt)),fO rfl hb,ldL (aI (List.getElem?_eq_getElem hb))];simp (disch:=omega) only [um,dz,rC,qx,fV,jq,rT,dm,fI,zW,zZ,zC,zD,yL,y4,jM,jF,yT,jB,jC,gE,jY,jR,jX,yA,yJ,yI,zH,decide_true,decide_false,Zap,Zal,jN];by_cases he:a[i]=b[i]
   .simp only [he,decide_true,Zap,zD];refine hR (a.length-(i+1)) _ _ _ _ _ _ _ (by omega) ⟨i+1,rfl,rfl,by omega,rfl,rfl,?_⟩;rw [Zar,Zar,htk,List.getElem?_eq_getElem hlt,List.getElem?_eq_getElem hb,he]
   .simp only [he,decide_false,Zal,zC];refine hK _ ?_ hf;rw [Zab];rintro rfl;exact he rfl
  .simp only [show ¬ (i:Int)<(b.length:Int) by omega,decide_false,zD];rw [xu.k9];refine hK _ ?_ hf;rw [Zam (by omega),Zam (by omega)] at htk;rw [Zac htk]
 .have h1:¬ (a.length:Int)=b.length:=by omega
  simp only [h1,decide_false,Zal,zC];refine hK _ ?_ hf;rw [Zab];rintro rfl;exact hl rfl
theorem zhs {h0 h:T Blk} {nx:Pa} {L:List Ob} {k:Nat} {x p:Pa} {l:List Int} {prev:List (List Int)} {K:Kw Prop} (H:Hp h0 h nx L) (hk:L[k]? = some (.arr x [encI l])) (hp:prev.length<=1000000) (hw:∀ q∈prev,q.length<=1000000)
  (hK:K (.bool (decide (l∈prev))) h nx=.ok True):(CS Tryz.prog B).fn 175 p [uq prev,.fn 176 (.of 176) [.ptr x 0]] h nx K=.ok True:=by
 refine kC (p:=.of 175) (K:=K) (zN zP sD 9 λhf => ?_) λ_ _ _ _ q=>q;rw [aT.go];refine kC (p:=.of 245) (K:=λv1 h2 n3=>ze .geq .int v1 (I 0) λv4=>K v4 h2 n3) (zN zP sD 10000000 λhf => ?_) λ_ _ _ _ q=>q;rw [xq.go];simp (disch:=omega) only [um,dz,rC,qx,fV,jq,rT,dm,fI,zW,zZ,zC,zD,yL,y4,jM,jF,yT,jB,jC,gE,jY,jR,jX,yA,yJ,yI,zH,decide_true,decide_false,Zap,Zal,jN];refine xq.L1 (λm z5 h' nx'=>∃ i:Nat,z5=I i/\prev.length-i=m/\i<=prev.length/\h'=h/\nx'=nx/\l∉prev.take i) (m:=prev.length) (by omega) ⟨0,rfl,rfl,by omega,rfl,rfl,by simp⟩ ?_;rintro m z2 z3 z5 z6 z7 _ _ R ⟨i,rfl,rfl,hi,rfl,rfl,htk⟩ hR;simp (disch:=omega) only [um,dz,rC,qx,fV,jq,rT,dm,fI,zW,zZ,zC,zD,yL,y4,jM,jF,yT,jB,jC,gE,jY,jR,jX,yA,yJ,yI,zH,decide_true,decide_false,Zap,Zal,jN];by_cases hlt:i<prev.length
 .simp only [show (i:Int)<(prev.length:Int) by omega,decide_true,zC];have hx:prev[i]? = some prev[i]:=List.getElem?_eq_getElem hlt;rw [fO rfl hlt,ldL (getT hx),zbm];refine kC (p:=.of 176) (zN zP sD 9 λhf => ?_) λ_ _ _ _ q=>q;show zS tbl 9 _ (Pa.of 176) [encI prev[i],.ptr x 0] _ _ _=_;rw [aS.go,H.load (k:=k) (i:=0) hk rfl];refine zri (Zay (hw _ (Zau hlt)) (by omega)) _ _ _ _ ?_;rintro _ rfl _;by_cases he:prev[i]=l
  .simp only [he,decide_true,zC,fI,show (0:Int)<=(i:Int) by omega];rw [Zac (he ▸ Zau hlt)] at hK;exact hK
  .simp only [he,decide_false,zD];refine hR _ _ _ _ _ _ _ _ (by omega) ⟨i+1,rfl,rfl,by omega,rfl,rfl,λq => ?_⟩;rw [Zar,hx] at q;rcases List.mem_append.1 q with q | q
   .exact htk q
   .simp at q;exact he q.symm
 .simp only [show ¬ (i:Int)<(prev.length:Int) by omega,decide_false,zD];rw [xq.k8];rw [Zam (by omega)] at htk;rw [Zab htk] at hK;simp only [fI,show ¬ (0:Int) <= -1 by omega,decide_false];exact hK
def y6 (cells:Int):Option Int->List Int->Int
 | _,[]=>0
 | p,c::l=>if c<0\/cells<=c then 10 else if p.any (λq=>decide (c<=q)) then 11 else y6 cells (some c) l
def jO (cells:Int) (prev:List (List Int)) (l:List Int):Int:=if l=[] then 12 else if y6 cells none l≠0 then y6 cells none l else if l∈prev then 9 else 0
def uE (cells:Int):List (List Int)->List (List Int)->Int
 | _,[]=>0
 | prev,l::r=>if jO cells prev l≠0 then jO cells prev l else uE cells (prev++[l]) r
def jW (cells:Int) (lines:List (List Int)):Int:=if cells<1\/256<cells then 3 else if 128<lines.length then 5 else uE cells [] lines
def pv (l:List Int) (k:Nat):Option Int:=if k=0 then none else l[k-1]?
theorem mL {l:List Int} {k:Nat} (h:k<l.length):pv l (k+1)=some l[k]:=by simp [pv,h]
theorem zk8 {cells a b:Int} {lines:List (List Int)} (hb:b<=1000000):Pure Tryz.prog B 16 [.agg [I cells,uq lines],I a,I b] (· = .bool (decide ((lines.length:Int)<=b/\∀ l∈lines,(l.length:Int)<=a))):=by
 refine zT λh nx K H0 hK=>zN zP sD 10000000 λhf => ?_;rw [F16.go];refine H0.box (l:=[I cells,uq lines]) rfl λbx h1 nx1 H1 => ?_;rw [sFx,H1.load (k:=0) (i:=0+1) rfl rfl];simp (disch:=omega) only [um,dz,rC,qx,fV,jq,rT,dm,fI,zW,zZ,zC,zD,yL,y4,jM,jF,yT,jB,jC,gE,jY,jR,jX,yA,yJ,yI,zH,decide_true,decide_false,Zap,Zal,jN];have ret:∀ v:Bool,v=decide ((lines.length:Int)<=b/\∀ l∈lines,(l.length:Int)<=a)->K (.bool v) h1 nx1=.ok True:=λv hv=>by rw [hv];exact hK _ _ _ _ _ H1 (zR rfl) rfl
 by_cases hlen:b<(lines.length:Int)
 .simp only [hlen,decide_true,zC];refine ret _ ?_;rw [Zab];rintro ⟨q,_⟩;omega
 simp only [hlen,decide_false,zD];refine F16.L2 (λm z5 h' nx'=>∃ i:Nat,z5=I i/\lines.length-i=m/\i<=lines.length/\h'=h1/\nx'=nx1/\∀ l∈lines.take i,(l.length:Int)<=a) (m:=lines.length) (by omega) ⟨0,rfl,rfl,by omega,rfl,rfl,by simp⟩ ?_;rintro m z4 z5 z7 z8 _ _ R ⟨i,rfl,rfl,hi,rfl,rfl,htk⟩ hR;rw [sFx,H1.load (k:=0) (i:=0+1) rfl rfl];simp (disch:=omega) only [um,dz,rC,qx,fV,jq,rT,dm,fI,zW,zZ,zC,zD,yL,y4,jM,jF,yT,jB,jC,gE,jY,jR,jX,yA,yJ,yI,zH,decide_true,decide_false,Zap,Zal,jN];by_cases hlt:i<lines.length
 .simp only [show (i:Int)<(lines.length:Int) by omega,decide_true,zC];have hx:lines[i]? = some lines[i]:=List.getElem?_eq_getElem hlt;rw [sFx,H1.load (k:=0) (i:=0+1) rfl rfl,fO rfl hlt,ldL (getT hx)];simp (disch:=omega) only [um,dz,rC,qx,fV,jq,rT,dm,fI,zW,zZ,zC,zD,yL,y4,jM,jF,yT,jB,jC,gE,jY,jR,jX,yA,yJ,yI,zH,decide_true,decide_false,Zap,Zal,jN];by_cases hw:a<(lines[i].length:Int)
  .simp only [hw,decide_true,zC];refine ret _ ?_;rw [Zab];rintro ⟨_,q⟩;have:=q _ (Zau hlt);omega
  .simp only [hw,decide_false,zD];refine hR _ _ _ _ _ _ _ (by omega) ⟨i+1,rfl,rfl,by omega,rfl,rfl,λl hl => ?_⟩;rw [Zar,hx] at hl;rcases List.mem_append.1 hl with q | q
   .exact htk l q
   .simp at q;rw [q];omega
 .simp only [show ¬ (i:Int)<(lines.length:Int) by omega,decide_false,zD];rw [F16.k9];rw [Zam (by omega)] at htk;refine ret _ ?_;rw [Zac ⟨by omega,htk⟩]
theorem zm3 {prev:List (List Int)} {l:List Int} (hp:prev.length<=1000000) (hw:∀ q∈prev,q.length<=1000000000):Pure Tryz.prog B 90 [uq prev,encI l] (· = .bool (decide (l∈prev))):=by
 intro p h nx K hK;refine zN zP sD 10000000 λhf => ?_;rw [F90.go];refine F90.L1 (λm z3 h' nx'=>∃ i:Nat,z3=I i/\prev.length-i=m/\i<=prev.length/\h'=h/\nx'=nx/\l∉prev.take i) (m:=prev.length) (by omega) ⟨0,rfl,rfl,by omega,rfl,rfl,by simp⟩ ?_;rintro m z2 z3 z4 z5 _ _ R ⟨i,rfl,rfl,hi,rfl,rfl,htk⟩ hR;simp (disch:=omega) only [um,dz,rC,qx,fV,jq,rT,dm,fI,zW,zZ,zC,zD,yL,y4,jM,jF,yT,jB,jC,gE,jY,jR,jX,yA,yJ,yI,zH,decide_true,decide_false,Zap,Zal,jN];by_cases hlt:i<prev.length
 .simp only [show (i:Int)<(prev.length:Int) by omega,decide_true,zC];have hx:prev[i]? = some prev[i]:=List.getElem?_eq_getElem hlt;rw [fO rfl hlt,ldL (getT hx)];refine zjo (hw _ (Zau hlt)) _ _ _ _ ?_;rintro _ rfl _;by_cases he:prev[i]=l
  .simp only [he,decide_true,zC];refine hK _ ?_ hf;rw [Zac (he ▸ Zau hlt)]
  .simp only [he,decide_false,zD];refine hR _ _ _ _ _ _ _ (by omega) ⟨i+1,rfl,rfl,by omega,rfl,rfl,λq => ?_⟩;rw [Zar,hx] at q;rcases List.mem_append.1 q with q | q
   .exact htk q
   .simp at q;exact he q.symm
 .simp only [show ¬ (i:Int)<(prev.length:Int) by omega,decide_false,zD];rw [F90.k8];rw [Zam (by omega)] at htk;refine hK _ ?_ hf;rw [Zab htk]
theorem zk9 {n i:Nat} {l:List AV} {op:AV->OP} (hn:1<=n) (hi:i<=n):wV 1 (.lst 1 n l) none (some (I (i:Int))) none op=op (.lst 1 i (l.take i)):=by
 show (bif Nat.beq 1 1&&Nat.ble 1 n then (match bnd (some (I (i:Int))) n n with | none=>Out.no 17 | some h=>match bnd none h 0 with | none=>.no 17 | some q=>op (.lst 1 (h-q) ((l.drop (q*1)).take ((h-q)*1)))) else .no 17)=_;rw [Zag hn];have:bnd (some (I (i:Int))) n n=some i:=by
  show (bif Nat.ble i n then some i else none)=_;rw [Zag hi];rfl
 rw [this];show op (.lst 1 (i-0) ((l.drop (0*1)).take ((i-0)*1)))=_;simp
theorem mD {cells:Int} {lines:List (List Int)} (hw:∀ q∈lines,q.length<=1000000):Pure Tryz.prog B 19 [.agg [I cells,uq lines]] (· = I (jW cells lines)):=by
 refine zT λh nx K H0 hK=>zN zP sD 10000000 λhf => ?_;rw [F19.go];refine H0.box (l:=[I cells,uq lines]) rfl λbx h1 nx1 H1 => ?_;rw [sFx,H1.load (k:=0) (i:=0) rfl rfl];have ret:∀ v:Int,v=jW cells lines->K (I v) h1 nx1=.ok True:=λv hv=>by rw [hv];exact hK _ _ _ _ _ H1 (zR rfl) rfl
 by_cases hc:cells<1\/256<cells
 .have hv:(3:Int)=jW cells lines:=by rw [jW,if_pos hc]
  by_cases c1:cells<1
  .simp only [jq,c1,decide_true,jM,zW,zC];exact ret 3 hv
  .simp only [jq,c1,decide_false,y4];rw [sFx,H1.load (k:=0) (i:=0) rfl rfl];simp only [dm,show (256:Int)<cells by omega,decide_true,zZ,zC];exact ret 3 hv
 simp only [jq,show ¬ cells<1 by omega,decide_false,y4];rw [sFx,H1.load (k:=0) (i:=0) rfl rfl];simp only [dm,show ¬ (256:Int)<cells by omega,decide_false,zZ,zD];rw [sFx,H1.load (k:=0) (i:=0+1) rfl rfl];simp (disch:=omega) only [um,dz,rC,qx,fV,jq,rT,dm,fI,zW,zZ,zC,zD,yL,y4,jM,jF,yT,jB,jC,gE,jY,jR,jX,yA,yJ,yI,zH,decide_true,decide_false,Zap,Zal,jN];by_cases hm:128<lines.length
 .simp only [show (128:Int)<(lines.length:Int) by omega,decide_true,zC];exact ret 5 (by rw [jW,if_neg hc,if_pos hm])
 simp only [show ¬ (128:Int)<(lines.length:Int) by omega,decide_false,zD];have hs:jW cells lines=uE cells [] lines:=by rw [jW,if_neg hc,if_neg hm]
 refine F19.L3 (λm z3 h' nx'=>∃ i:Nat,z3=I i/\lines.length-i=m/\i<=lines.length/\h'=h1/\nx'=nx1/\jW cells lines=uE cells (lines.take i) (lines.drop i)) (m:=lines.length) (by omega) ⟨0,rfl,rfl,by omega,rfl,rfl,by simpa using hs⟩ ?_;rintro m z2 z3 z4 z5 z8 z9 z10 z11 z12 z13 h1 nx1 R ⟨i,rfl,rfl,hi,rfl,rfl,he⟩ hR;rw [sFx,H1.load (k:=0) (i:=0+1) rfl rfl];simp (disch:=omega) only [um,dz,rC,qx,fV,jq,rT,dm,fI,zW,zZ,zC,zD,yL,y4,jM,jF,yT,jB,jC,gE,jY,jR,jX,yA,yJ,yI,zH,decide_true,decide_false,Zap,Zal,jN];by_cases hlt:i<lines.length
 case neg =>
  simp only [show ¬ (i:Int)<(lines.length:Int) by omega,decide_false,zD];rw [F19.k20];exact ret 0 (by rw [he,Zbs (by omega)];rfl)
 simp only [show (i:Int)<(lines.length:Int) by omega,decide_true,zC];obtain ⟨l,hx⟩:∃ l,lines[i]? = some l:=⟨_,List.getElem?_eq_getElem hlt⟩;have hmem:=Zad hx;have hd:lines.drop i=l::lines.drop (i+1):=by
  rw [Zbj hlt];rw [List.getElem?_eq_getElem hlt] at hx;rw [Option.some.inj hx]
 have htake:lines.take (i+1)=lines.take i++[l]:=by rw [Zar,hx];rfl
 rw [sFx,H1.load (k:=0) (i:=0+1) rfl rfl,fO rfl hlt,ldL (getT hx)];simp (disch:=omega) only [um,dz,rC,qx,fV,jq,rT,dm,fI,zW,zZ,zC,zD,yL,y4,jM,jF,yT,jB,jC,gE,jY,jR,jX,yA,yJ,yI,zH,decide_true,decide_false,Zap,Zal,jN];have hlw:=hw l hmem;have zrj:jO cells (lines.take i) l≠0->jW cells lines=jO cells (lines.take i) l:=λh=>by rw [he,hd,uE,if_pos h]
 by_cases h0:l.length=0
 .simp only [show (l.length:Int)=0 by omega,decide_true,zC];have hl0:l=[]:=Zci h0;have e12:jO cells (lines.take i) l=12:=by rw [jO,if_pos hl0]
  exact ret 12 (by rw [zrj (by rw [e12];decide),e12])
 simp only [show ¬ (l.length:Int)=0 by omega,decide_false,zD];have hl0:l≠[]:=λq=>h0 (by rw [q];rfl);have hcell:y6 cells none l≠0->jW cells lines=y6 cells none l:=λh=>by
  have e:jO cells (lines.take i) l=y6 cells none l:=by rw [jO,if_neg hl0,if_pos h]
  rw [zrj (by rw [e];exact h),e]
 refine F19.L10 (λm z5 h' nx'=>∃ k:Nat,z5=I k/\l.length-k=m/\k<=l.length/\h'=h1/\nx'=nx1/\y6 cells none l=y6 cells (pv l k) (l.drop k)) (m:=l.length) (by omega) ⟨0,rfl,rfl,by omega,rfl,rfl,rfl⟩ ?_;rintro m y2 y5 y10 y11 y12 h1 nx1 R2 ⟨k,rfl,rfl,hk,rfl,rfl,hce⟩ hR2;simp (disch:=omega) only [um,dz,rC,qx,fV,jq,rT,dm,fI,zW,zZ,zC,zD,yL,y4,jM,jF,yT,jB,jC,gE,jY,jR,jX,yA,yJ,yI,zH,decide_true,decide_false,Zap,Zal,jN];by_cases hkt:k<l.length
 case neg =>
  simp only [show ¬ (k:Int)<(l.length:Int) by omega,decide_false,zD];have hz:y6 cells none l=0:=by rw [hce,Zbs (by omega)];rfl
  rw [F19.k18,sFx,H1.load (k:=0) (i:=0+1) rfl rfl,zk9 (by omega) (by omega)];have ep:AV.lst 1 i ((lines.map encI).take i)=uq (lines.take i):=by
   rw [<- Zfv];simp [uq,Zce (Nat.le_of_lt hlt)]
  rw [ep];refine zm3 (by rw [Zah];omega) (λq hq=>Zay (hw q (Zbt hq)) (by omega)) _ _ _ _ ?_;rintro _ rfl _;by_cases hin:l∈lines.take i
  .simp only [hin,decide_true,zC];have e9:jO cells (lines.take i) l=9:=by rw [jO,if_neg hl0,if_neg (by rw [hz];simp),if_pos hin]
   exact ret 9 (by rw [zrj (by rw [e9];decide),e9])
  .simp only [hin,decide_false,zD];rw [F19.k19,um (by omega)];have e0:jO cells (lines.take i) l=0:=by rw [jO,if_neg hl0,if_neg (by rw [hz];simp),if_neg hin]
   refine hR _ _ _ _ _ _ _ _ _ _ _ _ _ (by omega) ⟨i+1,rfl,rfl,by omega,rfl,rfl,?_⟩;rw [he,hd,uE,if_neg (by rw [e0];simp),htake]
 simp only [show (k:Int)<(l.length:Int) by omega,decide_true,zC];have hxk:l[k]? = some l[k]:=List.getElem?_eq_getElem hkt;have hdk:l.drop k=l[k]::l.drop (k+1):=Zbj hkt;rw [fO rfl hkt,ldL (aI hxk)];by_cases hbad:l[k]<0\/cells<=l[k]
 .have e10:y6 cells none l=10:=by rw [hce,hdk,y6,if_pos hbad]
  have fin:=ret 10 (by rw [hcell (by rw [e10];decide),e10]);by_cases hneg:l[k]<0
  .simp only [jq,hneg,decide_true,jM,zW,zC];exact fin
  .simp only [jq,hneg,decide_false,y4];rw [fO rfl hkt,ldL (aI hxk),sFx,H1.load (k:=0) (i:=0) rfl rfl];simp only [fI,show cells<=l[k] by omega,decide_true,zZ,zC];exact fin
 simp only [jq,show ¬ l[k]<0 by omega,decide_false,y4];rw [fO rfl hkt,ldL (aI hxk),sFx,H1.load (k:=0) (i:=0) rfl rfl];simp only [fI,show ¬ cells<=l[k] by omega,decide_false,zZ,zD];rw [F19.k16];have next:∀ z12,(pv l k).any (λq=>decide (l[k]<=q))=false->R2 (F19.fr (.agg [I cells,uq lines]) (.ptr bx 0) y2 (I i) (encI l) (I ((k:Int)+1)) (.bool false) (.bool false) (.bool true) (.bool false) (.bool true) (.bool false) z12 z13) h1 nx1=.ok True:=λz12 hany=>by
  refine hR2 _ _ _ _ _ _ _ _ (by omega) ⟨k+1,rfl,rfl,by omega,rfl,rfl,?_⟩;rw [hce,hdk,y6,if_neg hbad,hany];simp [mL hkt]
 by_cases hk0:0<k
 .obtain ⟨k,rfl⟩:∃ j,k=j+1:=⟨k-1,by omega⟩;have hk1:k<l.length:=by omega
  have hxk1:l[k]? = some l[k]:=List.getElem?_eq_getElem hk1;simp only [dm,show (0:Int)<((k+1:Nat):Int) by omega,decide_true,yL];rw [fO rfl hkt,ldL (aI hxk),dz (by omega),fO (i:=k) (by omega) hk1,ldL (aI hxk1)];rw [mL hk1] at next;by_cases hle:l[k+1]<=l[k]
  .simp only [rT,hle,decide_true,zW,zC];have e11:y6 cells none l=11:=by rw [hce,hdk,y6,if_neg hbad,mL hk1,if_pos (by simp [hle])]
   exact ret 11 (by rw [hcell (by rw [e11];decide),e11])
  .simp only [rT,hle,decide_false,zW,zD];rw [F19.k17,um (by omega)];exact next _ (by simp [hle])
 .obtain rfl:k=0:=by omega
  simp only [dm,show ¬ (0:Int)<((0:Nat):Int) by omega,decide_false,jF,zZ,zD];rw [F19.k17,um (by omega)];exact next _ (by simp [pv])
theorem zdj {P:Program} {f:Nat} {p id:Pa} {h0 h:T Blk} {nx:Pa} {L:List Ob} {k:Nat} {l:List Int} {K:Kw Prop} {Q:AV->Prop} (H:Hp h0 h nx L) (hk:L[k]? = some (.arr id (l.map I))) (hq:∀ B,Pure P B f [encI l] Q) (hpl:∀ v,Q v->Plain v)
  (hK:∀ v,Q v->K v h nx=.ok True):(CS P B).fn f p [.sl id 0 l.length (some l.length) 1] h nx K=.ok True :=
 zgn (.cons (qi.frz (H.own _ (Zad hk)) (T.rW _ id) (Zaf _) (by simp) λv hv=>by obtain ⟨x,_,rfl⟩:=List.mem_map.1 hv;rfl) .nil) (by
  have:=zma l;simp only [nns,fP.nn this,Bool.and_self]) hq hpl λv hv _=>hK v hv
theorem zrk {h:T Blk} {nx:Pa} {l:List Int} {g:Nat} {p q:Pa} {cap:List AV} {pr:Int->Bool} {K:Kw Prop} (hl:l.length<=1000000) (hcl:∀ x∈l,∀ K:Kw Prop,K (.bool (pr x)) h nx=.ok True->(CS Tryz.prog B).fn g q (I x::cap) h nx K=.ok True)
  (hK:K (.bool (l.any pr)) h nx=.ok True):(CS Tryz.prog B).fn 173 p [encI l,.fn g q cap] h nx K=.ok True:=by
 refine kC (p:=.of 173) (K:=K) (zN zP sD 9 λhf => ?_) λ_ _ _ _ q=>q;rw [aV.go];refine kC (p:=.of 184) (K:=λv1 h2 n3=>ze .geq .int v1 (I 0) λv4=>K v4 h2 n3) (zN zP sD 10000000 λhf => ?_) λ_ _ _ _ q=>q;rw [xw.go];simp (disch:=omega) only [um,dz,rC,qx,fV,jq,rT,dm,fI,zW,zZ,zC,zD,yL,y4,jM,jF,yT,jB,jC,gE,jY,jR,jX,yA,yJ,yI,zH,decide_true,decide_false,Zap,Zal,jN];refine xw.L1 (λm z5 h' nx'=>∃ i:Nat,z5=I i/\l.length-i=m/\i<=l.length/\h'=h/\nx'=nx/\(l.take i).any pr=false) (m:=l.length) (by omega) ⟨0,rfl,rfl,by omega,rfl,rfl,by simp⟩ ?_;rintro m z2 z3 z5 z6 z7 _ _ R ⟨i,rfl,rfl,hi,rfl,rfl,htk⟩ hR;simp (disch:=omega) only [um,dz,rC,qx,fV,jq,rT,dm,fI,zW,zZ,zC,zD,yL,y4,jM,jF,yT,jB,jC,gE,jY,jR,jX,yA,yJ,yI,zH,decide_true,decide_false,Zap,Zal,jN];by_cases hlt:i<l.length
 .simp only [show (i:Int)<(l.length:Int) by omega,decide_true,zC];have hx:l[i]? = some l[i]:=List.getElem?_eq_getElem hlt;rw [fO rfl hlt,ldL (aI hx),zbm];refine hcl _ (Zau hlt) _ ?_;cases he:pr l[i] with
  | true =>
   simp only [zC,fI,show (0:Int)<=(i:Int) by omega,decide_true];rw [List.any_eq_true.2 ⟨_,Zau hlt,he⟩] at hK;exact hK
  | false =>
   simp only [zD];refine hR _ _ _ _ _ _ _ _ (by omega) ⟨i+1,rfl,rfl,by omega,rfl,rfl,?_⟩;rw [Zar,hx,List.any_append,htk];simp [he]
 .simp only [show ¬ (i:Int)<(l.length:Int) by omega,decide_false,zD];rw [xw.k8];rw [Zam (by omega)] at htk;rw [htk] at hK;simp only [fI,show ¬ (0:Int) <= -1 by omega,decide_false];exact hK
theorem zt1 {a b:Int} {l:List Int} (hl:l.length<=1000000):Pure Tryz.prog B 87 [I a,I b,encI l] (· = I (if l.any (λx=>decide (x<a)||decide (b<x)) then 3 else 0)):=by
 refine zT λh nx K H0 hK=>zN zP sD 1000 λhf => ?_;rw [F87.go];refine H0.box (l:=[I a]) rfl λx1 h1 nx1 H1 => ?_;refine H1.box (l:=[I b]) rfl λx2 h2 nx2 H2 => ?_;refine zrk (pr:=λx=>decide (x<a)||decide (b<x)) hl (λx _ K hK => ?_) ?_
 .refine kC (p:=.of 174) (K:=K) (zN zP sD 9 λhf => ?_) λ_ _ _ _ q=>q;show zS tbl 9 _ (Pa.of 174) [I x,.ptr x1 0,.ptr x2 0] _ _ _=_;rw [aU.go,H2.load (k:=1) (i:=0) rfl rfl];by_cases c:x<a
  .simp only [jq,c,decide_true,jM,zW];simpa [c] using hK
  .simp only [jq,c,decide_false,y4];rw [H2.load (k:=0) (i:=0) rfl rfl];simp only [dm,zZ];simpa [c] using hK
 .refine mA _ _ _ _ _ _ ?_;rintro _ rfl _;exact hK _ _ _ _ _ H2 (zR rfl) rfl
theorem zt2 {cells:Int} {lines:List (List Int)} {i:Nat} {l:List Int} (hi:lines[i]? = some l) (hn:lines.length<=1000000) (hw:∀ q∈lines,q.length<=1000000):Pure Tryz.prog B 89 [.agg [I cells,uq lines],I i] (· = I (jO cells (lines.take i) l)):=by
 refine zT λh nx K H0 hK=>zN zP sD 10000000 λhf => ?_;have hlt:i<lines.length:=(List.getElem?_eq_some_iff.1 hi).1;have hlw:=hw l (Zad hi);rw [F89.go];refine H0.box (l:=[I cells,uq lines]) rfl λbx h1 nx1 H1 => ?_;rw [sFx,H1.load (k:=0) (i:=0+1) rfl rfl,fO rfl hlt,ldL (getT hi)];refine H1.alloc λx h2 nx2 H2 => ?_;refine H2.store (k:=0) rfl (by decide) rfl λh3 H3 => ?_;rw [H3.load (k:=0) (i:=0) rfl rfl];simp (disch:=omega) only [um,dz,rC,qx,fV,jq,rT,dm,fI,zW,zZ,zC,zD,yL,y4,jM,jF,yT,jB,jC,gE,jY,jR,jX,yA,yJ,yI,zH,decide_true,decide_false,Zap,Zal,jN];have ret:∀ (v:Int) h' nx' L,v=jO cells (lines.take i) l->Hp h h' nx' L->K (I v) h' nx'=.ok True:=λv h' nx' L hv H'=>by rw [hv];exact hK _ _ _ _ _ H' (zR rfl) rfl
 by_cases h0:l.length=0
 .simp only [show (l.length:Int)=0 by omega,decide_true,zC];have hl0:l=[]:=Zci h0;exact ret 12 _ _ _ (by rw [jO,if_pos hl0]) H3
 simp only [show ¬ (l.length:Int)=0 by omega,decide_false,zD];have hl0:l≠[]:=λq=>h0 (by rw [q];rfl);have hcell:y6 cells none l≠0->y6 cells none l=jO cells (lines.take i) l:=λh=>by rw [jO,if_neg hl0,if_pos h]
 rw [H3.load (k:=0) (i:=0) rfl rfl];simp (disch:=omega) only [um,dz,rC,qx,fV,jq,rT,dm,fI,zW,zZ,zC,zD,yL,y4,jM,jF,yT,jB,jC,gE,jY,jR,jX,yA,yJ,yI,zH,decide_true,decide_false,Zap,Zal,jN];refine F89.L2 (λm z11 h' nx'=>∃ k:Nat,z11=I k/\l.length-k=m/\k<=l.length/\Hp h h' nx' [.arr x [encI l],.arr bx [I cells,uq lines]]/\y6 cells none l=y6 cells (pv l k) (l.drop k)) (m:=l.length) (by omega) ⟨0,rfl,rfl,by omega,H3,rfl⟩ ?_;rintro m z3 z5 z6 z7 z11 z12 z13 h1 nx1 R ⟨k,rfl,rfl,hk,H1,hce⟩ hR;simp (disch:=omega) only [um,dz,rC,qx,fV,jq,rT,dm,fI,zW,zZ,zC,zD,yL,y4,jM,jF,yT,jB,jC,gE,jY,jR,jX,yA,yJ,yI,zH,decide_true,decide_false,Zap,Zal,jN];by_cases hkt:k<l.length
 case neg =>
  simp only [show ¬ (k:Int)<(l.length:Int) by omega,decide_false,zD];have hz:y6 cells none l=0:=by rw [hce,Zbs (by omega)];rfl
  rw [F89.k9,sFx,H1.load (k:=1) (i:=0+1) rfl rfl,zk9 (by omega) (by omega)];have ep:AV.lst 1 i ((lines.map encI).take i)=uq (lines.take i):=by
   rw [<- Zfv];simp [uq,Zce (Nat.le_of_lt hlt)]
  rw [ep];refine zhs H1 (k:=0) rfl (by rw [Zah];omega) (λq hq=>hw q (Zbt hq)) ?_;refine mA _ _ _ _ _ _ ?_;rintro _ rfl _;refine ret _ _ _ _ ?_ H1;have e9:jO cells (lines.take i) l=if l∈lines.take i then 9 else 0:=by rw [jO,if_neg hl0,if_neg (by rw [hz];simp)]
  rw [e9];by_cases hin:l∈lines.take i <;> simp [hin]
 simp only [show (k:Int)<(l.length:Int) by omega,decide_true,zC];have hxk:l[k]? = some l[k]:=List.getElem?_eq_getElem hkt;have hdk:l.drop k=l[k]::l.drop (k+1):=Zbj hkt;rw [fO rfl hkt,ldL (aI hxk)]
 have tail:∀ (b1 b2:Bool) (z:AV) (z':AV) (Z:AV->T Blk->Pa->Out Prop),b1=(decide (l[k]<0\/cells<=l[k]))->b2=(pv l k).any (λq=>decide (l[k]<=q)) ->
   (∀ (e:Int) h' nx',e=(if l[k]<0\/cells<=l[k] then 10 else if (pv l k).any (λq=>decide (l[k]<=q)) then 11 else 0)->Hp h h' nx' [.arr x [encI l],.arr bx [I cells,uq lines]]->Z (I e) h' nx'=.ok True) ->
   (CS Tryz.prog B).fn 88 (.of 88) [.bool b2,I 11] h1 nx1 (λv22 h23 n24=>jI 1 2 [(I 0)] [(0,1,I (if b1 then 10 else 0)),(1,1,v22)] h23 n24 λv25 h26 n27=>(CS Tryz.prog B).fn 86 (.of 86) [v25] h26 n27 Z)=.ok True:=by
  intro b1 b2 z z' Z e1 e2 hZ;refine mA _ _ _ _ _ _ ?_;rintro _ rfl _;refine H1.cu (l:=[I (if b1 then 10 else 0),I (if b2 then 11 else 0)]) rfl λid h4 nx4 H4 => ?_;refine zdj (l:=[if b1 then 10 else 0,if b2 then 11 else 0]) H4 (k:=0) rfl (λB=>zhr (by simp)) (λv hv=>by rw [hv];exact .int _ _) ?_;rintro _ rfl;refine hZ _ _ _ ?_ H4.drop;subst e1 e2;by_cases c1:l[k]<0\/cells<=l[k]
  .simp [c1,qF]
  .cases c2:(pv l k).any (λq=>decide (l[k]<=q)) <;> simp [c1,qF]
 have fin:∀ (e:Int) h' nx',e=(if l[k]<0\/cells<=l[k] then 10 else if (pv l k).any (λq=>decide (l[k]<=q)) then 11 else 0)->Hp h h' nx' [.arr x [encI l],.arr bx [I cells,uq lines]] ->
   (ze .neq .int (I e) (I 0) λv31=>yP v31 (K (I e) h' nx') (R (F89.fr (.agg [I cells,uq lines]) (I i) (.ptr bx 0) z3 (.ptr x 0) (I k) (I l[k]) (I e) (.bool false) (encI l) (I l.length) (I ((k:Int)+1)) (.bool true) v31) h' nx'))=.ok True:=by
  intro e h' nx' he H';have hstep:y6 cells none l=if e≠0 then e else y6 cells (some l[k]) (l.drop (k+1)):=by
   rw [hce,hdk,y6,he];by_cases c1:l[k]<0\/cells<=l[k]
   .simp [c1]
   .cases c2:(pv l k).any (λq=>decide (l[k]<=q)) <;> simp [c1]
  simp (disch:=omega) only [um,dz,rC,qx,fV,jq,rT,dm,fI,zW,zZ,zC,zD,yL,y4,jM,jF,yT,jB,jC,gE,jY,jR,jX,yA,yJ,yI,zH,decide_true,decide_false,Zap,Zal,jN];by_cases c:e=0
  .simp only [c,decide_true,Zap,zD];refine hR _ _ _ _ _ _ _ _ _ _ (by omega) ⟨k+1,rfl,rfl,by omega,H',?_⟩;rw [hstep,if_neg (by simp [c]),mL hkt]
  .simp only [c,decide_false,Zal,zC];rw [if_pos c] at hstep;exact ret _ _ _ _ (by rw [<- hcell (by rw [hstep];exact c),hstep]) H'
 have mid:∀ b1:Bool,b1=decide (l[k]<0\/cells<=l[k]) ->
   (CS Tryz.prog B).fn 88 (.of 88) [.bool b1,I 10] h1 nx1 (λv10 h11 n12 =>
    sG (.bool (decide (0<(k:Int)))) true (λk=>zI (.ptr x 0) h11 k) λv14=>sG (.bool (decide (0<(k:Int)))) true (λq=>q (I (k:Int))) λv15=>sG (.bool (decide (0<(k:Int)))) true (λk=>ze .sub .int v15 (I 1) k) λv16=>sG (.bool (decide (0<(k:Int)))) true (λk=>zL 1 v14 v16 k) λv17=>sG (.bool (decide (0<(k:Int)))) true (λk=>zI v17 h11 k) λv18 =>
    sG (.bool (decide (0<(k:Int)))) true (λq=>q (I l[k])) λv19=>sG (.bool (decide (0<(k:Int)))) true (λk=>ze .geq .int v18 v19 k) λv20=>yS (.bool (decide (0<(k:Int)))) v20 (.bool false) λv21 =>
    (CS Tryz.prog B).fn 88 (.of 88) [v21,I 11] h11 n12 λv22 h23 n24=>jI 1 2 [(I 0)] [(0,1,v10),(1,1,v22)] h23 n24 λv25 h26 n27=>(CS Tryz.prog B).fn 86 (.of 86) [v25] h26 n27 λv28 h29 n30 =>
    ze .neq .int v28 (I 0) λv31=>yP v31 (K v28 h29 n30) (R (F89.fr (.agg [I cells,uq lines]) (I i) (.ptr bx 0) z3 (.ptr x 0) (I k) (I l[k]) v28 (.bool false) (encI l) (I l.length) (I ((k:Int)+1)) (.bool true) v31) h29 n30))=.ok True:=by
  intro b1 e1;refine mA _ _ _ _ _ _ ?_;rintro _ rfl _;by_cases ck:0<k
  .obtain ⟨k,rfl⟩:∃ j,k=j+1:=⟨k-1,by omega⟩;have hk1:k<l.length:=by omega
   have hxk1:l[k]? = some l[k]:=List.getElem?_eq_getElem hk1;simp only [show (0:Int)<((k+1:Nat):Int) by omega,decide_true,yL,zW];rw [H1.load (k:=0) (i:=0) rfl rfl,dz (by omega),fO (i:=k) (by omega) hk1,ldL (aI hxk1)];simp only [fI];exact tail _ _ .u .u _ e1 (by rw [mL hk1];rfl) fin
  .obtain rfl:k=0:=by omega
   simp only [show ¬ (0:Int)<((0:Nat):Int) by omega,decide_false,jF,zZ];exact tail _ _ .u .u _ e1 rfl fin
 by_cases c:l[k]<0
 .simp only [jq,c,decide_true,jM,zW];exact mid true (by simp [c])
 .simp only [jq,c,decide_false,y4,sFx];rw [H1.load (k:=1) (i:=0) rfl rfl];simp only [fI,zZ];exact mid _ (by simp [c])
theorem zv8 {cells:Int} {lines:List (List Int)} (hw:∀ q∈lines,q.length<=1000000):Pure Tryz.prog B 18 [.agg [I cells,uq lines]] (· = I (jW cells lines)):=by
 refine zT λh nx K H0 hK=>zN zP sD 10000000 λhf => ?_;rw [F18.go];refine H0.box (l:=[I cells,uq lines]) rfl λbx h1 nx1 H1 => ?_;rw [sFx,H1.load (k:=0) (i:=0) rfl rfl,sFx,H1.load (k:=0) (i:=0+1) rfl rfl];simp only [yA,dm];refine H1.cu (l:=[I cells]) rfl λid h2 nx2 H2 => ?_;simp only [zH,yA];rw [H2.load (k:=1) (i:=0+1) rfl rfl];simp only [zH,sFx];refine zgn (args':=[I 1,I 256,encI [cells]]) (.cons (.int _ _) (.cons (.int _ _) (.cons (qi.frz (H2.own (.arr id [I cells]) (by simp)) (T.rW _ id) (Zaf _) rfl (λv hv=>by simp at hv;subst hv;rfl)) .nil))) rfl (λB=>zt1 (l:=[cells]) (by simp)) (λv hv=>by rw [hv];exact .int _ _) ?_;rintro _ rfl _;rw [H2.load (k:=1) (i:=0+1) rfl rfl];simp only [zH,yA];refine mA _ _ _ _ _ _ ?_;rintro _ rfl _;refine H2.cu (l:=[I (if [cells].any (λx=>decide (x<1)||decide (256<x)) then 3 else 0),I (if decide (128<(lines.length:Int)) then 5 else 0)]) rfl λid3 h3 nx3 H3 => ?_;refine zdj (l:=[if [cells].any (λx=>decide (x<1)||decide (256<x)) then 3 else 0,if decide (128<(lines.length:Int)) then 5 else 0]) H3 (k:=0) rfl (λB=>zhr (by simp)) (λv hv=>by rw [hv];exact .int _ _) ?_;rintro _ rfl;have ret:∀ (v:Int) h' nx' L,v=jW cells lines->Hp h h' nx' L->K (I v) h' nx'=.ok True:=λv h' nx' L hv H'=>by rw [hv];exact hK _ _ _ _ _ H' (zR rfl) rfl
 have ef:qF [if [cells].any (λx=>decide (x<1)||decide (256<x)) then 3 else 0,if decide (128<(lines.length:Int)) then 5 else 0]=if cells<1\/256<cells then 3 else if 128<lines.length then 5 else 0:=by
  by_cases c:cells<1\/256<cells
  .simp [qF,c]
  .by_cases c2:128<lines.length
   .have:(128:Int)<(lines.length:Int):=by omega
    simp [qF,c,c2,this]
   .have:¬ (128:Int)<(lines.length:Int):=by omega
    simp [qF,c,c2,this]
 rw [ef];simp only [fV];by_cases hc:cells<1\/256<cells
 .simp only [hc,if_true];simp only [show ¬ (3:Int)=0 by omega,decide_false,Zal,zC];exact ret 3 _ _ _ (by rw [jW,if_pos hc]) H3
 simp only [hc,if_false];by_cases hm:128<lines.length
 .simp only [hm,if_true];simp only [show ¬ (5:Int)=0 by omega,decide_false,Zal,zC];exact ret 5 _ _ _ (by rw [jW,if_neg hc,if_pos hm]) H3
 simp only [hm,if_false,decide_true,Zap,zD];rw [H3.load (k:=2) (i:=0+1) rfl rfl];simp only [yA];have hs:jW cells lines=uE cells [] lines:=by rw [jW,if_neg hc,if_neg hm]
 refine F18.L2 (λm z8 h' nx'=>∃ i:Nat,z8=I i/\lines.length-i=m/\i<=lines.length/\Hp h h' nx' [.arr bx [I cells,uq lines]]/\jW cells lines=uE cells (lines.take i) (lines.drop i)) (m:=lines.length) (by omega) ⟨0,rfl,rfl,by omega,H3.drop.drop,by simpa using hs⟩ ?_;rintro m z2 z4 z5 z8 z9 z10 h4 nx4 R ⟨i,rfl,rfl,hi,H4,he⟩ hR;simp (disch:=omega) only [um,dz,rC,qx,fV,jq,rT,dm,fI,zW,zZ,zC,zD,yL,y4,jM,jF,yT,jB,jC,gE,jY,jR,jX,yA,yJ,yI,zH,decide_true,decide_false,Zap,Zal,jN];by_cases hlt:i<lines.length
 case neg =>
  simp only [show ¬ (i:Int)<(lines.length:Int) by omega,decide_false,zD];rw [F18.k9];exact ret 0 _ _ _ (by rw [he,Zbs (by omega)];rfl) H4
 simp only [show (i:Int)<(lines.length:Int) by omega,decide_true,zC];obtain ⟨l,hx⟩:∃ l,lines[i]? = some l:=⟨_,List.getElem?_eq_getElem hlt⟩;have hd:lines.drop i=l::lines.drop (i+1):=by
  rw [Zbj hlt];rw [List.getElem?_eq_getElem hlt] at hx;rw [Option.some.inj hx]
 have htake:lines.take (i+1)=lines.take i++[l]:=by rw [Zar,hx];rfl
 rw [H4.zk (k:=0) (n:=2) rfl rfl];refine zt2 hx (by omega) hw _ _ _ _ ?_;rintro _ rfl _;simp only [fV];by_cases c:jO cells (lines.take i) l=0
 .simp only [c,decide_true,Zap,zD];refine hR _ _ _ _ _ _ _ _ _ (by omega) ⟨i+1,rfl,rfl,by omega,H4,?_⟩;rw [he,hd,uE,if_neg (by rw [c];simp),htake]
 .simp only [c,decide_false,Zal,zC];exact ret _ _ _ _ (by rw [he,hd,uE,if_pos c]) H4
end Go.Ev
namespace Go.Ev
def AscL (cells:Nat) (l:List Int):Prop:=l≠[]/\l.Pairwise (· < ·)/\∀ c∈l,0<=c/\c<(cells:Int)
end Go.Ev
namespace Go.Ev
open Go Go.Proofs
variable {B:Nat}
theorem cells_ok {cells:Int}:∀ {l:List Int} {p:Option Int},y6 cells p l=0->(∀ c∈l,0<=c/\c<cells)/\l.Pairwise (· < ·)/\∀ q,p=some q->∀ c∈l,q<c
 | [],_,_=>⟨by simp,.nil,by simp⟩
 | c::l,p,h=>by
  rw [y6] at h;by_cases c1:c<0\/cells<=c
  .rw [if_pos c1] at h;cases h
  rw [if_neg c1] at h;cases c2:p.any (λq=>decide (c<=q)) with
  | true=>rw [c2,if_pos rfl] at h;cases h
  | false =>
   rw [c2,if_neg (by simp)] at h;obtain ⟨h1,h2,h3⟩:=cells_ok h;have h4:=h3 c rfl;refine ⟨λx hx => ?_,List.pairwise_cons.2 ⟨h4,h2⟩,λq hq x hx => ?_⟩
   .rcases List.mem_cons.1 hx with rfl | hx
    .omega
    .exact h1 x hx
   .subst hq;simp at c2;rcases List.mem_cons.1 hx with rfl | hx
    .exact c2
    .have:=h4 x hx;omega
theorem zht {cells:Int}:∀ {ls prev:List (List Int)},uE cells prev ls=0->∀ l∈ls,l≠[]/\y6 cells none l=0
 | [],_,_,l,h=>by simp at h
 | a::ls,prev,h,l,hl=>by
  rw [uE] at h;by_cases c:jO cells prev a≠0
  .rw [if_pos c] at h;exact absurd h c
  rw [if_neg c] at h;rcases List.mem_cons.1 hl with rfl | hl
  .have c:jO cells prev l=0:=by simpa using c
   rw [jO] at c;by_cases c0:l=[]
   .rw [if_pos c0] at c;cases c
   rw [if_neg c0] at c;refine ⟨c0,?_⟩;by_cases c1:y6 cells none l≠0
   .rw [if_pos c1] at c;exact c
   .simpa using c1
  .exact zht h l hl
theorem zrl {cells:Int} {lines:List (List Int)} (h:jW cells lines=0):∃ n:Nat,cells=n/\1<=n/\n<=256/\lines.length<=128/\∀ l∈lines,AscL n l:=by
 rw [jW] at h;by_cases c1:cells<1\/256<cells
 .rw [if_pos c1] at h;cases h
 rw [if_neg c1] at h;by_cases c2:128<lines.length
 .rw [if_pos c2] at h;cases h
 rw [if_neg c2] at h;refine ⟨cells.toNat,by omega,by omega,by omega,by omega,λl hl => ?_⟩;obtain ⟨h1,h2⟩:=zht h l hl;obtain ⟨h3,h4,_⟩:=cells_ok h2;exact ⟨h1,h4,λc hc=>by have:=h3 c hc;omega⟩
end Go.Ev
namespace Go.Ev
abbrev srt (l:List Int):List Int:=l.mergeSort λx y=>decide (x<=y)
theorem zhu (l:List Int):(srt l).Perm l:=List.mergeSort_perm l _
structure Ins (l out:List Int) (i k:Nat):Prop where
 perm:out.Perm l
 ex:∃ (A:List Int) (x:Int) (B R:List Int),out=A++x::(B++R)/\A.length=k/\A.length+B.length=i/\(A++B).Pairwise (· <= ·)/\∀ b∈B,x<b
theorem Ins.start {l out:List Int} {i:Nat} (hp:out.Perm l) (hi:i<out.length) (hs:(out.take i).Pairwise (· <= ·)):Ins l out i i :=
 ⟨hp,out.take i,out[i],[],out.drop (i+1),by simp,by simp;omega,by simp;omega,by simpa using hs,by simp⟩
theorem Ins.swap {l out:List Int} {i k:Nat} (H:Ins l out i (k+1)) {a x:Int} (ha:out[k]? = some a) (hx:out[k+1]? = some x) (hlt:x<a):Ins l ((out.set (k+1) a).set k x) i k:=by
 obtain ⟨hp,A,x',B,R,rfl,hA,hi,hs,hb⟩:=H;obtain ⟨A,a',rfl⟩:∃ A' a',A=A'++[a']:=⟨A.dropLast,A.getLast (by intro q;rw [q] at hA;simp at hA),(List.dropLast_concat_getLast _).symm⟩;have hA':A.length=k:=by simpa using hA
 have e1:a'=a:=by
  rw [Zbu,List.getElem?_append_right (by omega),hA',Zcd] at ha;simpa using ha
 have e2:x'=x:=by
  rw [List.getElem?_append_right (by simp;omega)] at hx;simp [hA'] at hx;exact hx
 subst e1 e2;have e3:((A++[a']++x'::(B++R)).set (k+1) a').set k x'=A++x'::((a'::B)++R):=by
  have h1:(A++[a']++x'::(B++R)).set (k+1) a'=A++a'::a'::(B++R):=by
   rw [Zbu,Zes _ _ (by omega),hA',show k+1-k=1 by omega];rfl
  rw [h1,Zes _ _ (by omega),hA',Zcd];rfl
 rw [e3];refine ⟨List.Perm.trans ?_ hp,A,x',a'::B,R,rfl,hA',by simp at hi ⊢;omega,by simpa [Zbu] using hs,?_⟩
 .rw [Zbu];refine List.Perm.append_left A ?_;exact List.Perm.swap _ _ _
 .intro b hb';rcases List.mem_cons.1 hb' with rfl | q
  .exact hlt
  .exact hb b q
theorem Ins.done {l out:List Int} {i k:Nat} (H:Ins l out i k) (h:k=0\/∃ j a x,k=j+1/\out[j]? = some a/\out[k]? = some x/\¬ x<a):out.Perm l/\(out.take (i+1)).Pairwise (· <= ·):=by
 obtain ⟨hp,A,x,B,R,rfl,hA,hi,hs,hb⟩:=H;refine ⟨hp,?_⟩;have e:(A++x::(B++R)).take (i+1)=A++x::B:=by
  rw [show A++x::(B++R)=(A++x::B)++R by simp];exact List.take_left' (by simp;omega)
 rw [e];have hs':=List.pairwise_append.1 hs;refine List.pairwise_append.2 ⟨hs'.1,List.pairwise_cons.2 ⟨λb hb'=>by have:=hb b hb';omega,hs'.2.1⟩,?_⟩;have key:∀ a∈A,a<=x:=by
  rcases h with rfl | ⟨j,a0,x0,rfl,h1,h2,h3⟩
  .obtain rfl:A=[]:=Zci hA;simp
  .obtain ⟨A,a',rfl⟩:∃ A' a',A=A'++[a']:=⟨A.dropLast,A.getLast (by intro q;rw [q] at hA;simp at hA),(List.dropLast_concat_getLast _).symm⟩;have hA':A.length=j:=by simpa using hA
   have e1:a'=a0:=by
    rw [Zbu,List.getElem?_append_right (by omega),hA',Zcd] at h1;simpa using h1
   have e2:x=x0:=by
    rw [List.getElem?_append_right (by simp;omega)] at h2;simp [hA'] at h2;exact h2
   subst e1 e2;intro a ha;rcases List.mem_append.1 ha with q | q
   .have:=(List.pairwise_append.1 hs'.1).2.2 a q a' (by simp);omega
   .simp at q;omega
 intro a ha b hb';rcases List.mem_cons.1 hb' with rfl | q
 .exact key a ha
 .exact hs'.2.2 a ha b q
def incr (d:List Int) (c:Int):List Int:=d.set c.toNat (d.getD c.toNat 0+1)
@[simp] theorem zv9 (d:List Int) (c:Int):(incr d c).length=d.length:=by simp [incr]
def Bd (d:List Int) (M:Nat):Prop:=∀ v∈d,0<=v/\v<=(M:Int)
theorem Bd.incr {d:List Int} {M:Nat} (h:Bd d M) {c:Int} (hc:c.toNat<d.length):Bd (incr d c) (M+1):=by
 intro v hv;rcases Zbe hv with q | rfl
 .have:=h v q;omega
 .rw [Zaa,List.getElem?_eq_getElem hc];have:=h _ (Zau hc);simp only [Option.getD_some];omega
theorem Bd.mono {d:List Int} {M N:Nat} (h:Bd d M) (hm:M<=N):Bd d N:=λv hv=>by have:=h v hv;omega
theorem Bd.srt {d:List Int} {M:Nat} (h:Bd d M):Bd (Ev.srt d) M:=λv hv=>h v ((zhu d).mem_iff.1 hv)
@[simp] theorem zyi (d:List Int):(Ev.srt d).length=d.length:=(zhu d).length_eq
end Go.Ev
namespace Go.Ev
open Go Go.Proofs
variable {B:Nat}
set_option maxRecDepth 100000
theorem Hp.zcf {h0 h:T Blk} {nx:Pa} {L:List Ob} (H:Hp h0 h nx L) (e:Nat):Hp h0 h nx (.gro none e 0 []::L) :=
  ⟨H.keep,fun x hx=>by rcases List.mem_cons.1 hx with rfl | q;· exact ⟨rfl,rfl⟩
                       . exact H.own x q,λn hn=>H.off n (by simpa [Ob.names] using hn),by have:=H.nd;simpa [Ob.names] using this,H.fr⟩
end Go.Ev
namespace Go.Ev
open Go Go.Proofs
variable {B:Nat}
theorem zt3 {h0 h:T Blk} {nx:Pa} {L:List Ob} {o:Option Pa} {n k:Nat} {l l':List AV} (H:Hp h0 h nx L) (hk:L[k]? = some (.gro o 1 n l)) (hl:l'.length=l.length) (hs:l'.all uz=true) (hf:∀ (i:Nat) (v v':AV),l[i]? = some v->l'[i]? = some v'->tC h0 h v v'):tC h0 h (uy o 1 n) (.lst 1 n l'):=by
 have own:=H.own _ (Zad hk);have hoff:=H.off;cases o with
 | none =>
  obtain ⟨rfl,rfl⟩:=own;obtain rfl:l'=[]:=by simpa using hl
  exact .zcx 1
 | some id =>
  obtain ⟨t,h1,h2,h3⟩:=own;refine .sl _ _ _ _ _ true _ t _ (hoff id (List.mem_flatMap.2 ⟨_,Zad hk,by simp [Ob.names]⟩)) trivial h1 (by omega) (by rw [hl];exact h2) hs λi v hi => ?_;have hil:i<l.length:=by rw [<- hl];exact (List.getElem?_eq_some_iff.1 hi).1
  have:=yK t 0 (n*1) i (by rw [<- h2];exact hil);rw [h3,List.getElem?_eq_getElem hil] at this;rw [<- Option.some.inj this];exact hf i _ _ (List.getElem?_eq_getElem hil) hi
end Go.Ev
namespace Go.Ev
open Go Go.Proofs
variable {B:Nat}
set_option maxRecDepth 100000
theorem Sg.q1 {q:Rat} (h:Sg q):jk 1 q:=(h.dn (Zaf 1)).nm (Zaf _) (Zaf _)
theorem pV {Q:List Rat} {P:Rat->Prop} (h:∀ j,P (at' Q j)):∀ x∈Q,P x:=λx hx=>by
 obtain ⟨j,_,rfl⟩:=dM hx;exact h j
theorem su.fix {c:List AV} {q:List Rat} (h:su c q):∀ v∈c,fP v=true:=λv hv=>by
 obtain ⟨m,hm⟩:=List.mem_iff_getElem?.1 hv;have hl:=(List.getElem?_eq_some_iff.1 hm).1;rw [h.1] at hl;obtain ⟨s,w,s',w',e,h1,h2⟩:=h.2 (m / 4) _ (gY (by omega));have h3:((c.drop (m / 4*4)).take 4)[m%4]? = some v:=by
  rw [List.getElem?_take_of_lt (Zed _ (by decide)),List.getElem?_drop,show m / 4*4+m%4=m by omega];exact hm
 rw [e] at h3;exact h1.aJ h2 v (Zad h3)
theorem gp4 {n:Nat} {o4 o5:Option Pa} {rs:List Pa} {cs:List (List AV)} {ps:List Nat} {T:List Ob} (P:List Ob):(P++SL n o4 o5 rs cs ps T)[P.length]? = some (.gro o4 1 rs.length (rs.map (rwV n))):=by
 rw [List.getElem?_append_right (Zaf _),Zcd];rfl
theorem gp5 {n:Nat} {o4 o5:Option Pa} {rs:List Pa} {cs:List (List AV)} {ps:List Nat} {T:List Ob} (P:List Ob):(P++SL n o4 o5 rs cs ps T)[P.length+1]? = some (.gro o5 1 ps.length (ps.map λp=>I ((p:Nat):Int))):=by
 rw [List.getElem?_append_right (by omega),Zcp];rfl
theorem gpT {n:Nat} {o4 o5:Option Pa} {rs:List Pa} {cs:List (List AV)} {Q:List (List Rat)} {ps:List Nat} {b:Ob} {T:List Ob} (S:SM rs cs Q) (P:List Ob):(P++SL n o4 o5 rs cs ps (b::T))[P.length+(Q.length+2)]? = some b:=by
 rw [List.getElem?_append_right (by omega),Zcp];show (List.zipWith Ob.arr rs cs++b::T)[Q.length]? = _;rw [List.getElem?_append_right (by rw [xZ S];exact Zaf _),xZ S,Zcd];rfl
theorem zm4 {a g6 g7 b:Ob} {Z U:List Ob}:(a::g6::g7::b::(Z++U)).Perm (g6::g7::b::((Z++[a])++U)):=by
 refine (List.Perm.swap ..).trans (List.Perm.cons _ ((List.Perm.swap ..).trans (List.Perm.cons _ ((List.Perm.swap ..).trans (List.Perm.cons _ ?_)))));rw [Zbu];exact List.perm_middle.symm
def frQ (n:Nat) (ps:List Nat):List Nat:=(List.range n).filter λx => !decide (x∈ps)
theorem zhv {c:Nat} {ps:List Nat}:frQ (c+1) ps=frQ c ps++if c∈ps then [] else [c]:=by
 unfold frQ;rw [List.range_succ,List.filter_append]
 congr 1
 by_cases h:c∈ps
 .rw [if_pos h,List.filter_cons_of_neg (by simp [h])];rfl
 .rw [if_neg h,List.filter_cons_of_pos (by simp [h])];rfl
theorem mV (n:Nat) (ps:List Nat):(frQ n ps).length<=n:=by
 unfold frQ;exact Zay (Zga ..) (by rw [Zdd];exact Zaf _)
def SpcV (n:Nat) (fr:List Nat) (Bs:List (List Rat)) (v:AV):Prop:=∃ cb:List (List AV),cb.length=Bs.length/\(∀ a,a<Bs.length->su (cb.getD a []) (Bs.getD a []))/\v=.agg [.lst 1 fr.length (fr.map λp=>I ((p:Nat):Int)),.lst 1 Bs.length (cb.map λc=>.lst 4 n c)]
def cX (n:Nat) (lines:List (List Int)) (Q:List (List Rat)) (ps:List Nat):Prop:=(∃ O,Sv n O Q ps)/\Q.length<=min 11 lines.length/\(∀ f,Mgf n lines f->∀ q∈Q,dot q f=0)/\∀ f:List Rat,f.length=n->(∀ q∈Q,dot q f=0)->Mgf n lines f
theorem qbj (n:Nat) (lines:List (List Int)) (f:List Rat):dot (aN n lines 0) f=0:=by
 unfold aN;rw [j3 _ _ _ _ rfl];grind
theorem zm5 {n i:Nat} {lines:List (List Int)} {f:List Rat} (h:dot (aN n lines i) f=0):dot (rQ n (lines.getD i [])) f=dot (rQ n (lines.getD 0 [])) f:=by
 unfold aN at h;rw [j3 _ _ _ _ (by rw [yH,yH])] at h
 grind
theorem zhw {n:Nat} {lines:List (List Int)} (hr:∀ l∈lines,∀ c∈l,0<=c/\c<(n:Int)) {i:Nat} (hi:i<lines.length):∀ c∈lines.getD i [],0<=c/\c<(n:Int):=hr _ (zY hi)
theorem zm6 {n:Nat} {lines:List (List Int)} (hn:n<=256) (hl:lines.length<=12) (hll:∀ l∈lines,l.length<=256) (hr:∀ l∈lines,∀ c∈l,0<=c/\c<(n:Int)):Pure Tryz.prog B 93 [.agg [I (n:Int),uq lines]] (λv=>∃ Q ps,cX n lines Q ps/\SpcV n (frQ n ps) ((frQ n ps).map (eO n Q ps)) v):=by
 refine zT λh nx K H0 hK=>zN zP yD 1000 λhf => ?_;rw [F93.go,F93.t113,zA,F93.zy];refine H0.box (l:=[I (n:Int),uq lines]) rfl λb1 h1 nx1 H1 => ?_;refine H1.alloc λb2 h2 nx2 H2 => ?_;rw [zA,F93.zx,sFx,H2.load (k:=1) (i:=0+0) rfl rfl,zA,F93.jb,zA,F93.dw,zA,zA,F93.rD,zJ];have H2:=(H2.zcf 1).zcf 1
 refine F93.znp (λm x4 x5 x6 h' nx'=>∃ (i:Nat) (o4 o5:Option Pa) (rs:List Pa) (cs:List (List AV)) (Q:List (List Rat)) (ps:List Nat) (O:List (List Rat)),x4=uy o4 1 rs.length/\x5=uy o5 1 ps.length/\x6=I (i:Int)/\m+i=lines.length+1/\1<=i/\(i<=lines.length\/i=1)/\Q.length+1<=i/\SM rs cs Q/\Sv n O Q ps/\(∀ f,Mgf n lines f->∀ q∈Q,dot q f=0)/\(∀ i',i'<i->∀ f:List Rat,f.length=n->(∀ q∈Q,dot q f=0)->dot (aN n lines i') f=0)/\Hp h h' nx' (SL n o4 o5 rs cs ps [.arr b2 [.za,.za],.arr b1 [I (n:Int),uq lines]])) (m:=lines.length) (by omega) ⟨1,none,none,[],[],[],[],[],rfl,rfl,rfl,rfl,by omega,.inr rfl,Zaf _,⟨rfl,rfl,λa ha=>by simp at ha⟩,Sv.nil n,by simp,λi' hi f _ _=>by
  obtain rfl:i'=0:=by omega
  exact qbj ..,H2⟩ ?_
 rintro m z4 z5 z6 z7 z8 z9 z10 z11 z17 z18 z19 z20 z21 z22 z23 z24 z25 z26 z27 h3 nx3 R ⟨i,o4,o5,rs,cs,Q,ps,O,rfl,rfl,rfl,hm,hi1,hi2,hQi,S,hS,hdot,hcv,H3⟩ hR;obtain ⟨T,hT⟩:∃ T:List Ob,T=[.arr b2 [.za,.za],.arr b1 [I (n:Int),uq lines]]:=⟨_,rfl⟩;rw [<- hT] at H3;have hps:=hS.len;have tl:∀ {X:List Ob} {o4 o5:Option Pa} {rs:List Pa} {cs:List (List AV)} {ps:List Nat},(List.zipWith Ob.arr rs cs).length=Q.length->(X++SL n o4 o5 rs cs ps T)[X.length+2+Q.length+1]? = some (.arr b1 [I (n:Int),uq lines]):=λ{X o4 o5 rs cs ps} hz=>by
  rw [hT,List.getElem?_append_right (by omega),show X.length+2+Q.length+1-X.length=Q.length+1+2 by omega];show (List.zipWith Ob.arr rs cs++[Ob.arr b2 [.za,.za],Ob.arr b1 [I (n:Int),uq lines]])[Q.length+1]? = _;rw [List.getElem?_append_right (by omega),hz,Zcp];rfl
 have l1:∀ op:AV->OP,zI (.ptr b1 (0+1)) h3 op=op (uq lines):=λop=>H3.load (i:=0+1) (tl (X:=[]) (xZ S)) rfl;rw [F93.t63,zA,zA,F93.rE,sFx,l1,yA,jq,zB,F93.v17];by_cases ci:i<lines.length
 case neg =>
  rw [Zab (by omega),zD,zV,yC,zA,F93.znq];have hpl:ps.length<=33:=by omega
  refine H3.alloc λb3 h4 nx4 H4 => ?_;have H4:=(H4.zcf 1).zcf 1;rw [zA,zA,F93.zfv,zJ];refine F93.zwm (λm x29 h' nx'=>∃ (c:Nat) (o6 o7:Option Pa) (rb:List Pa) (cb:List (List AV)),x29=I (c:Int)/\m+c=n/\SM rb cb ((frQ c ps).map (eO n Q ps))/\Hp h h' nx' (.gro o6 1 (frQ c ps).length ((frQ c ps).map λp=>I ((p:Nat):Int))::.gro o7 1 rb.length (rb.map (rwV n))::.arr b3 [uy o6 1 (frQ c ps).length,uy o7 1 rb.length]::(List.zipWith Ob.arr rb cb++SL n o4 o5 rs cs ps T))) (m:=n) (by omega) ⟨0,none,none,[],[],rfl,by omega,⟨rfl,rfl,λa ha=>by simp [frQ] at ha⟩,H4⟩ ?_;rintro m2 y13 y14 y15 y16 y29 y30 y31 y32 y33 y34 y35 h5 nx5 R2 ⟨c,o6,o7,rb,cb,rfl,hmc,S2,H5⟩ hR2;have hfl:=mV c ps;have hrb:rb.length=(frQ c ps).length:=by rw [S2.lr,Zai]
  obtain ⟨P,hP⟩:∃ P:List Ob,P=.gro o6 1 (frQ c ps).length ((frQ c ps).map λp=>I ((p:Nat):Int))::.gro o7 1 rb.length (rb.map (rwV n))::.arr b3 [uy o6 1 (frQ c ps).length,uy o7 1 rb.length]::List.zipWith Ob.arr rb cb:=⟨_,rfl⟩;have eP:(.gro o6 1 (frQ c ps).length ((frQ c ps).map λp=>I ((p:Nat):Int))::.gro o7 1 rb.length (rb.map (rwV n))::.arr b3 [uy o6 1 (frQ c ps).length,uy o7 1 rb.length]::(List.zipWith Ob.arr rb cb++SL n o4 o5 rs cs ps T))=P++SL n o4 o5 rs cs ps T:=by rw [hP];rfl
  have H5p:=H5.cast eP;rw [F93.t101,zA,F93.zy2,jq,zA,zB,F93.v30];by_cases cc:c<n
  case neg =>
   obtain rfl:c=n:=by omega
   rw [Zab (by omega),zD,zV,yC,zA,F93.zwn,H5.zk (k:=2) (n:=2) rfl rfl];rw [hT] at H5p;refine H5p.yx (l2:=[uy o6 1 (frQ c ps).length,uy o7 1 rb.length]) (gpT S P) rfl rfl λh6 H6 => ?_;simp only [zE,zM];have hb2:((P++SL c o4 o5 rs cs ps [.arr b2 [.za,.za],.arr b1 [I (c:Int),uq lines]]).set (P.length+(Q.length+2)) (.arr b2 [uy o6 1 (frQ c ps).length,uy o7 1 rb.length]))[P.length+(Q.length+2)]? = some (.arr b2 [uy o6 1 (frQ c ps).length,uy o7 1 rb.length]):=List.getElem?_set_self (List.getElem?_eq_some_iff.1 (gpT S P)).1;rw [F93.ret,H6.zk (n:=2) hb2 rfl];have hPl:3<=P.length:=by rw [hP];simp
   have old:∀ i,i<P.length->((P++SL c o4 o5 rs cs ps [.arr b2 [.za,.za],.arr b1 [I (c:Int),uq lines]]).set (P.length+(Q.length+2)) (.arr b2 [uy o6 1 (frQ c ps).length,uy o7 1 rb.length]))[i]? = P[i]? := λi hi=>by
    rw [List.getElem?_set_ne (by omega),List.getElem?_append_left hi]
   have F6:tC h h6 (uy o6 1 (frQ c ps).length) (.lst 1 (frQ c ps).length ((frQ c ps).map λp=>I ((p:Nat):Int))):=H6.zej (k:=0) (by rw [old 0 (by omega),hP];rfl) λv hv=>by
    obtain ⟨x,_,rfl⟩:=List.mem_map.1 hv;rfl
   have hcl:=S2.lc;have F7:tC h h6 (uy o7 1 rb.length) (.lst 1 rb.length (cb.map λd=>.lst 4 c d)):=zt3 H6 (k:=1) (by rw [old 1 (by omega),hP];rfl) (by rw [Zai,Zai,hcl,S2.lr]) (List.all_eq_true.2 λv hv=>by obtain ⟨x,_,rfl⟩:=List.mem_map.1 hv;rfl) λa v v' h1 h2=>by
    rw [List.getElem?_map] at h1 h2;have ha:a<rb.length:=by
     rcases Zdb a rb.length with q | q
     .exact q
     .rw [List.getElem?_eq_none q] at h1;cases h1
    have hac:a<cb.length:=by rw [hcl,<- S2.lr];exact ha
    rw [List.getElem?_eq_getElem ha] at h1;rw [jZ (d:=[]) hac] at h2;obtain rfl:=Option.some.inj h1;obtain rfl:=Option.some.inj h2;have hrow:=S2.row a (by rw [<- S2.lr];exact ha);refine H6.zxn (k:=3+a) ?_ (Zaf _) ?_ hrow.fix
    .rw [old (3+a) (by rw [hP];simp only [Zbd];rw [xZ S2,<- S2.lr];omega),hP,Zdp 3 a];show (List.zipWith Ob.arr rb cb)[a]? = _;rw [List.getElem?_zipWith,List.getElem?_eq_getElem ha,jZ (d:=[]) hac]
    .rw [hrow.1,Zaa,List.getElem?_map,jZ (d:=0) (show a<(frQ c ps).length by omega)];show (eO _ _ _ _).length*4=_;rw [dL]
   refine hK _ _ _ _ (.agg [.lst 1 (frQ c ps).length ((frQ c ps).map λp=>I ((p:Nat):Int)),.lst 1 rb.length (cb.map λd=>.lst 4 c d)]) H6 (Frz.agg _ _ rfl rfl λj v v' h1 h2 => ?_) ⟨Q,ps,⟨⟨O,hS⟩,by omega,hdot,λf hf hk=>⟨hf,λl hl=>by
    obtain ⟨b,hb⟩:=List.mem_iff_getElem?.1 hl;have hbl:=(List.getElem?_eq_some_iff.1 hb).1;have e:=zm5 (hcv b (by omega) f hf hk);rw [Zaa,hb] at e;exact e⟩⟩,cb,hcl,S2.row,by rw [S2.lr]⟩
   match j,h1,h2 with
   | 0,h1,h2=>cases h1;cases h2;exact F6
   | 1,h1,h2=>cases h1;cases h2;exact F7
   | j+2,h1,h2=>simp at h1
  rw [Zac (by omega),zC,zG,zA,zJ,zA,F93.zy3,zA,zA,F93.znr];refine ztx H5p (gp5 P) (by omega) ?_;rw [zB,F93.v31];have hfs:=zhv (c:=c) (ps:=ps);by_cases hc:c∈ps
  .rw [if_pos hc,Zbi] at hfs;rw [Zac hc,zC,zV,yC,F93.zuq,um (by omega)];exact hR2 (m2-1) _ _ _ _ _ _ _ _ _ _ _ _ _ (by omega) ⟨c+1,o6,o7,rb,cb,by congr 1,by omega,by rw [hfs];exact S2,by rw [hfs];exact H5⟩
  rw [if_neg hc] at hfs;rw [Zab hc,zD,zG,zA,F93.zns];refine zhn H5p (by omega) λib c0 h6 nx6 hc0 H6 => ?_;rw [zA,F93.zy4];refine zb3 (by unfold rH;omega) _ _ _ _ ?_;rintro _ ⟨s,w,s',w',rfl,i1,i2⟩ _;rw [rat1] at i1 i2;have hc0l:=hc0.1;rw [Zba] at hc0l;rw [oO (j:=c) rfl cc];refine H6.tJ (k:=0) (off:=c*4) rfl (by omega) rfl λh7 H7 => ?_;have hc1:su (gQ c0 (c*4) [s,w,s',w']) (gC n c):=hc0.put (by rw [Zba];exact cc) i1 i2;have H7:Hp h h7 nx6 ((.arr ib (gQ c0 (c*4) [s,w,s',w'])::P)++SL n o4 o5 rs cs ps T):=H7;rw [zA,zA,F93.zy5,H7.oJ (gp5 (_::P)),zJ];refine F93.zza (λm x34 h' nx'=>∃ (k:Nat) (c1:List AV),x34=I (k:Int)/\m+k=Q.length/\su c1 (oP c ((aC Q ps).take k) (gC n c))/\Hp h h' nx' ((.arr ib c1::P)++SL n o4 o5 rs cs ps T)) (m:=Q.length) (by omega) ⟨0,_,rfl,rfl,hc1,H7⟩ ?_;rintro m3 u15 u16 u34 u35 h8 nx8 R3 ⟨k,c1,rfl,hmk,hc1,H8⟩ hR3;rw [F93.t87,zA,F93.zy6,jq,zA,zB,F93.v35];by_cases ck:k<Q.length
  .have hpk:ps[k]? = some (ps.getD k 0):=jZ (by omega);have hpn:=hS.rng _ (Zad hpk);obtain ⟨rk,hrk0,hob⟩:=S.ob (n:=n) (o4:=o4) (o5:=o5) (ps:=ps) (T:=T) ck (.arr ib c1::P);obtain ⟨id5,g5,d5⟩:=H8.zc5 (j:=k) (gp5 (_::P)) (show (ps.map λp=>I ((p:Nat):Int))[k]? = some (I ((ps.getD k 0:Nat):Int)) by rw [List.getElem?_map,hpk];rfl);obtain ⟨id4,g4,d4⟩:=H8.zc5 (j:=k) (gp4 (_::P)) (show (rs.map (rwV n))[k]? = some (rwV n rk) by rw [List.getElem?_map,hrk0];rfl);have hrow:=S.row k ck;have hok:=hS.row _ (zY (d:=[]) ck);obtain ⟨cs2,e1,e2,_,fv⟩:=hrow.get (gY (q:=Q.getD k []) (j:=c) (by rw [hok];exact cc));have hcl:=hc1.1;rw [bH,gB] at hcl;rw [Zac (by omega),zC,zG,zA,zJ,zA,F93.zy7,g5,d5,F93.zy8,g4,d4,oO (j:=c) rfl cc,H8.jg hob e2 e1];refine zdf fv _ _ _ _ ?_;rintro _ ⟨s2,w2,s2',w2',rfl,j1,j2⟩ _;rw [oO (j:=ps.getD k 0) rfl hpn];refine H8.tJ (k:=0) (off:=ps.getD k 0*4) rfl (by omega) rfl λh9 H9 => ?_;rw [F93.zy9,um (by omega)];refine hR3 (m3-1) _ _ _ _ _ _ (by omega) ⟨k+1,_,by congr 1,by omega,?_,H9⟩;rw [kZ hS.len ck,zdi];exact hc1.put (by rw [bH,gB];exact hpn) j1 j2
  obtain rfl:k=Q.length:=by omega
  rw [Zam (by unfold aC;rw [List.length_zip];omega)] at hc1;have H8:=H8;rw [hP] at H8;have H8:Hp h h8 nx8 (.arr ib c1::.gro o6 1 (frQ c ps).length ((frQ c ps).map λp=>I ((p:Nat):Int))::.gro o7 1 rb.length (rb.map (rwV n))::.arr b3 [uy o6 1 (frQ c ps).length,uy o7 1 rb.length]::(List.zipWith Ob.arr rb cb++SL n o4 o5 rs cs ps T)):=H8;have l0:∀ op:AV->OP,zI (.ptr b3 (0+0)) h8 op=op (uy o6 1 (frQ c ps).length):=λop=>H8.load (k:=3) (i:=0+0) rfl rfl;have l1:∀ op:AV->OP,zI (.ptr b3 (0+1)) h8 op=op (uy o7 1 rb.length):=λop=>H8.load (k:=3) (i:=0+1) rfl rfl;have k1:((gL (nW 1 [(I 0)]) [(0,1,I (c:Int))]).isSome&&true)=true:=rfl;have k2:((gL (nW 1 [.za]) [(0,1,rwV n ib)]).isSome&&true)=true:=rfl;rw [Zab (by omega),zD,zV,yC,F93.zzb];simp only [sFx,l0,l1,k1,k2,jN];refine H8.cu (l:=[I (c:Int)]) rfl λta h9 nx9 H9 => ?_;have l0:∀ op:AV->OP,zI (.ptr b3 (0+0)) h9 op=op (uy o6 1 (frQ c ps).length):=λop=>H9.load (k:=4) (i:=0+0) rfl rfl;have l1:∀ op:AV->OP,zI (.ptr b3 (0+1)) h9 op=op (uy o7 1 rb.length):=λop=>H9.load (k:=4) (i:=0+1) rfl rfl;simp only [l0,l1,zH];refine H9.appN (k:=2) (o:=o6) (c:=1) (new:=[I (c:Int)]) rfl (qi.rd (l:=[I (c:Int)]) (n:=1) (H9.own _ (Zaj ..)) rfl) rfl rfl (by decide) (by decide) (by omega) λo6' h10 nx10 _ H10 => ?_;have l0:∀ op:AV->OP,zI (.ptr b3 (0+0)) h10 op=op (uy o6 1 (frQ c ps).length):=λop=>H10.load (k:=4) (i:=0+0) rfl rfl;have l1:∀ op:AV->OP,zI (.ptr b3 (0+1)) h10 op=op (uy o7 1 rb.length):=λop=>H10.load (k:=4) (i:=0+1) rfl rfl;simp only [l0,l1,zH];refine H10.cu (l:=[rwV n ib]) rfl λtb h11 nx11 H11 => ?_;have l0:∀ op:AV->OP,zI (.ptr b3 (0+0)) h11 op=op (uy o6 1 (frQ c ps).length):=λop=>H11.load (k:=5) (i:=0+0) rfl rfl;have l1:∀ op:AV->OP,zI (.ptr b3 (0+1)) h11 op=op (uy o7 1 rb.length):=λop=>H11.load (k:=5) (i:=0+1) rfl rfl;simp only [l0,l1,zH];refine H11.appN (k:=4) (o:=o7) (c:=1) (new:=[rwV n ib]) rfl (qi.rd (l:=[rwV n ib]) (n:=1) (H11.own _ (Zaj ..)) rfl) rfl rfl (by decide) (by decide) (by omega) λo7' h12 nx12 _ H12 => ?_;refine H12.store (k:=5) rfl (by simp) (zbn _ _ _) λh13 H13 => ?_;refine H13.store (k:=5) rfl (by simp) (zbn _ _ _) λh14 H14 => ?_;have H15:Hp h h14 nx12 (.arr ib c1::.gro o6' 1 ((frQ c ps).length+1) (((frQ c ps).map λp=>I ((p:Nat):Int))++[I (c:Int)])::.gro o7' 1 (rb.length+1) (rb.map (rwV n)++[rwV n ib])::.arr b3 [uy o6' 1 ((frQ c ps).length+1),uy o7' 1 (rb.length+1)]::(List.zipWith Ob.arr rb cb++SL n o4 o5 rs cs ps T)):=H14.drop.drop;have H16:=H15.perm zm4;rw [F93.zuq,um (by omega)];refine hR2 (m2-1) _ _ _ _ _ _ _ _ _ _ _ _ _ (by omega) ⟨c+1,o6',o7',rb++[ib],cb++[c1],by congr 1,by omega,?_,H16.cast ?_⟩
  .rw [hfs,Zbp];exact S2.add hc1
  .rw [hfs,zkz (by rw [S2.lr,S2.lc])];simp only [Zae,Zbp,Zbh,Zea,List.map_nil]
 have hx0:lines[0]? = some (lines.getD 0 []):=jZ (by omega);have hxi:lines[i]? = some (lines.getD i []):=jZ ci;have hm1:=hll _ (zY (d:=[]) (show 0<lines.length by omega));have hmi:=hll _ (zY (d:=[]) ci);obtain ⟨t,ht,hd⟩:=hS.den (by omega);obtain ⟨M,hMe⟩:∃ M,M=HB:=⟨_,rfl⟩;rw [<- hMe] at ht hd;have hMS:M<=861979:=by rw [hMe];exact Zaf _
 obtain ⟨N,hNe⟩:∃ N,N=M+Q.length*M:=⟨_,rfl⟩;have hNS:N<=10343748:=by
  have h1:=Zbk (show Q.length<=11 by omega) hMS;omega
 have hMN:M<=N:=by rw [hNe];exact Nat.le_add_right _ _
 have hA2:2*(N*M)<=9223372036854775807:=by have:=Zbk hNS hMS;omega
 have hA3:N*N<=9223372036854775807:=by have:=Zbk hNS hNS;omega
 have hA4:M*M<=9223372036854775807:=by have:=Zbk hMS hMS;omega
 have hA5:2*(M*(M*M))<=9223372036854775807:=by have:=Zbk hMS (Zbk hMS hMS);omega
 rw [Zac (by omega),zC,zG,zA,zJ,zA,F93.fE,sFx,l1,fO (i:=i) rfl ci,ldL (getT hxi)];refine mS H3 (by omega) (by omega) (zhw hr ci) λr cr h4 nx4 hcr H4 => ?_;have l1':∀ op:AV->OP,zI (.ptr b1 (0+1)) h4 op=op (uq lines):=λop=>H4.load (i:=0+1) (tl (X:=[Ob.arr r cr]) (xZ S)) rfl;rw [zA,F93.rF,sFx,l1',fO (j:=0) (i:=0) rfl (by omega),ldL (getT hx0)];refine zb3 (by unfold rH;omega) _ _ _ _ ?_;rintro v1 f1 _;rw [rat1] at f1;rw [ldL (getT hx0)];simp only [zH,l1',sFx];rw [fO (j:=0) (i:=0) rfl (by omega)];simp only [zH];refine mS H4 (by omega) (by omega) (zhw hr (by omega)) λr0 cr0 h5 nx5 hcr0 H5 => ?_;have d01:∀ (l:List Int) (j:Nat),jk 1 (at' (rQ n l) j):=λl j=>Sg.q1 (by rcases qJ n l j with e | e <;> rw [e];exact .inr (.inl rfl);exact .inr (.inr rfl));have q7:∀ {j:Nat} {q:Rat},Dn (t j) M q->jk M q:=λ{j q} hq=>hq.nm (ht j).1 (ht j).2
 refine zex (kr:=1) (ko:=0) (M:=1) (N:=1) (P:=1) (R:=1) H5 rfl rfl (by omega) hcr hcr0 (yH _ _) (yH _ _) (by omega) f1 (Sg.q1 (.inr (.inr rfl))) (pV λj=>d01 _ j) (pV λj=>d01 _ j) (λx hx=>by
  obtain ⟨j,_,rfl⟩:=dM hx;rw [Rat.one_mul];exact d01 _ j) (by decide) (by decide) λc1 h6 nx6 hc1 H6 => ?_
 have H6:=H6.drop;rw [zA,zA,F93.sV,H6.oJ (k:=2) rfl,zJ];refine F93.znk (λm x20 h' nx'=>∃ (k:Nat) (c:List AV) (q:List Rat),x20=I (k:Int)/\m+k=Q.length/\su c q/\Rvq n t M Q ps (aN n lines i) k q/\Hp h h' nx' ([.arr r c]++SL n o4 o5 rs cs ps T)) (m:=Q.length) (by omega) ⟨0,c1,_,rfl,rfl,hc1,Rvq.zero (λj=>(ht j).2) (vV ..) (mG n lines i),H6⟩ ?_;rintro m2 y8 y9 y20 y21 h7 nx7 R2 ⟨k,c,q,rfl,hmk,hcq,hrk,H7⟩ hR2;rw [F93.t20,zA,F93.pu,jq,zA,zB,F93.v21];by_cases ck:k<Q.length
 .have hpk:ps[k]? = some (ps.getD k 0):=jZ (by omega);have hpn:=hS.rng _ (Zad hpk);obtain ⟨rk,hrk0,hob⟩:=S.ob (n:=n) (o4:=o4) (o5:=o5) (ps:=ps) (T:=T) ck [.arr r c];obtain ⟨id5,g5,d5⟩:=H7.zc5 (k:=2) (j:=k) rfl (show (ps.map λp=>I ((p:Nat):Int))[k]? = some (I ((ps.getD k 0:Nat):Int)) by rw [List.getElem?_map,hpk];rfl);obtain ⟨id4,g4,d4⟩:=H7.zc5 (k:=1) (j:=k) rfl (show (rs.map (rwV n))[k]? = some (rwV n rk) by rw [List.getElem?_map,hrk0];rfl);obtain ⟨cs2,e1,e2,_,fv⟩:=hcq.get (gY (q:=q) (j:=ps.getD k 0) (by rw [hrk.len];exact hpn));have hkN:M+k*M<=N:=by rw [hNe];have:=Zax M (show k<=Q.length by omega);omega
  have hb:Sg (at' q (ps.getD k 0)):=by rw [hrk.late k (Zaf _) ck];exact mG ..
  rw [Zac (by omega),zC,zG,zA,zJ,zA,F93.rM,g5,d5,F93.fT,oO (j:=ps.getD k 0) rfl hpn,H7.jg (k:=0) rfl e2 e1,g4,d4]
  refine zex (kr:=0) (ko:=[Ob.arr r c].length+(k+2)) (M:=1) (N:=M) (P:=N) (R:=M) H7 rfl hob (by show 1+(k+2)≠0;omega) hcq (S.row k ck) hrk.len (hS.row _ (zY ck)) (by omega) fv hb.q1 (pV λj=>((hrk.den j).mono hkN).nm (ht j).1 (Zay (ht j).2 hMN)) (pV λj=>q7 (hd _ (zY ck) j)) (λx hx=>by
   obtain ⟨j,_,rfl⟩:=dM hx;exact q7 (hb.mul (hd _ (zY ck) j))) (by omega) hA2 λc' h8 nx8 hc' H8 => ?_
  rw [F93.sW,um (by omega)];exact hR2 (m2-1) _ _ _ _ _ _ (by omega) ⟨k+1,c',_,by congr 1,by omega,hc',hrk.next hS hd (mG n lines i) ck,H8⟩
 obtain rfl:k=Q.length:=by omega
 rw [Zab (by omega),zD,zV,yC,zA,F93.eY,dz (by omega),zA,zJ];have hq0:∀ f,Mgf n lines f->dot q f=0:=λf hfm=>by
  rw [hrk.eq,zb9 (n:=n) _ _ (λx hx => ?_) (vV ..),zrb hfm ci];have hz:=Zfi (Zbt hx);exact ⟨hS.row _ hz.1,hdot f hfm _ hz.1⟩
 have hqr:∀ f:List Rat,(∀ q∈Q,dot q f=0)->dot q f=dot (aN n lines i) f:=λf hf=>by
  rw [hrk.eq,zb9 (n:=n) _ _ (λx hx => ?_) (vV ..)];have hz:=Zfi (Zbt hx);exact ⟨hS.row _ hz.1,hf _ hz.1⟩
 refine F93.zfi (λm x10 h' nx'=>∃ z:Int,x10=I z /\ -1<=z/\z<(n:Int)/\(m:Int)=z+1/\(∀ b:Nat,z<(b:Int)->at' q b=0)/\h'=h7/\nx'=nx7) (m:=n) (by omega) ⟨(n:Int)-1,rfl,by omega,by omega,by omega,λb hb=>jH (by rw [hrk.len];omega),rfl,rfl⟩ ?_;rintro m3 w10 w22 h8 nx8 R3 ⟨z,rfl,hz1,hz2,hmz,hzb,rfl,rfl⟩ hR3;rw [F93.t30,zA,zA,F93.zaf,F93.znl,F93.zsb,fI];by_cases cz:0<=z
 case neg =>
  rw [Zab (by omega)];simp only [jF,vU,zjg];rw [F93.zp5,F93.zj1];simp only [jF,zZ];rw [zB,F93.v22,zD,zV,yC,zA,zA,F93.zft,jq,Zac (by omega),zB,F93.v23,zC,zV,yC,F93.zup,um (by omega)];rw [hT] at H7
  exact hR (m-1) _ _ _ _ _ _ _ _ _ _ _ _ _ _ _ _ _ _ _ _ _ (by omega) ⟨i+1,o4,o5,rs,cs,Q,ps,O,rfl,rfl,by congr 1,by omega,by omega,by omega,by omega,S,hS,hdot,λi' hi f hf hk=>by
   by_cases e:i'=i
   .rw [e,<- hqr f hk];exact xT _ _ λb=>hzb b (by omega)
   .exact hcv i' (by omega) f hf hk,H7.drop⟩
 obtain ⟨j,rfl⟩:∃ j:Nat,z=(j:Int):=⟨z.toNat,by omega⟩;have hjn:j<n:=by omega
 obtain ⟨cs2,e1,e2,_,fv⟩:=hcq.get (gY (q:=q) (j:=j) (by rw [hrk.len];exact hjn));rw [Zac (by omega)];simp only [yL,zeu];rw [oO (j:=j) rfl hjn,H7.jg (k:=0) rfl e2 e1];refine xP fv _ _ _ _ ?_;rintro _ rfl _;rw [F93.zp5,F93.zj1];simp only [yL,zW,qx];rw [zB,F93.v22];by_cases hv:at' q j=0
 .rw [Zac (fe.2 (Rat.num_eq_zero.2 hv)),zC,zG,zJ,F93.zaa,dz (by omega)]
  exact hR3 (m3-1) _ _ _ _ (by omega) ⟨(j:Int)-1,rfl,by omega,by omega,by omega,λb hb=>by
   by_cases e:b=j
   .rw [e];exact hv
   .exact hzb b (by omega),rfl,rfl⟩
 rw [Zab (λw=>hv (Rat.num_eq_zero.1 (fe.1 w))),zD,zV,yC,zA,zA,F93.zft,jq,Zab (by omega),zB,F93.v23,zD,zG,zA,F93.zfu,oO (j:=j) rfl hjn,H7.jg (k:=0) rfl e2 e1];have hrd:∀ b,Dn (t b) N (at' q b):=λb=>by rw [hNe];exact hrk.den b
 obtain ⟨s,s1,sN,dinv,dmul⟩:=zt0 (ht j).1 hv (hrd j);have hqs:∀ b,jk N (at' q b):=λb=>(hrd b).nm (ht b).1 (Zay (ht b).2 hMN);refine zdg fv hv _ _ _ _ ?_;rintro v2 f2 _;refine zq9 (kr:=0) (M:=N) (N:=N) H7 rfl hcq hrk.len (by omega) f2 ((dinv.mono (Zay (ht j).2 hMN)).nm s1 sN) (pV hqs) hA3 λc2 h9 nx9 hc2 H9 => ?_;have H9:Hp h h9 nx9 ([.arr r c2]++SL n o4 o5 rs cs ps T):=H9;have hNw:Nv n Q ps j (yQ (at' q j)⁻¹ q):=by
  refine ⟨by rw [uA];exact hrk.len,by rw [gT];grind,λb hb=>by rw [gT,hrk.done b hb hb,Zbm],hjn,λb hb=>by rw [gT,hzb b (by omega),Zbm]⟩
 have hqk:∀ f:List Rat,f.length=n->(∀ q∈Q,dot q f=0)->dot (aN n lines i) f=0->dot (yQ (at' q j)⁻¹ q) f=0:=λf _ hf h0=>by
  rw [uT,hqr f hf,h0,Zbg]
 have hqb:∀ f:List Rat,(∀ q∈Q,dot q f=0)->dot (yQ (at' q j)⁻¹ q) f=0->dot (aN n lines i) f=0:=λf hf h0=>by
  rw [uT] at h0;rw [<- hqr f hf];grind
 have hq2:∀ f,Mgf n lines f->dot (yQ (at' q j)⁻¹ q) f=0:=λf hfm=>by rw [uT,hq0 f hfm,Zbg]
 obtain ⟨q2,hq2e⟩:∃ q2,q2=yQ (at' q j)⁻¹ q:=⟨_,rfl⟩;rw [<- hq2e] at hc2 hNw hq2 hqk hqb;have hnl:(uV Q j q2).length=Q.length:=by unfold uV;rw [Zai]
 obtain ⟨t2,ht2,hd2⟩:=(hS.next hNw (vV ..) (mG n lines i) hqk).den (by rw [Zae,hnl,Zbh];omega);rw [<- hMe] at ht2 hd2;have hd3:∀ b,Dn (t2 b) M (at' q2 b):=λb=>hd2 q2 (by simp) b;rw [zA,zA,F93.zyx,H9.oJ (k:=1) rfl,zJ];refine F93.zy0 (λm x26 h' nx'=>∃ (k:Nat) (cs':List (List AV)),x26=I (k:Int)/\m+k=Q.length/\SM rs cs' ((uV Q j q2).take k++Q.drop k)/\Hp h h' nx' ([.arr r c2]++SL n o4 o5 rs cs' ps T)) (m:=Q.length) (by omega) ⟨0,cs,rfl,rfl,by rw [Zdm,Zbo,Zdg];exact S,H9⟩ ?_;rintro m4 u11 u26 u27 h10 nx10 R4 ⟨k,cs',rfl,hmk4,S',H10⟩ hR4;have hml:((uV Q j q2).take k++Q.drop k).length=Q.length:=by rw [Zae,Zah,Zch];omega
 have hrl:=S.lr;rw [F93.t47,zA,F93.zfs,jq,zA,zB,F93.v27];by_cases ck:k<Q.length
 .have hQk:Q[k]? = some (Q.getD k []):=jZ ck;have hmk:((uV Q j q2).take k++Q.drop k)[k]? = some (Q.getD k []):=qbi hnl hQk;have hmg:((uV Q j q2).take k++Q.drop k).getD k []=Q.getD k []:=by rw [Zaa,hmk];rfl
  have hnk:(uV Q j q2)[k]? = some (jD (at' (Q.getD k []) j) (Q.getD k []) q2):=by unfold uV;rw [List.getElem?_map,hQk];rfl
  obtain ⟨rk,hrk0,hob⟩:=S'.ob (n:=n) (o4:=o4) (o5:=o5) (ps:=ps) (T:=T) (by rw [hml];exact ck) [.arr r c2];have hrow:=S'.row k (by rw [hml];exact ck);rw [hmg] at hrow;obtain ⟨id4,g4,d4⟩:=H10.zc5 (k:=1) (j:=k) rfl (show (rs.map (rwV n))[k]? = some (rwV n rk) by rw [List.getElem?_map,hrk0];rfl);have hok:=hS.row _ (zY (d:=[]) ck);obtain ⟨cs3,e3,e4,_,fo⟩:=hrow.get (gY (q:=Q.getD k []) (j:=j) (by rw [hok];exact hjn));rw [Zac (by omega),zC,zG,zA,zJ,zA,F93.zno,g4,d4,F93.zyy,oO (j:=j) rfl hjn,H10.jg hob e4 e3]
  refine zex (kr:=[Ob.arr r c2].length+(k+2)) (ko:=0) (M:=M) (N:=M) (P:=M) (R:=M*M) H10 hob rfl (by show 0≠1+(k+2);omega) hrow hc2 hok hNw.len (by omega) fo (q7 (hd _ (zY ck) j)) (pV λb=>q7 (hd _ (zY ck) b)) (pV λb=>(hd3 b).nm (ht2 b).1 (ht2 b).2) (λx hx=>by
   obtain ⟨b,_,rfl⟩:=dM hx;exact ((hd _ (zY ck) j).mul (hd3 b)).nm (Nat.mul_pos (ht j).1 (ht2 b).1) (Zbk (ht j).2 (ht2 b).2)) hA4 hA5 λc' h11 nx11 hc' H11 => ?_
  obtain ⟨S2,eL⟩:=S'.put (n:=n) (o4:=o4) (o5:=o5) (ps:=ps) (T:=T) (by rw [hml];exact ck) hrk0 hc' [.arr r c2];rw [F93.zyz,um (by omega)];exact hR4 (m4-1) _ _ _ _ _ (by omega) ⟨k+1,cs'.set k c',by congr 1,by omega,by rw [<- zyh hnl hnk];exact S2,H11.cast eL⟩
 obtain rfl:k=Q.length:=by omega
 rw [Zam (by omega),Zbs (by omega),Zbi] at S';rw [Zab (by omega),zD,zV,yC,F93.zy1];refine H10.cu (l:=[rwV n r]) rfl λtb h11 nx11 H11 => ?_;refine H11.appN (k:=2) (o:=o4) (c:=1) (new:=[rwV n r]) rfl (qi.rd (l:=[rwV n r]) (n:=1) (H11.own _ (Zaj ..)) rfl) rfl rfl (by decide) (by decide) (by omega) λo4' h12 nx12 _ H12 => ?_;refine H12.cu (l:=[I (j:Int)]) rfl λtb2 h13 nx13 H13 => ?_;refine H13.appN (k:=4) (o:=o5) (c:=1) (new:=[I (j:Int)]) rfl (qi.rd (l:=[I (j:Int)]) (n:=1) (H13.own _ (Zaj ..)) rfl) rfl rfl (by decide) (by decide) (by omega) λo5' h14 nx14 _ H14 => ?_;have H15:Hp h h14 nx14 (.arr r c2::.gro o4' 1 (rs.length+1) (rs.map (rwV n)++[rwV n r])::.gro o5' 1 (ps.length+1) ((ps.map λp=>I ((p:Nat):Int))++[I (j:Int)])::(List.zipWith Ob.arr rs cs'++T)):=H14.drop.drop;have H16:=H15.perm zra;have eL:(.gro o4' 1 (rs.length+1) (rs.map (rwV n)++[rwV n r])::.gro o5' 1 (ps.length+1) ((ps.map λp=>I ((p:Nat):Int))++[I (j:Int)])::((List.zipWith Ob.arr rs cs'++[Ob.arr r c2])++T))=SL n o4' o5' (rs++[r]) (cs'++[c2]) (ps++[j]) T:=by
  unfold SL;rw [zkz (by rw [S'.lr,S'.lc]),Zae,Zae,Zbp,Zbp];rfl
 have H17:=H16.cast eL;rw [hT] at H17;rw [F93.zup,um (by omega)];refine hR (m-1) _ _ _ _ _ _ _ _ _ _ _ _ _ _ _ _ _ _ _ _ _ (by omega) ⟨i+1,o4',o5',rs++[r],cs'++[c2],uV Q j q2++[q2],ps++[j],O++[aN n lines i],by rw [Zae];rfl,by rw [Zae];rfl,by congr 1,by omega,by omega,by omega,by rw [Zae,hnl,Zbh];omega,S'.add hc2,hS.next hNw (vV ..) (mG n lines i) hqk,λf hfm q' hq' => ?_,λi' hi f hf hk => ?_,H17⟩
 .rcases List.mem_append.1 hq' with hq' | hq'
  .obtain ⟨o,ho,rfl⟩:=List.mem_map.1 hq';rw [j3 _ _ _ _ (by rw [hS.row o ho,hNw.len]),hdot f hfm o ho,hq2 f hfm,Zbg];grind
  .obtain rfl:=List.mem_singleton.1 hq';exact hq2 f hfm
 .have h2:=hk q2 (by simp);have h3:∀ o∈Q,dot o f=0:=λo ho=>by
   have:=hk _ (Zdf _ (List.mem_map_of_mem (f:=λo=>jD (at' o j) o q2) ho));rw [j3 _ _ _ _ (by rw [hS.row o ho,hNw.len]),h2,Zbg] at this
   grind
  by_cases e:i'=i
  .rw [e];exact hqb f h3 h2
  .exact hcv i' (by omega) f hf h3
end Go.Ev
namespace Go.Ev
open Go Go.Proofs
theorem Sv.nodup {n:Nat} {O Q:List (List Rat)} {ps:List Nat} (hS:Sv n O Q ps):ps.Nodup:=by
 rw [Zfb,Zdn];intro a b ha hb hab e;have ha':a<Q.length:=by have:=hS.len;omega
 have hb':b<Q.length:=by have:=hS.len;omega
 have h1:=hS.one a a ha' ha';have h2:=hS.one a b ha' hb';have e1:ps.getD a 0=ps[a]:=by rw [Zaa,List.getElem?_eq_getElem ha];rfl
 have e2:ps.getD b 0=ps[b]:=by rw [Zaa,List.getElem?_eq_getElem hb];rfl
 rw [if_pos rfl,e1] at h1;rw [if_neg (by omega),e2,<- e,h1] at h2;exact absurd h2 (by decide)
theorem zdk {n c i:Nat} {O Q:List (List Rat)} {ps:List Nat} (hS:Sv n O Q ps) (hi:i<Q.length):∀ k,k<=Q.length->sumA c (Q.getD i []) ((aC Q ps).take k)=if i<k then at' (Q.getD i []) c else 0
 | 0,_=>by rw [Zdm,if_neg (by omega)];rfl
 | k+1,hk=>by
  rw [kZ hS.len (by omega),bP,zdk hS hi k (by omega),hS.one i k hi (by omega)];by_cases e:i=k
  .subst e;rw [if_neg (by omega),if_pos rfl,if_pos (by omega)];grind
  .rw [if_neg e];by_cases c:i<k
   .rw [if_pos c,if_pos (by omega)];grind
   .rw [if_neg c,if_neg (by omega)];grind
theorem zla {n c:Nat} {O Q:List (List Rat)} {ps:List Nat} (hS:Sv n O Q ps) (hc:c<n) (hcp:c∉ps):∀ q∈Q,dot q (eO n Q ps c)=0:=λq hq=>by
 obtain ⟨i,hi⟩:=List.mem_iff_getElem?.1 hq;have hil:=(List.getElem?_eq_some_iff.1 hi).1;have hqi:Q.getD i []=q:=by rw [Zaa,hi];rfl
 have hg:=hS.row q hq
 have h2:=zho (c:=c) hg (aC Q ps) (gC n c) (gB n c) (by rw [zty hS.len];exact hS.nodup) (λx hx=>by
  have hx2:=(Zfi hx).2;exact ⟨hS.rng _ hx2,zez λe=>hcp (e ▸ hx2)⟩)
 have h3:=zdk (c:=c) hS hil Q.length (Zaf _);have hlz:(aC Q ps).length=Q.length:=by unfold aC;rw [List.length_zip,hS.len,Nat.min_self]
 rw [Zam (by omega),hqi,if_pos hil] at h3;rw [zrd hg hc,h3] at h2;rw [jU];unfold eO
 grind
theorem ze5 {R Bd r:Nat} (hr:r<=R) (hB:(R+1) ^ R<(Bd+1)*(Bd+1)) (a:Nat->Nat->Int) (ha:∀ i j,a i j = -1\/a i j=0\/a i j=1):∃ x:Nat->Int,(∃ j,j<=r/\x j≠0)/\(∀ j,(x j).natAbs<=Bd)/\∀ i,i<r->sI (r+1) (λj=>a i j*x j)=0:=by
 obtain ⟨x,hx,⟨j,hj⟩,hs,hk⟩:=hada (n:=r+1) (B:=((r+1:Nat):Int)) (by omega) ((List.range r).map λi=>(List.range (r+1)).map (a i)) (λb hb=>by
  obtain ⟨i,_,rfl⟩:=List.mem_map.1 hb;refine ⟨by simp,?_⟩;have:=zrh ((List.range (r+1)).map (a i)) λy hy=>by
   obtain ⟨j,_,rfl⟩:=List.mem_map.1 hy;exact ha i j
  simpa using this) (by simp)
 have hxe:x=(List.range (r+1)).map λj=>x.getD j 0:=by
  refine Zcw (by simp [hx]) λi h1 h2 => ?_;simp [Zaa,h1]
 refine ⟨λj=>x.getD j 0,⟨j,?_,hj⟩,λj => ?_,λi hi => ?_⟩
 .refine Classical.byContradiction λc=>hj ?_;rw [Zaa,List.getElem?_eq_none (by omega)];rfl
 .have h1:=ze2 x j;rw [Zai,Zdd] at hs;have h2:(r+1) ^ r<=(R+1) ^ R:=Zay (Nat.pow_le_pow_left (show r+1<=R+1 by omega) r) (Zdh (by omega) hr);have h3:(((r+1:Nat):Int)) ^ r=(((r+1) ^ r:Nat):Int):=by simp
  rw [h3] at hs;show (x.getD j 0).natAbs<=Bd;refine Zeh λc => ?_;have h5:=Zbk (show Bd+1<=(x.getD j 0).natAbs from c) (show Bd+1<=(x.getD j 0).natAbs from c);have h6:=Zgg (a:=x.getD j 0);omega
 .have:=hk _ (List.mem_map.2 ⟨i,List.mem_range.2 hi,rfl⟩);rw [hxe,m6] at this;exact this
theorem zlb {F:Nat->Int} {Bd:Nat}:∀ {k:Nat},(∀ j,j<k->(F j).natAbs<=Bd)->(sI k F).natAbs<=k*Bd
 | 0,_=>by simp [sI]
 | k+1,h=>by
  have h1:=zlb (k:=k) λj hj=>h j (by omega);have h2:=h k (by omega);rw [sI,Zbf,Zcv];have:=Zeb (sI k F) (F k);omega
theorem zdl (q:Rat) (x:Int):(sgI q*x).natAbs<=x.natAbs:=by
 rcases ze4 q with e | e | e <;> rw [e] <;> omega
structure Tv (n:Nat) (O P:List (List Rat)) (ps:List Nat):Prop where
 len:ps.length=P.length
 olen:O.length=P.length
 row:∀ q∈P,q.length=n
 orow:∀ o∈O,o.length=n
 osg:∀ o∈O,∀ j,Sg (at' o j)
 rng:∀ p∈ps,p<n
 one:∀ a,a<P.length->at' (P.getD a []) (ps.getD a 0)=1
 low:∀ a b,a<P.length->b<a->at' (P.getD a []) (ps.getD b 0)=0
 ker:∀ a,a<P.length->∀ f:List Rat,f.length=n->(∀ b,b<=a->dot (O.getD b []) f=0)->dot (P.getD a []) f=0
theorem Tv.nil (n:Nat):Tv n [] [] []:=⟨rfl,rfl,by simp,by simp,by simp,by simp,λa h=>by simp at h,λa b h=>by simp at h,λa h=>by simp at h⟩
abbrev tu (k:Nat) (ps:List Nat) (j i:Nat):Nat:=if i<k then ps.getD i 0 else j
theorem Tv.colR {n k j:Nat} {O P:List (List Rat)} {ps:List Nat} (h:Tv n O P ps) (hk:k<=P.length) (hj:j<n) (i:Nat):tu k ps j i<n:=by
 unfold tu;by_cases q:i<k
 .rw [if_pos q];exact h.rng _ (zY (by rw [h.len];omega))
 .rw [if_neg q];exact hj
theorem Tv.pl {n k j:Nat} {O P:List (List Rat)} {ps:List Nat} (h:Tv n O P ps) (hk:k<=P.length) (hj:j<n) (x:Nat->Rat) {v:List Rat} (hv:v.length=n):dot v (plF n (tu k ps j) x (k+1))=sR k (λb=>at' v (ps.getD b 0)*x b)+at' v j*x k:=by
 rw [kI hv _ λi _=>h.colR hk hj i,sR]
 congr 1
 .exact yW λb hb=>by rw [tu,if_pos hb]
 .rw [tu,if_neg (Zcf _)]
theorem uQ {k i:Nat} {F x:Nat->Rat} (h:∀ b,b<k->F b=(if i=b then 1 else 0)*x b):sR k F=if i<k then x i else 0:=by
 rw [yW h,ze3]
theorem uP {k:Nat} {F:Nat->Rat} (h:∀ b,b<k->F b=0):sR k F=0:=by
 rw [uQ (i:=k) (x:=F) λb hb=>by rw [h b hb,if_neg (by omega),Zbm],if_neg (Zcf _)]
theorem Tv.sol {n k j R Bd:Nat} {O P:List (List Rat)} {ps:List Nat} (h:Tv n O P ps) (hk:k<=P.length) (hj:j<n) (hR:k<=R) (hB:(R+1) ^ R<(Bd+1)*(Bd+1)):∃ x:Nat->Int,x k≠0/\(∀ i,(x i).natAbs<=Bd)/\∀ b,b<k->dot (O.getD b []) (plF n (tu k ps j) (λi=>(x i:Rat)) (k+1))=0:=by
 obtain ⟨x,⟨b,hb,hb0⟩,hx,hz⟩:=ze5 hR hB (λi c=>sgI (at' (O.getD i []) (tu k ps j c))) λi c=>ze4 _;have hO:∀ b,b<k->dot (O.getD b []) (plF n (tu k ps j) (λi=>(x i:Rat)) (k+1))=0:=λi hi=>by
  have hm:O.getD i []∈O:=zY (by rw [h.olen];omega);rw [kI (h.orow _ hm) _ λi _=>h.colR hk hj i];have:=hz i hi;rw [show (0:Rat)=((0:Int):Rat) from rfl,<- this,<- vC];exact yW λc _=>by rw [Zcl,(h.osg _ hm _).int]
 refine ⟨x,λe=>hb0 ?_,hx,hO⟩;have down:∀ d i,i<=k->k<=i+d->x i=0:=by
  intro d
  induction d with
  | zero =>
   intro i h1 h2;obtain rfl:i=k:=by omega
   exact e
  | succ d ih =>
   intro i h1 h2;by_cases c:k<=i+d
   .exact ih i h1 c
   have hil:i<P.length:=by omega
   have hP:=h.ker i hil _ (uK _) λb hb=>hO b (by omega);rw [h.pl hk hj _ (h.row _ (zY hil)),e,uQ (i:=i) (x:=λb=>(x b:Rat)) λb hb => ?_,if_pos (by omega)] at hP
   .have h0:((0:Int):Rat)=0:=rfl;rw [h0,Zbg,Zeu] at hP;exact Classical.byContradiction λq=>wH q hP
   .rcases Zgw b i with q | q | q
    .rw [h.low i b hil q,if_neg (by omega)]
    .subst q;rw [h.one _ hil,if_pos rfl]
    .rw [if_neg (by omega),ih b (by omega) (by omega),show ((0:Int):Rat)=0 from rfl];grind
 exact down (k-b) b hb (by omega)
theorem zhx {z w:Int} {q:Rat} {M:Nat} (e:q*(w:Rat)=(z:Rat)) (hz:z.natAbs<=M):Dn w.natAbs M q:=by
 by_cases s:0<w
 .exact ⟨z,by rw [show ((w.natAbs:Nat):Int)=w by omega];exact e,hz⟩
 .exact ⟨-z,by rw [show ((w.natAbs:Nat):Int) = -w by omega,Zct,Zct];grind,by omega⟩
structure Rt (n:Nat) (O P:List (List Rat)) (ps:List Nat) (r0:List Rat) (k:Nat) (r:List Rat):Prop where
 len:r.length=n
 zero:∀ b,b<k->at' r (ps.getD b 0)=0
 eq:∀ f:List Rat,f.length=n->(∀ b,b<k->dot (O.getD b []) f=0)->dot r f=dot r0 f
theorem Rt.start {n:Nat} {O P:List (List Rat)} {ps:List Nat} {r0:List Rat} (h:r0.length=n):Rt n O P ps r0 0 r0:=⟨h,λb h=>by omega,λ_ _ _=>rfl⟩
theorem Rt.next {n k:Nat} {O P:List (List Rat)} {ps:List Nat} {r0 r:List Rat} (hT:Tv n O P ps) (h:Rt n O P ps r0 k r) (hk:k<P.length):Rt n O P ps r0 (k+1) (jD (at' r (ps.getD k 0)) r (P.getD k [])):=by
 have hl:r.length=(P.getD k []).length:=by rw [h.len,hT.row _ (zY hk)]
 refine ⟨by rw [jA hl,h.len],λb hb => ?_,λf hf hO => ?_⟩
 .rw [yY hl];by_cases e:b=k
  .rw [e,hT.one k hk];grind
  .rw [h.zero b (by omega),hT.low k b hk (by omega)];grind
 .rw [j3 _ _ _ _ hl,hT.ker k hk f hf λb hb=>hO b (by omega),h.eq f hf λb hb=>hO b (by omega),Zbg];grind
theorem Rt.col {n k R Bd:Nat} {O P:List (List Rat)} {ps:List Nat} {r0 r:List Rat} (hT:Tv n O P ps) (h:Rt n O P ps r0 k r) (h0:r0.length=n) (hs:∀ j,Sg (at' r0 j)) (hk:k<=P.length) (hR:k<=R) (hB:(R+1) ^ R<(Bd+1)*(Bd+1)) (hB1:1<=Bd) (j:Nat):∃ t,1<=t/\t<=Bd/\Dn t ((k+1)*Bd) (at' r j):=by
 rcases Zdb j n with hj | hj
 case inr=>exact ⟨1,Zaf _,hB1,by rw [jH (by rw [h.len];exact hj)];exact Dn.zero _ _⟩
 obtain ⟨x,hxk,hx,hO⟩:=hT.sol hk hj hR hB;have e:=h.eq _ (uK _) hO;rw [hT.pl hk hj _ h.len,hT.pl hk hj _ h0,uP λb hb=>by rw [h.zero b hb,Zbm],Zgd] at e;refine ⟨(x k).natAbs,by omega,hx k,zhx (z:=sI k (λb=>sgI (at' r0 (ps.getD b 0))*x b)+sgI (at' r0 j)*x k) ?_ ?_⟩
 .rw [e,Zfh,<- vC,Zcl,(hs j).int]
  congr 1
  exact yW λb _=>by rw [Zcl,(hs _).int]
 .have h1:=zlb (F:=λb=>sgI (at' r0 (ps.getD b 0))*x b) (k:=k) λb _=>Zay (zdl _ _) (hx b);have h2:=Zay (zdl (at' r0 j) (x k)) (hx k);have:=Zeb (sI k (λb=>sgI (at' r0 (ps.getD b 0))*x b)) (sgI (at' r0 j)*x k);rw [Zbf,Zcv];omega
theorem Tv.add {n p:Nat} {O P:List (List Rat)} {ps:List Nat} {r0 r:List Rat} (hT:Tv n O P ps) (h:Rt n O P ps r0 P.length r) (h0:r0.length=n) (hs:∀ j,Sg (at' r0 j)) (hp:p<n) (hv:at' r p≠0):Tv n (O++[r0]) (P++[yQ (at' r p)⁻¹ r]) (ps++[p]):=by
 have hl:=hT.len;have ol:=hT.olen;have ga:∀ {α:Type} {l:List α} {x d:α} {a:Nat},a<l.length->(l++[x]).getD a d=l.getD a d:=λh=>by
  rw [Zaa,Zaa,List.getElem?_append_left h]
 have gl:∀ {α:Type} {l:List α} {x d:α} {a:Nat},a=l.length->(l++[x]).getD a d=x:=λh=>by
  subst h;rw [Zaa,List.getElem?_append_right (Zaf _),Zcd];rfl
 refine ⟨by simp [hl],by simp [ol],λq hq => ?_,λo ho => ?_,λo ho => ?_,λq hq => ?_,λa ha => ?_,λa b ha hb => ?_,λa ha f hf hO => ?_⟩
 .rcases List.mem_append.1 hq with q1 | q1
  .exact hT.row _ q1
  .rw [List.mem_singleton.1 q1,uA];exact h.len
 .rcases List.mem_append.1 ho with q1 | q1
  .exact hT.orow _ q1
  .rw [List.mem_singleton.1 q1];exact h0
 .rcases List.mem_append.1 ho with q1 | q1
  .exact hT.osg _ q1
  .rw [List.mem_singleton.1 q1];exact hs
 .rcases List.mem_append.1 hq with q1 | q1
  .exact hT.rng _ q1
  .rw [List.mem_singleton.1 q1];exact hp
 .rw [Zae,Zbh] at ha;by_cases e:a<P.length
  .rw [ga e,ga (by omega)];exact hT.one a e
  .rw [gl (by omega),gl (by omega),gT];grind
 .rw [Zae,Zbh] at ha;rw [ga (l:=ps) (by omega)];by_cases e:a<P.length
  .rw [ga e];exact hT.low a b e hb
  .rw [gl (by omega),gT,h.zero b (by omega),Zbm]
 .rw [Zae,Zbh] at ha;by_cases e:a<P.length
  .rw [ga e];exact hT.ker a e f hf λb hb=>by have:=hO b hb;rwa [ga (by omega)] at this
  .have e2:a=P.length:=by omega
   rw [gl e2,uT,h.eq f hf λb hb=>by have:=hO b (by omega);rwa [ga (by omega)] at this];have:=hO a (Zaf _);rw [gl (by omega)] at this;rw [this,Zbg]
end Go.Ev
namespace Go.Ev
open Go Go.Proofs
variable {B:Nat}
set_option maxRecDepth 100000
abbrev V (m:Nat):AV:=.int .u32 (m:Int)
abbrev C8 (d:Nat):AV:=.int .u8 ((48+d:Nat):Int)
structure Wr (l l':List AV) (off nd m u:Nat):Prop where
 len:l'.length=l.length
 get:∀ i,l'[i]? = if off+m<=i/\i<off+nd then some (C8 (u / 10 ^ (off+nd-1-i)%10)) else l[i]?
theorem Wr.zero (l:List AV) (off nd u:Nat):Wr l l off nd nd u:=⟨rfl,λi=>by rw [if_neg (by omega)]⟩
theorem Wr.one {l l':List AV} {off nd p u e d:Nat} (h:Wr l l' off nd (p+1) u) (ho:off+nd<=l.length) (hp:p+1<=nd) (he:nd-(p+1)=e) (hd:d=u / 10 ^ e%10):Wr l (l'.set (off+p) (C8 d)) off nd p u:=by
 refine ⟨by rw [Zan];exact h.len,λi => ?_⟩;have hl:=h.len;by_cases c:i=off+p
 .subst c;rw [List.getElem?_set_self (by omega),if_pos (by omega),show off+nd-1-(off+p)=e by omega,hd]
 .rw [List.getElem?_set_ne (by omega),h.get i];by_cases c2:off+(p+1)<=i/\i<off+nd
  .rw [if_pos c2,if_pos (by omega)]
  .rw [if_neg c2,if_neg (by omega)]
theorem Hp.b2s {h0 h:T Blk} {nx:Pa} {L:List Ob} {k n off:Nat} {id:Pa} {cap:Option Nat} {l:List AV} {s:List UInt8} {op:AV->OP} (H:Hp h0 h nx L) (hk:L[k]? = some (.arr id l)) (hle:off+n<=l.length) (he:b2sA ((l.drop off).take n)=some s):sB2s (.sl id off n cap 1) h op=op (.str s):=by
  obtain ⟨o,t,h1,h2⟩:=H.own _ (Zad hk)
  show qc (T.get .no id h) (λ_ m t=>bif Nat.ble (off+n) m then (match b2sA (yU t off n) with
          | some s=>op (.str s)
          | none=>.no 21) else .no 21) (.no 21)=_
  rw [h1]
  show (bif Nat.ble (off+n) l.length then (match b2sA (yU t off n) with
          | some s=>op (.str s)
          | none=>.no 21) else .no 21)=_
  rw [Zag hle,cond_true,wY h2 hle,he]
theorem zrm {n:Nat} {l:List AV} {h:T Blk} {op:AV->OP} (hl:n<=l.length):zF n (.fp l) h op=op (.agg (l.take n)):=by
 show (bif Nat.ble n l.length then op (.agg (l.take n)) else .no 8)=_;rw [Zag hl];rfl
theorem zt4 (op:KW3->OP) (h:T Blk) (nx:Pa) (k:KW3):sGW (.bool false) false op h nx k=op k:=nr rfl
theorem qi.zt5 {N:Pa->Prop} {O:AV->Prop} {h:T Blk} {id:Pa} {l:List AV} {cap:Option Nat} {n e:Nat} (H:qi h id l) (hid:N id) (hcap:zkh n cap) (hn:n*e<=l.length) (hf:∀ v∈l,fP v=true):Frz True N O h (.sl id 0 n cap e) (.lst e n (l.take (n*e))):=by
 obtain ⟨op,t,h1,h2⟩:=H;refine .sl _ _ _ _ _ op _ t _ hid hcap h1 (by omega) (by rw [Zah];omega) (List.all_eq_true.2 λv hv=>fP.uz (hf v (Zbt hv))) λi v hi => ?_;rw [List.getElem?_take] at hi;split at hi
 .have:=yK t 0 l.length i (List.getElem?_eq_some_iff.1 hi).1;rw [h2,hi] at this;rw [<- Option.some.inj this];exact zR (hf v (Zad hi))
 .cases hi
theorem zrn {M:List (List Rat)} {tid p:Pa} {rs:List Pa} {L:List Ob} {w:Nat} {h0 h:T Blk} {nx:Pa} {K:Kw Prop} (H:PM h0 h nx tid rs w L M) (hM:1<=M.length) (hK:K (I (w:Int)) h nx=.ok True):(CS Tryz.prog B).fn 196 p [.sl tid 0 M.length none 1] h nx K=.ok True:=by
 refine zN zP yD 100 λhf => ?_;obtain ⟨r,hr,ht⟩:=H.tab (y:=0) (by omega);have ix0:∀ op:AV->OP,zL 1 (.sl tid 0 M.length none 1) (I 0) op=op (.ptr tid 0):=λop=>by
  show zL 1 _ (I ((0:Nat):Int)) op=_;rw [qP (show 0<M.length by omega)]
 rw [xg.go,xg.t9,zA,xg.zy,zA,zA,xg.zx,yJ,qx,Zab (by omega),zB,xg.v2,zD,zG,zA,xg.qg,ix0,ht,rv9,yJ];simp only [zE,zM];rw [xg.ret];exact hK
theorem ze6 {M:List (List Rat)} {tid:Pa} {rs:List Pa} {L:List Ob} {w k:Nat} {h0 h hX:T Blk} {nx:Pa} (H:PM h0 h nx tid rs w L M) (hk:k<=M.length) (hX1:T.get .no tid hX=.no) (hX2:∀ r∈rs,T.get .no r hX=.no):tC hX h (.sl tid 0 k none 1) (j6 (M.take k)):=by
 obtain ⟨h1,h2,h3⟩:=H;obtain ⟨op,t,e1,e2⟩:=h3.own _ (Zaj ..);have hl:((M.take k).map uX).length=k:=by rw [Zai,Zah];omega
 have hrl:(rs.map (rv9 w)).length=M.length:=by rw [Zai];exact h1
 have:j6 (M.take k)=.lst 1 k ((M.take k).map uX):=by
  show AV.lst 1 (M.take k).length _=_;rw [Zah,Zce hk]
 rw [this];refine .sl _ _ _ _ _ op _ t _ hX1 trivial e1 (by omega) (by omega) (List.all_eq_true.2 λv hv=>by obtain ⟨x,_,rfl⟩:=List.mem_map.1 hv;rfl) λi v hi => ?_;have hik:=(List.getElem?_eq_some_iff.1 hi).1;have hiM:i<M.length:=by omega
 have hMi:M[i]? = some M[i]:=List.getElem?_eq_getElem hiM;obtain ⟨ri,hri⟩:∃ ri,rs[i]? = some ri:=⟨_,List.getElem?_eq_getElem (show i<rs.length by omega)⟩;rw [List.getElem?_map,List.getElem?_take_of_lt (by omega),hMi] at hi;obtain rfl:=Option.some.inj hi;have hc:=yK t 0 (rs.map (rv9 w)).length i (by omega);rw [e2,List.getElem?_map,hri] at hc;rw [<- Option.some.inj hc];have hob:=pD (b:=L) (u6 hri hMi);have hown:=h3.own _ (Zao _ (Zad hob));have hlw:=h2 _ (Zau hiM);have:=qi.zt5 (N:=λid=>T.get .no id hX=.no) (O:=λv=>(∃ id off,v=.ptr id off/\T.get .no id hX≠.no)\/(∃ id,v=.yld id/\T.get .no id hX≠.no)\/(∃ id,v=.map id/\T.get .no id hX≠.no)\/(∃ id off ln cap esz,v=.sl id off ln cap esz/\T.get .no id hX≠.no)) (n:=w) (e:=1) (cap:=none) hown (hX2 _ (Zad hri)) trivial (by rw [Zai];omega) λv hv=>by obtain ⟨x,_,rfl⟩:=List.mem_map.1 hv;rfl
 rw [Zam (by rw [Zai];omega)] at this;show Frz _ _ _ _ (.sl _ 0 w none 1) (.lst 1 M[i].length (M[i].map T9));rw [hlw];exact this
theorem PM.frz {M:List (List Rat)} {tid:Pa} {rs:List Pa} {L:List Ob} {w k:Nat} {h0 h:T Blk} {nx:Pa} (H:PM h0 h nx tid rs w L M) (hk:k<=M.length):tC h0 h (.sl tid 0 k none 1) (j6 (M.take k)) :=
 ze6 H hk (H.2.2.off tid (List.mem_flatMap.2 ⟨_,Zaj ..,by simp [Ob.names]⟩)) λr hr=>by
  obtain ⟨i,hi⟩:=List.mem_iff_getElem?.1 hr;have hil:=(List.getElem?_eq_some_iff.1 hi).1;have hMi:M[i]? = some (M[i]'(by rw [<- H.1];exact hil)):=List.getElem?_eq_getElem _;exact H.2.2.off r (List.mem_flatMap.2 ⟨Ob.arr r _,Zao _ (Zad (pD (u6 hi hMi))),by simp [Ob.names]⟩)
theorem zlc {h0:T Blk} {nx:Pa} {L:List Ob}:∀ (rs:List Pa) (M:List (List Rat)) (h:T Blk),rs.length=M.length->Hp h0 h nx (jS rs M++L)->∃ h',kO h' h/\(∀ r∈rs,T.get .no r h'=.no)/\Hp h0 h' nx L
 | [],[],h,_,H=>⟨h,λ_ _=>rfl,by simp,H⟩
 | r::rs,l::M,h,hl,H=>by
  have H1:Hp h0 h nx (.arr r (l.map T9)::(jS rs M++L)):=H;obtain ⟨h',k1,k2,k3⟩:=zlc rs M _ (by simpa using hl) H1.zqr;have nr:T.get .no r (T.set .no .no r h)=.no:=T.get_set_same _ _ _ _;refine ⟨h',λj hj => ?_,λx hx => ?_,k3⟩
  .have e:=k1 j hj;have hne:j≠r:=λq=>by rw [<- e,q,nr] at hj;exact hj rfl
   rw [<- e,T.zw _ _ _ _ _ hne]
  .rcases List.mem_cons.1 hx with rfl | hx
   .refine Classical.byContradiction λc=>c ?_;rw [<- k1 _ c];exact nr
   .exact k2 x hx
 | [],_::_,_,h,_=>by simp at h
 | _::_,[],_,h,_=>by simp at h
theorem PM.zwa {M:List (List Rat)} {tid:Pa} {rs:List Pa} {L:List Ob} {w:Nat} {h0 h:T Blk} {nx:Pa} (H:PM h0 h nx tid rs w L M):∃ h',kO h' h/\Hp h0 h' nx L/\T.get .no tid h'=.no/\∀ r∈rs,T.get .no r h'=.no:=by
 obtain ⟨h',k1,k2,k3⟩:=zlc rs M _ H.1 H.2.2.zqr;have nr:T.get .no tid (T.set .no .no tid h)=.no:=T.get_set_same _ _ _ _;refine ⟨h',λj hj => ?_,k3,Classical.byContradiction λc=>c ?_,k2⟩
 .have e:=k1 j hj;have hne:j≠tid:=λq=>by rw [<- e,q,nr] at hj;exact hj rfl
  rw [<- e,T.zw _ _ _ _ _ hne]
 .rw [<- k1 _ c];exact nr
def zro (j i:Nat) (li lr:List Rat) (M:List (List Rat)) (r:Nat):Prop :=
 Qd (li.getD j 0)⁻¹/\(∀ q∈li.map (· * (li.getD j 0)⁻¹),Qd q)/\∀ l∈((M.set i lr).set r li).set r (li.map (· * (li.getD j 0)⁻¹)),∀ q∈li.map (· * (li.getD j 0)⁻¹),Qd (l.getD j 0*q)
theorem bW {M0:List (List Rat)} {w:Nat} (Good:Nat->List (List Rat)->List Nat->Prop) (hw1:1<=w) (hw:w<=1000) (hM1:1<=M0.length) (hM:M0.length<=1000) (hrow:∀ l∈M0,l.length=w) (g0:Good 0 M0 [])
  (sz:∀ j M P,Good j M P->j<w->P.length<M.length->M.length=M0.length->∀ l∈M,∀ q∈l,Qd q)
  (step0:∀ j M P,Good j M P->j<w->P.length<M.length->M.length=M0.length->(∀ i' l,P.length<=i'->M[i']? = some l->l.getD j 0=0)->Good (j+1) M P)
  (step1:∀ j M P i li lr,Good j M P->j<w->P.length<M.length->P.length<=i->M.length=M0.length->M[i]? = some li->M[P.length]? = some lr->li.getD j 0≠0->Good (j+1) (rP i P.length j li lr M) (P++[j])/\zro j i li lr M P.length) :
  Pure Tryz.prog B 190 [j6 M0] (λv=>∃ j M P,Good j M P/\M.length=M0.length/\P.length<=M.length/\(j=w\/P.length=M.length)/\v=.tup [j6 (M.take P.length),.lst 1 P.length (P.map D)]):=by
 refine zT λh nx K H0 hK=>zN zP yD 100010 λhf => ?_;rw [zb.go,zb.t84,zA,zb.zy,zA,zb.zx];refine zq4 H0 hw1 (by omega) hrow (by omega) λo rs h1 nx1 hrs H1 => ?_;obtain ⟨tid,rfl⟩:∃ id,o=some id:=by
  cases o with
  | none=>obtain ⟨_,hz⟩:=H1.own _ (Zaj ..);omega
  | some id=>exact ⟨id,rfl⟩
 have H2:=H1.oM.ak 1;have H3:=H2.perm ((List.Perm.swap _ _ _).trans ((Zdl _ _).symm.cons _));have hP0:PM h h1 nx1 tid rs w [.gro none 1 0 []] M0:=⟨hrs,hrow,H3⟩;rw [show uy (some tid) 1 M0.length=.sl tid 0 M0.length none 1 from rfl,zA,zb.jb,zA,zA,zb.dw,zJ];refine zb.zuo (λm x3 x4 h' nx'=>∃ (j:Nat) (M:List (List Rat)) (P:List Nat) (o:Option Pa) (rs:List Pa),x3=uy o 1 P.length/\x4=I (j:Int)/\m+j=w/\M.length=M0.length/\P.length<=M.length/\Good j M P/\PM h h' nx' tid rs w [.gro o 1 P.length (P.map D)] M) (m:=w) (by omega) ⟨0,M0,[],none,rs,rfl,rfl,rfl,rfl,Zef _,g0,hP0⟩ ?_;rintro m z3 z4 z5 z6 z7 z8 z9 z10 z11 z12 z13 z14 z15 z16 z17 z18 h3 nx3 R ⟨j,M,P,o,rs,rfl,rfl,hm,hMl,hPl,hg,H⟩ hR;have hlen:∀ KK:AV->OP,sLen (uy o 1 P.length) KK=KK (I (P.length:Int)):=λKK=>by
  cases o with
  | some id=>exact yJ ..
  | none =>
   obtain ⟨_,e⟩:P.map D=[]/\P.length=0:=H.2.2.own (.gro none 1 P.length (P.map D)) (by simp);rw [e];exact yI ..
 have stop:(j=w\/P.length=M.length)->∀ {y12:AV},y12=.bool false->IR.run zb.t5 (CS Tryz.prog B) 100010 ((fnO zb.res K).blk 0 (IR.run zb.t80 (CS Tryz.prog B) 100010 (fnO zb.res K) (zo zb.res K))) (IR.run zb.t74 (CS Tryz.prog B) 100010 ((fnO zb.res K).blk 0 (IR.run zb.t80 (CS Tryz.prog B) 100010 (fnO zb.res K) (zo zb.res K))) R) (zb.fr (.sl tid 0 M0.length none 1) .za .za (uy o 1 P.length) (I (j:Int)) z5 z6 z7 z8 z9 z10 z11 y12 z13 z14 z15 z16 z17 z18) h3 nx3=.ok True:=by
  rintro he _ rfl;rw [zb.t5,zB,zb.v12,zD,zV,yC,zb.t80,zA,zb.zj0,hlen,qbb (by omega)];simp only [zE,zM];rw [zb.ret];refine hK _ _ _ _ _ H.2.2 (jP (H.frz hPl) (H.2.2.zej (k:=1+M.length) ?_ λv hv=>by obtain ⟨x,_,rfl⟩:=List.mem_map.1 hv;rfl)) ⟨j,M,P,hg,hMl,hPl,he,rfl⟩;have hrl:(jS rs M).length=M.length:=by unfold jS;rw [Zdt,H.1,Nat.min_self]
  rw [Zdp,List.getElem?_cons_succ,List.getElem?_append_right (by omega),hrl,Zcd];rfl
 rw [zb.t75,zA,zA,zb.rD,zb.r4_0,zb.zdr,<- hMl];refine zrn H (by omega) ?_;rw [zb.r4_1,zb.zds,jq];by_cases cj:j<w
 case neg =>
  rw [Zab (by omega)];simp only [jF];rw [zZ,hMl];exact stop (.inl (by omega)) rfl
 rw [Zac (by omega)];simp only [yL];rw [hlen,yJ,jq,zW];by_cases cP:P.length<M.length
 case neg =>
  rw [Zab (by omega),hMl];exact stop (.inr (by omega)) rfl
 rw [Zac (by omega),zb.t5,zB,zb.v12,zC,zG,zb.t74,zA,zJ,zA,zb.fU,hlen,zA,zJ];refine ztw H hPl cj (by omega) (Zaf _) λi x13 hri hiM hz hnz => ?_;by_cases ci:i<M.length
 case neg =>
  obtain rfl:i=M.length:=by omega
  rw [zb.t69,zA,zA,zb.au,yJ,qx,Zac rfl,zB,zb.v14,zC,zV,yC,zb.zjz,um (by omega),hMl];exact hR (m-1) _ _ _ _ _ _ _ _ _ _ _ _ _ _ _ _ _ _ (by omega) ⟨j+1,M,P,o,rs,rfl,by congr 1,by omega,hMl,hPl,step0 j M P hg cj cP hMl λi' l h1 h2=>hz i' l h1 (List.getElem?_eq_some_iff.1 h2).1 h2,H⟩
 have hli:M[i]? = some M[i]:=List.getElem?_eq_getElem ci;have hlr:M[P.length]? = some M[P.length]:=List.getElem?_eq_getElem cP;obtain ⟨hg2,hs1,hs2,hs3⟩:=step1 j M P i _ _ hg cj cP hri hMl hli hlr (hnz _ hli);refine zyg H hli hlr (hnz _ hli) cj (by omega) (by omega) (Zaf _) (sz j M P hg cj cP hMl) hs1 hs2 hs3 (by omega) λo' rs' h4 nx4 x5 x6 x7 x8 x9 x10 x11 x12 x13 x14 x15 x16 x17 x18 H4 => ?_;rw [zb.zjz,um (by omega),hMl];have hml:(rP i P.length j M[i] M[P.length] M).length=M.length:=by unfold rP tV;rw [Zde,Zan,Zan,Zan]
 exact hR (m-1) _ _ _ _ _ _ _ _ _ _ _ _ _ _ _ _ _ _ (by omega) ⟨j+1,_,P++[j],o',rs',by rw [Zae];rfl,by congr 1,by omega,by rw [hml,hMl],by rw [Zae,Zbh,hml];exact cP,hg2,by rw [Zae];exact H4⟩
end Go.Ev
namespace Go.Ev
open Go Go.Proofs
def Od (x:Int):Prop:=x = -1\/x=1
def hfI:List Int->List Int->List Int
 | x::a,y::b=>(x-y) / 2::hfI a b
 | _,_=>[]
theorem zcg:∀ (a b:List Int) w s,a.length=b.length->(∀ x∈a,Od x)->(∀ x∈b,Od x)->wdg a w s=2*wdg (hfI a b) w s+wdg b w s
 | [],[],_,_,_,_,_=>by simp only [wdg,hfI];rfl
 | x::a,y::b,_,[],_,_,_=>by simp only [wdg,hfI];rfl
 | x::a,y::b,w,false::s,h,ha,hb=>zcg a b (λt=>w (false::t)) s (by simpa using h) (λz hz=>ha z (Zao _ hz)) λz hz=>hb z (Zao _ hz)
 | x::a,y::b,w,true::s,h,ha,hb=>by
  have ih:=zcg a b (λt=>w (true::t)) s (by simpa using h) (λz hz=>ha z (Zao _ hz)) λz hz=>hb z (Zao _ hz);have e:2*((x-y) / 2)=x-y:=by
   rcases ha x (Zaj ..) with rfl | rfl <;> rcases hb y (Zaj ..) with rfl | rfl <;> decide
  show x*w (false::s)-wdg a (λt=>w (true::t)) s=2*((x-y) / 2*w (false::s)-wdg (hfI a b) (λt=>w (true::t)) s)+(y*w (false::s)-wdg b (λt=>w (true::t)) s);rw [ih];have e2:2*((x-y) / 2*w (false::s))=(x-y)*w (false::s):=by rw [<- Int.mul_assoc,e]
  grind
 | [],_::_,_,_,h,_,_=>by simp at h
 | _::_,[],_,_,h,_,_=>by simp at h
theorem ze7:∀ n (v w:List Bool->Int),(∀ s:List Bool,s.length=n->v s=2*w s)->ipf n v v=4*ipf n w w
 | 0,v,w,h=>by simp only [ipf];rw [h [] rfl];grind
 | n+1,v,w,h=>by
  simp only [ipf];rw [ze7 n (λt=>v (false::t)) (λt=>w (false::t)) λs hs=>h _ (by simp [hs]),ze7 n (λt=>v (true::t)) (λt=>w (true::t)) λs hs=>h _ (by simp [hs])]
  grind
theorem zt6 (b:List Int) (v w:List Bool->Int) (s:List Bool) (h:∀ t:List Bool,t.length=s.length->v t=2*w t):wdg b v s=2*wdg b w s:=by
 have e:=mB 2 b w v s;rw [vS b _ s λt ht=>by rw [h t ht];omega] at e;omega
theorem zjq:∀ l:List Int,(∀ x∈l,Od x)->sqV l=(l.length:Int)
 | [],_=>rfl
 | x::l,h=>by
  have:=zjq l λy hy=>h y (Zao _ hy);rw [sqV,Zbd,this];rcases h x (Zaj ..) with rfl | rfl <;> omega
theorem zld {n:Nat} (hn:4<=n) {b0:List Int} (h0:b0.length=n) (o0:∀ x∈b0,Od x):∀ L:List (List Int),(∀ a∈L,a.length=n/\∀ x∈a,Od x)->∃ w:List Bool->Int,(∃ s:List Bool,s.length=n/\w s≠0)/\(∀ s:List Bool,s.length=n->w s≠0->s.count true<=L.length+1)/\ipf n w w*4 ^ L.length<=(n:Int) ^ (L.length+1)/\∀ a,a=b0\/a∈L->∀ s:List Bool,s.length=n->wdg a w s=0
 | [],_=>by
  obtain ⟨w,h1,h2,h3,h4⟩:=zjn (n:=n) (B:=(n:Int)) (by omega) [b0] λa ha=>by
   rw [List.mem_singleton.1 ha,zjq b0 o0,h0];exact ⟨rfl,Zgk _⟩
  refine ⟨w,h1,h2,?_,λa ha=>h4 a ?_⟩
  .show ipf n w w*1<=_;rw [Int.mul_one];exact h3
  .rcases ha with rfl | ha
   .exact List.mem_singleton.2 rfl
   .cases ha
 | a::L,h=>by
  obtain ⟨w,⟨s0,hs0,hw0⟩,hd,hi,hk⟩:=zld hn h0 o0 L λb hb=>h b (Zao _ hb);obtain ⟨hal,hao⟩:=h a (Zaj ..);have hlen:∀ b,b=b0\/b∈L->b.length=n:=λb hb=>hb.elim (λe=>e ▸ h0) λhb=>(h b (Zao _ hb)).1;have p4:(4:Int) ^ (a::L).length=4 ^ L.length*4:=Int.pow_succ ..;have pn:(n:Int) ^ ((a::L).length+1)=(n:Int) ^ (L.length+1)*(n:Int):=Int.pow_succ ..;have pp:0<=(n:Int) ^ (L.length+1):=Zfo (by omega);by_cases c:∀ s:List Bool,s.length=n->wdg a w s=0
  .refine ⟨w,⟨s0,hs0,hw0⟩,λs hs e=>Zgv (hd s hs e),?_,λb hb => ?_⟩
   .rw [p4,pn,<- Int.mul_assoc];have h1:=Zcu hi (show (0:Int)<=4 by decide);have h2:=Zdr (show (4:Int)<=(n:Int) by omega) pp;omega
   .rcases hb with rfl | hb
    .exact hk b (.inl rfl)
    .rcases List.mem_cons.1 hb with rfl | hb
     .exact c
     .exact hk b (.inr hb)
  .obtain ⟨s1,h1,hw1⟩:∃ s:List Bool,s.length=n/\wdg a w s≠0:=by
    refine Classical.byContradiction λe=>c λs hs=>Classical.byContradiction λq=>e ⟨s,hs,q⟩
   have hf:∀ s:List Bool,s.length=n->wdg a w s=2*wdg (hfI a b0) w s:=λs hs=>by
    rw [zcg a b0 w s (by rw [hal,h0]) hao o0,hk b0 (.inl rfl) s hs];omega
   refine ⟨wdg (hfI a b0) w,⟨s1,h1,λe=>hw1 (by rw [hf s1 h1,e];rfl)⟩,λs hs e => ?_,?_,λb hb s hs => ?_⟩
   .obtain ⟨t,t1,t2,t3⟩:=cZ (hfI a b0) w s e;have:=hd t (by rw [t1];exact hs) t2;rw [Zbd];omega
   .have e1:=zre a w;rw [hal,zjq a hao,hal,ze7 n _ _ hf] at e1;rw [p4,pn];have q4:(0:Int)<=4 ^ L.length:=Zfo (by decide);have h1:=Zcu e1 q4;have h2:=Zdr hi (show (0:Int)<=(n:Int) by omega);have e2:4*ipf n (wdg (hfI a b0) w) (wdg (hfI a b0) w)*4 ^ L.length=ipf n (wdg (hfI a b0) w) (wdg (hfI a b0) w)*(4 ^ L.length*4):=by grind
    have e3:(n:Int)*ipf n w w*4 ^ L.length=(n:Int)*(ipf n w w*4 ^ L.length):=Int.mul_assoc ..;have e4:(n:Int)*(n:Int) ^ (L.length+1)=(n:Int) ^ (L.length+1)*(n:Int):=Int.mul_comm ..;omega
   .have hb2:wdg b (wdg a w) s=0:=by
     have old:b=b0\/b∈L->wdg b (wdg a w) s=0:=λhb=>by
      rw [xF b a w s (by rw [hlen b hb,hal]),vS a _ s λt ht=>hk b hb t (by rw [ht];exact hs)];rfl
     rcases hb with hb | hb
     .exact old (.inl hb)
     .rcases List.mem_cons.1 hb with rfl | hb
      .have:=xF b b w s rfl;omega
      .exact old (.inr hb)
    have:=zt6 b (wdg a w) (wdg (hfI a b0) w) s λt ht=>hf t (by rw [ht];exact hs);omega
theorem hadO {n:Nat} (hn:4<=n) {b0:List Int} (h0:b0.length=n) (o0:∀ x∈b0,Od x) (L:List (List Int)) (h:∀ a∈L,a.length=n/\∀ x∈a,Od x) (hL:L.length+1<n):∃ x:List Int,x.length=n/\(∃ j,x.getD j 0≠0)/\sqV x*4 ^ L.length<=(n:Int) ^ (L.length+1)/\∀ a,a=b0\/a∈L->dtI a x=0:=by
 obtain ⟨w,⟨s,hs,hw⟩,hd,hi,hk⟩:=zld hn h0 o0 L h;obtain ⟨S,hS,hj⟩:=zrg s w hw (by have:=hd s hs hw;omega);have hSn:S.length=n:=by rw [hS,hs]
 refine ⟨xvL S w,by rw [cY];exact hSn,hj,?_,λa ha => ?_⟩
 .have e:=zk3 S w;rw [hSn] at e;have:=Zcu e (show (0:Int)<=4 ^ L.length from Zfo (by decide));omega
 .have hal:a.length=n:=ha.elim (λe=>e ▸ h0) λha=>(h a ha).1;rw [<- ze1 a w S (by rw [hSn,hal])];exact hk a ha S hSn
def ZB:Nat:=2356
theorem zyj:∀ r<12,(r+2) ^ (r+1)<=5555448*4 ^ r:=by decide
theorem zrp (F G:Nat->Int):∀ k,sI k (λj=>F j+G j)=sI k F+sI k G
 | 0=>rfl
 | k+1=>by rw [sI,sI,sI,zrp F G k];omega
theorem zle (c:Int) (F:Nat->Int):∀ k,sI k (λj=>c*F j)=c*sI k F
 | 0=>by simp [sI]
 | k+1=>by rw [sI,sI,zle c F k];grind
theorem zlf {F:Nat->Int}:∀ {k:Nat},(∀ j,j<k->F j=0)->sI k F=0
 | 0,_=>rfl
 | k+1,h=>by rw [sI,zlf λj hj=>h j (by omega),h k (by omega)];rfl
theorem qbk {r:Nat} (hr:r<12) (hr2:2<=r) (f0:Nat->Int) (c0:Int) (ho:(∀ j,Od (f0 j))/\Od c0) (f:Nat->Nat->Int) (hf:∀ i j,Od (f i j)):∃ (x:Nat->Int) (z:Int),((∃ j,j<=r/\x j≠0)\/z≠0)/\(∀ j,(x j).natAbs<=ZB)/\sI (r+1) (λj=>f0 j*x j)+c0*z=0/\∀ i,i<r->sI (r+1) (λj=>f i j*x j)+1*z=0:=by
 have hro:∀ (g:Nat->Int) (c:Int),(∀ j,Od (g j))->Od c->((List.range (r+1)).map g++[c]).length=r+2/\∀ x∈(List.range (r+1)).map g++[c],Od x:=λg c h1 h2=>by
  refine ⟨by simp,λx hx => ?_⟩;rcases List.mem_append.1 hx with q | q
  .obtain ⟨j,_,rfl⟩:=List.mem_map.1 q;exact h1 j
  .rw [List.mem_singleton.1 q];exact h2
 obtain ⟨X,hX,⟨j,hj⟩,hs,hk⟩:=hadO (n:=r+2) (by omega) (hro f0 c0 ho.1 ho.2).1 (hro f0 c0 ho.1 ho.2).2 ((List.range r).map λi=>(List.range (r+1)).map (f i)++[1]) (λa ha=>by
  obtain ⟨i,_,rfl⟩:=List.mem_map.1 ha;exact hro (f i) 1 (hf i) (.inr rfl)) (by simp)
 have hxe:X=(List.range (r+1)).map (λj=>X.getD j 0)++[X.getD (r+1) 0]:=by
  refine Zcw (by simp [hX]) λi h1 h2 => ?_;by_cases e:i<r+1
  .rw [List.getElem_append_left (by simpa using e)];simp [Zaa,h1]
  .obtain rfl:i=r+1:=by omega
   rw [List.getElem_append_right (by simp)];simp [Zaa,h1]
 have dt:∀ (g:Nat->Int) (c:Int),dtI ((List.range (r+1)).map g++[c]) X=sI (r+1) (λj=>g j*X.getD j 0)+c*X.getD (r+1) 0:=λg c=>by
  conv=>lhs;rw [hxe]
  rw [zcd _ _ _ _ (by simp),m6]
 refine ⟨λj=>X.getD j 0,X.getD (r+1) 0,?_,λj => ?_,?_,λi hi => ?_⟩
 .by_cases e:j<=r
  .exact .inl ⟨j,e,hj⟩
  .by_cases e2:j=r+1
   .exact .inr (e2 ▸ hj)
   .exact absurd (by rw [Zaa,List.getElem?_eq_none (by omega)];rfl) hj
 .have h1:=ze2 X j;rw [Zai,Zdd] at hs;have h2:=zyj r hr;have h3:(((r+2:Nat):Int)) ^ (r+1)=(((r+2) ^ (r+1):Nat):Int):=by simp
  have h4:(4:Int) ^ r=((4 ^ r:Nat):Int):=by simp
  rw [h3,h4] at hs;have hp:0<4 ^ r:=Nat.pow_pos (by decide);have h5:sqV X<=5555448:=by
   refine Int.not_lt.1 λc => ?_;have:=Zcu (show (5555449:Int)<=sqV X by omega) (show (0:Int)<=((4 ^ r:Nat):Int) by omega);omega
  show (X.getD j 0).natAbs<=2356;refine Zeh λc => ?_;have h6:=Zbk (show 2357<=(X.getD j 0).natAbs from c) (show 2357<=(X.getD j 0).natAbs from c);have h7:=Zgg (a:=X.getD j 0);omega
 .rw [<- dt];exact hk _ (.inl rfl)
 .rw [<- dt];exact hk _ (.inr (List.mem_map.2 ⟨i,List.mem_range.2 hi,rfl⟩))
theorem zt7 {r:Nat} (hr:r<=11) (l0:Nat->Int) (h0:∀ j,l0 j=0\/l0 j=1) (l:Nat->Nat->Int) (hl:∀ i j,l i j=0\/l i j=1):∃ x:Nat->Int,(∃ j,j<=r/\x j≠0)/\(∀ j,(x j).natAbs<=ZB)/\∀ i,i<r->sI (r+1) (λj=>(l i j-l0 j)*x j)=0:=by
 by_cases h2:2<=r
 case neg =>
  exact ze5 (R:=1) (Bd:=ZB) (by omega) (by decide) (λi j=>l i j-l0 j) λi j=>by
   rcases hl i j with e | e <;> rcases h0 j with f | f <;> rw [e,f] <;> decide
 have od:∀ {x:Int},x=0\/x=1->Od (2*x-1):=λh=>by
  rcases h with e | e <;> rw [e]
  .exact .inl rfl
  .exact .inr rfl
 obtain ⟨x,z,h1,h3,h4,h5⟩:=qbk (by omega) h2 (λj=>2*l0 j-1) 1 ⟨λj=>od (h0 j),.inr rfl⟩ (λi j=>2*l i j-1) λi j=>od (hl i j);refine ⟨x,?_,h3,λi hi => ?_⟩
 .rcases h1 with h1 | h1
  .exact h1
  .refine Classical.byContradiction λc=>h1 ?_;have:sI (r+1) (λj=>(2*l0 j-1)*x j)=0:=zlf λj hj=>by
    have:x j=0:=Classical.byContradiction λq=>c ⟨j,by omega,q⟩;rw [this,Int.mul_zero]
   omega
 .have e:=h5 i hi;have e2:sI (r+1) (λj=>(2*l i j-1)*x j)=2*sI (r+1) (λj=>(l i j-l0 j)*x j)+sI (r+1) (λj=>(2*l0 j-1)*x j):=by
   rw [<- zle,<- zrp];exact zhp λj _=>by grind
  omega
theorem zlg:∀ (a c b d:List Rat),a.length=c.length->dot (a++b) (c++d)=dot a c+dot b d
 | [],[],b,d,_=>by show dot b d=dot [] []+dot b d;rw [show dot [] []=0 from rfl];grind
 | x::a,y::c,b,d,h=>by
  have:=zlg a c b d (by simpa using h);rw [Zbx,Zbx,dot,dot,this];grind
 | [],_::_,_,_,h=>by simp at h
 | _::_,[],_,_,h=>by simp at h
theorem dR (m i j:Nat):at' (gC m i) j=if i=j/\j<m then 1 else 0:=by
 unfold gC;by_cases e:i=j
 .subst e;by_cases h:i<m
  .rw [if_pos ⟨rfl,h⟩,at',Zaa,List.getElem?_set_self (by rw [Zba];exact h)];rfl
  .rw [if_neg (by omega),jH (by rw [Zan,Zba];omega)]
 .rw [if_neg (by omega),at',Zaa,List.getElem?_set_ne e,<- Zaa];exact wW m j
theorem zrq:∀ (a b:List Rat),a.length=b.length->dot a b=sR a.length λj=>at' a j*at' b j:=by
 intro a b h;have key:∀ k,k<=a.length->dot (a.take k) (b.take k)=sR k λj=>at' a j*at' b j:=by
  intro k
  induction k with
  | zero=>intro _;rfl
  | succ k ih =>
   intro hk;rw [Zar,Zar,gY (q:=a) (by omega),gY (q:=b) (by omega),Zbn,Zbn,zlg _ _ _ _ (by rw [Zah,Zah];omega),ih (by omega),sR];show _+(at' a k*at' b k+dot [] [])=_;rw [show dot [] []=0 from rfl];grind
 have:=key a.length (Zaf _);rw [Zcz,h,Zcz,<- h] at this;exact this
theorem qS {n c:Nat} {q:List Rat} (hq:q.length=n) (hc:c<n):dot q (gC n c)=at' q c:=by
 rw [zrq _ _ (by rw [hq,gB]),hq,uQ (i:=c) (x:=λj=>at' q j) λb hb => ?_,if_pos hc];rw [dR];by_cases e:c=b
 .rw [if_pos ⟨e,hb⟩,if_pos e];grind
 .rw [if_neg (by omega),if_neg e];grind
theorem fC {n:Nat} {r g:List Rat} (hr:r.length=n) {j:Nat} (hj:j<n):at' (r++g) j=at' r j:=by
 rw [at',Zaa,List.getElem?_append_left (by omega),<- Zaa]
theorem bI {n:Nat} {r g:List Rat} (hr:r.length=n) (j:Nat):at' (r++g) (n+j)=at' g j:=by
 rw [at',Zaa,List.getElem?_append_right (by omega),hr,Zcp,<- Zaa]
theorem zrr (p:List Rat) (n j:Nat):at' (p.drop n) j=at' p (n+j):=by
 rw [at',Zaa,List.getElem?_drop,<- Zaa]
theorem zm7 {n:Nat} {b:Rat} {r g p:List Rat} (hr:r.length=n) (hp:n<=p.length):jD b (r++g) p=jD b r (p.take n)++jD b g (p.drop n):=by
 unfold jD
 conv=>lhs;rw [<- Zep n p]
 rw [Zgf (by rw [Zah];omega)]
abbrev liQ (n:Nat) (lines:List (List Int)) (i:Nat):List Rat:=rQ n (lines.getD i [])
def lhQ (n:Nat) (lines:List (List Int)) (i:Nat):List Rat:=liQ n lines i++gC lines.length i
theorem ze8 (n:Nat) (lines:List (List Int)) (i:Nat):(lhQ n lines i).length=n+lines.length:=by rw [lhQ,Zae,yH,gB]
theorem zrs (n:Nat) (lines:List (List Int)) (i j:Nat):Sg (at' (lhQ n lines i) j):=by
 have:∀ {q:Rat},q=0\/q=1->Sg q:=λh=>h.elim (λe=>.inr (.inl e)) λe=>.inr (.inr e);by_cases hj:j<n
 .rw [lhQ,fC (yH ..) hj];exact this (qJ ..)
 .rw [show j=n+(j-n) by omega,lhQ,bI (yH ..)];exact this (zca ..)
def DepL (n:Nat) (lines:List (List Int)) (d:Nat×List Rat):Prop:=d.1<lines.length/\d.2.length=d.1/\(∃ t,1<=t/\t<=HB/\∀ j,Dn t (13*HB) (at' d.2 j))/\∀ c,c<n->at' (liQ n lines d.1) c=sR d.1 λk=>at' d.2 k*at' (liQ n lines k) c
structure Dv (n:Nat) (lines:List (List Int)) (i:Nat) (fr:List Nat) (P:List (List Rat)) (ps:List Nat) (D:List (Nat×List Rat)):Prop where
 tv:Tv (n+lines.length) (fr.map (lhQ n lines)) P ps
 pr:∀ p∈ps,p<n
 cnt:P.length+D.length=i
 nd:fr.Nodup
 frl:∀ x∈fr,x<i
 sup:∀ q∈P,∀ j,i<=j->at' q (n+j)=0
 cov:∀ j,j<i->∀ f:List Rat,f.length=n->(∀ q∈P,dot (q.take n) f=0)->dot (liQ n lines j) f=0
 dep:∀ d∈D,DepL n lines d
 ffl:fr=(List.range i).filter λx=>decide (x∈fr)
 dix:D.map (·.1)=(List.range i).filter λx => !decide (x∈fr)
 dsup:∀ d∈D,∀ k,k∉fr->at' d.2 k=0
theorem Dv.nil (n:Nat) (lines:List (List Int)):Dv n lines 0 [] [] [] []:=⟨Tv.nil _,by simp,rfl,by simp,by simp,by simp,λj h=>by omega,by simp,rfl,rfl,by simp⟩
structure Dw (n:Nat) (lines:List (List Int)) (i:Nat) (fr:List Nat) (P:List (List Rat)) (ps:List Nat) (k:Nat) (r f:List Rat):Prop where
 rl:r.length=n
 fl:f.length=lines.length
 rt:∃ g,g.length=lines.length/\(∀ j,at' f j=at' (gC lines.length i) j-at' g j)/\Rt (n+lines.length) (fr.map (lhQ n lines)) P ps (lhQ n lines i) k (r++g)
 late:∀ j,i<=j->at' f j=0
 conv:∀ φ:List Rat,φ.length=n->(∀ q∈P,dot (q.take n) φ=0)->dot r φ=dot (liQ n lines i) φ
theorem Dw.start {n i:Nat} {lines:List (List Int)} {fr:List Nat} {P:List (List Rat)} {ps:List Nat}:Dw n lines i fr P ps 0 (liQ n lines i) (List.replicate lines.length 0) :=
 ⟨yH ..,Zba,⟨gC lines.length i,gB ..,λj=>by rw [wW];grind,Rt.start (ze8 ..)⟩,λj _=>wW _ _,λ_ _ _=>rfl⟩
theorem Dw.next {n i k:Nat} {lines:List (List Int)} {fr:List Nat} {P:List (List Rat)} {ps:List Nat} {D:List (Nat×List Rat)} {r f:List Rat} (hD:Dv n lines i fr P ps D) (h:Dw n lines i fr P ps k r f) (hk:k<P.length):Dw n lines i fr P ps (k+1) (jD (at' r (ps.getD k 0)) r ((P.getD k []).take n)) (jD (-(at' r (ps.getD k 0))) f ((P.getD k []).drop n)):=by
 obtain ⟨hrl,hfl,⟨g,hgl,hfg,hrt⟩,zrt,zru⟩:=h;have hT:=hD.tv;have hm:=zY (d:=[]) hk;have hpl:=hT.row _ hm;have hpk:ps.getD k 0<n:=hD.pr _ (zY (by rw [hT.len];exact hk));have l1:r.length=((P.getD k []).take n).length:=by rw [Zah];omega
 have l2:f.length=((P.getD k []).drop n).length:=by rw [Zch];omega
 have l3:g.length=((P.getD k []).drop n).length:=by rw [Zch];omega
 refine ⟨by rw [jA l1];exact hrl,by rw [jA l2];exact hfl,⟨jD (at' r (ps.getD k 0)) g ((P.getD k []).drop n),by rw [jA l3];exact hgl,λj => ?_,?_⟩,λj hj => ?_,λφ hφ hP => ?_⟩
 .rw [yY l2,yY l3,hfg j];grind
 .have:=hrt.next hT hk;rw [fC hrl hpk,zm7 hrl (by omega)] at this;exact this
 .rw [yY l2,zrt j hj,zrr,hD.sup _ hm j hj];grind
 .rw [j3 _ _ _ _ l1,hP _ hm,zru φ hφ hP,Zbg];grind
theorem Dw.col {n i k R Bd:Nat} {lines:List (List Int)} {fr:List Nat} {P:List (List Rat)} {ps:List Nat} {D:List (Nat×List Rat)} {r f:List Rat} (hD:Dv n lines i fr P ps D) (h:Dw n lines i fr P ps k r f) (hk:k<=P.length) (hR:k<=R) (hB:(R+1) ^ R<(Bd+1)*(Bd+1)) (hB1:1<=Bd):(∀ j,∃ t,1<=t/\t<=Bd/\Dn t ((R+2)*Bd) (at' r j))/\∀ j,∃ t,1<=t/\t<=Bd/\Dn t ((R+2)*Bd) (at' f j):=by
 obtain ⟨hrl,hfl,⟨g,hgl,hfg,hrt⟩,zrt,zru⟩:=h;have hc:=hrt.col hD.tv (ze8 ..) (λj=>zrs n lines i j) hk hR hB hB1;have hle:(k+1)*Bd<=(R+1)*Bd:=Zax _ (by omega);have e2:(R+2)*Bd=(R+1)*Bd+Bd:=by rw [show R+2=R+1+1 from rfl,Zbf (R+1) 1,Zcv]
 refine ⟨λj => ?_,λj => ?_⟩
 .by_cases hj:j<n
  .obtain ⟨t,h1,h2,h3⟩:=hc j;rw [fC hrl hj] at h3;exact ⟨t,h1,h2,h3.mono (by omega)⟩
  .rw [jH (by omega)];exact ⟨1,Zaf _,hB1,Dn.zero _ _⟩
 .obtain ⟨t,h1,h2,h3⟩:=hc (n+j);rw [bI hrl] at h3;refine ⟨t,h1,h2,?_⟩;rw [hfg j];have hu:Sg (at' (gC lines.length i) j):=(zca lines.length i j).elim (λe=>.inr (.inl e)) λe=>.inr (.inr e);exact ((hu.dn (M:=Bd) h2).sub h3).mono (by omega)
def xU (O:List (List Rat)) (u:Nat->Int) (r0:List Rat) (c:Int):Nat->List Rat
 | 0=>yQ (c:Rat) r0
 | b+1=>jD (-(u b:Rat)) (xU O u r0 c b) (O.getD b [])
theorem bB {n:Nat} {O:List (List Rat)} {u:Nat->Int} {r0:List Rat} {c:Int} (h0:r0.length=n) (hO:∀ o∈O,o.length=n):∀ k,k<=O.length->(xU O u r0 c k).length=n
 | 0,_=>by rw [xU,uA,h0]
 | k+1,hk=>by
  have:=bB (u:=u) (c:=c) h0 hO k (by omega);rw [xU,jA (by rw [this,hO _ (zY (by omega))]),this]
theorem ze9 {n:Nat} {O:List (List Rat)} {u:Nat->Int} {r0:List Rat} {c:Int} (h0:r0.length=n) (hO:∀ o∈O,o.length=n) (j:Nat):∀ k,k<=O.length->at' (xU O u r0 c k) j=sR k (λb=>at' (O.getD b []) j*(u b:Rat))+at' r0 j*(c:Rat)
 | 0,_=>by rw [xU,gT,sR];grind
 | k+1,hk=>by
  rw [xU,yY (by rw [bB h0 hO k (by omega),hO _ (zY (by omega))]),ze9 h0 hO j k (by omega),sR];grind
theorem zhy {n:Nat} {O:List (List Rat)} {u:Nat->Int} {r0 f:List Rat} {c:Int} (h0:r0.length=n) (hO:∀ o∈O,o.length=n):∀ k,k<=O.length->(∀ b,b<k->dot (O.getD b []) f=0)->dot (xU O u r0 c k) f=(c:Rat)*dot r0 f
 | 0,_,_=>by rw [xU,uT]
 | k+1,hk,h=>by
  rw [xU,j3 _ _ _ _ (by rw [bB h0 hO k (by omega),hO _ (zY (by omega))]),zhy h0 hO k (by omega) λb hb=>h b (by omega),h k (by omega)];grind
theorem Rt.den {n k R Bd:Nat} {O P:List (List Rat)} {ps:List Nat} {r0 r:List Rat} (hT:Tv n O P ps) (h:Rt n O P ps r0 k r) (h0:r0.length=n) (hs:∀ j,Sg (at' r0 j)) (hk:k<=P.length) (hR:k<=R) (hB:(R+1) ^ R<(Bd+1)*(Bd+1)) (ix:Nat->Nat) (hi1:∀ a,a<k->∀ b,b<k->at' (O.getD b []) (ix a)=if a=b then 1 else 0) (hi2:∀ a,a<k->ix a<n):∃ t,1<=t/\t<=Bd/\∀ j,Dn t ((k+1)*Bd) (at' r j):=by
 have hol:=hT.olen;obtain ⟨u,⟨b,hb,hb0⟩,hu,hz⟩:=ze5 hR hB (λi c=>if c<k then sgI (at' (O.getD c []) (ps.getD i 0)) else sgI (at' r0 (ps.getD i 0))) λi c=>by
  show (if c<k then _ else _)=(-1:Int)\/_;split <;> exact ze4 _
 have hsum:∀ j,at' (xU O u r0 (u k) k) j=((sI (k+1) (λc=>(if c<k then sgI (at' (O.getD c []) j) else sgI (at' r0 j))*u c):Int):Rat):=λj=>by
  rw [ze9 h0 hT.orow j k (by omega),<- vC,sR]
  congr 1
  .exact yW λc hc=>by rw [if_pos hc,Zcl,(hT.osg _ (zY (by omega)) _).int]
  .rw [if_neg (Zcf k),Zcl,(hs j).int]
 have hpz:∀ i,i<k->at' (xU O u r0 (u k) k) (ps.getD i 0)=0:=λi hi=>by
  rw [hsum,hz i hi];rfl
 have hcl:=bB (u:=u) (c:=u k) h0 hT.orow k (by omega);have main:∀ j,j<n->at' (xU O u r0 (u k) k) j=(u k:Rat)*at' r j:=λj hj=>by
  obtain ⟨x,hxk,_,hO⟩:=hT.sol hk hj hR hB;have e1:=zhy (u:=u) (c:=u k) h0 hT.orow k (by omega) hO;rw [<- h.eq _ (uK _) hO,hT.pl hk hj _ h.len,hT.pl hk hj _ hcl,uP λb hb=>by rw [hpz b hb,Zbm],uP λb hb=>by rw [h.zero b hb,Zbm]] at e1;have:=wH hxk
  grind
 have huk:u k≠0:=λe=>by
  rcases Zdb b k with q | q
  .have e1:=main (ix b) (hi2 b q);rw [ze9 h0 hT.orow _ k (by omega),uQ (i:=b) (x:=λa=>(u a:Rat)) λa ha=>by rw [hi1 b q a ha],if_pos q,e,show ((0:Int):Rat)=0 from rfl,Zbg,Zbm,Zeu] at e1;exact wH hb0 e1
  .obtain rfl:b=k:=by omega
   exact hb0 e
 refine ⟨(u k).natAbs,by omega,hu k,λj => ?_⟩;by_cases hj:j<n
 .refine zhx (z:=sI (k+1) (λc=>(if c<k then sgI (at' (O.getD c []) j) else sgI (at' r0 j))*u c)) ?_ (zlb λc _ => ?_)
  .rw [<- hsum,main j hj];grind
  .have:=hu c;split
   .exact Zay (zdl _ _) this
   .exact Zay (zdl _ _) this
 .rw [jH (by rw [h.len];omega)];exact Dn.zero _ _
theorem bZ {fr:List Nat} {f:Nat->List Rat} {b:Nat} (h:b<fr.length):(fr.map f).getD b []=f (fr.getD b 0):=by
 rw [Zaa,List.getElem?_map,jZ (d:=0) h];rfl
theorem Dw.den {n i k R Bd:Nat} {lines:List (List Int)} {fr:List Nat} {P:List (List Rat)} {ps:List Nat} {D:List (Nat×List Rat)} {r f:List Rat} (hD:Dv n lines i fr P ps D) (h:Dw n lines i fr P ps k r f) (hi:i<lines.length) (hk:k<=P.length) (hR:k<=R) (hB:(R+1) ^ R<(Bd+1)*(Bd+1)):∃ t,1<=t/\t<=Bd/\∀ j,Dn t ((R+2)*Bd) (at' f j):=by
 obtain ⟨hrl,hfl,⟨g,hgl,hfg,hrt⟩,zrt,zru⟩:=h;have hol:=hD.tv.olen;rw [Zai] at hol
 obtain ⟨t,h1,h2,h3⟩:=hrt.den hD.tv (ze8 ..) (λj=>zrs n lines i j) hk hR hB (λa=>n+fr.getD a 0) (λa ha b hb=>by
  show at' _ (n+fr.getD a 0)=_;have hfa:=hD.frl _ (zY (l:=fr) (i:=a) (d:=0) (by omega));rw [bZ (by omega),lhQ,bI (yH ..),dR];by_cases e:a=b
  .rw [if_pos ⟨by rw [e],by omega⟩,if_pos e]
  .rw [if_neg λq=>e ?_,if_neg e];have ga:=jZ (l:=fr) (i:=a) (d:=0) (by omega);have gb:=jZ (l:=fr) (i:=b) (d:=0) (by omega);rw [q.1,<- ga] at gb;exact ((List.getElem?_inj (show b<fr.length by omega) hD.nd).1 gb).symm) (λa ha=>by
  have hfa:=hD.frl _ (zY (l:=fr) (i:=a) (d:=0) (by omega));show n+_<_;omega)
 have hle:(k+1)*Bd<=(R+1)*Bd:=Zax _ (by omega);have e2:(R+2)*Bd=(R+1)*Bd+Bd:=by rw [show R+2=R+1+1 from rfl,Zbf (R+1) 1,Zcv]
 refine ⟨t,h1,h2,λj => ?_⟩;have h4:=h3 (n+j);rw [bI hrl] at h4;rw [hfg j];have hu:Sg (at' (gC lines.length i) j):=(zca lines.length i j).elim (λe=>.inr (.inl e)) λe=>.inr (.inr e);exact ((hu.dn (M:=Bd) h2).sub h4).mono (by omega)
def SmP (M0:List (List Rat)):Prop:=∀ (O:List (List Rat)) (c:Nat->Nat),(∀ o∈O,o∈M0)->O.length<=11->∃ x:Nat->Int,(∃ j,j<=O.length/\x j≠0)/\(∀ j,(x j).natAbs<=ZB)/\∀ o∈O,sR (O.length+1) (λj=>at' o (c j)*(x j:Rat))=0
structure Gd (w:Nat) (M0:List (List Rat)) (j:Nat) (M:List (List Rat)) (P:List Nat):Prop where
 jw:j<=w
 row:∀ l∈M,l.length=w
 pl:P.length<=j
 pm:P.length<=M.length
 rng:∀ p∈P,p<j
 asc:P.Pairwise (· < ·)
 one:∀ a b,a<P.length->b<P.length->at' (M.getD a []) (P.getD b 0)=if a=b then 1 else 0
 zer:∀ a,P.length<=a->∀ c,c<j->at' (M.getD a []) c=0
 lead:∀ a,a<P.length->∀ c,c<P.getD a 0->at' (M.getD a []) c=0
 org:∃ O:List (List Rat),O.length=P.length/\(∀ o∈O,o∈M0)/\(∀ f:List Rat,f.length=w->(∀ o∈O,dot o f=0)->∀ a,a<P.length->dot (M.getD a []) f=0)/\∀ a,P.length<=a->a<M.length->∃ o∈M0,∀ f:List Rat,f.length=w->(∀ o∈O,dot o f=0)->dot (M.getD a []) f=dot o f
 full:∀ f:List Rat,f.length=w->(∀ l∈M,dot l f=0)->∀ o∈M0,dot o f=0
theorem Gd.start {w:Nat} {M0:List (List Rat)} (h:∀ l∈M0,l.length=w):Gd w M0 0 M0 [] :=
 ⟨Zef _,h,Zaf _,Zef _,by simp,by simp,λa b h=>by simp at h,λa _ c h=>by omega,λa h=>by simp at h,⟨[],rfl,by simp,λf _ _ a h=>by simp at h,λa _ ha=>⟨_,zY ha,λ_ _ _=>rfl⟩⟩,λf _ hz o ho=>hz o ho⟩
theorem Gd.skip {w j:Nat} {M0 M:List (List Rat)} {P:List Nat} (h:Gd w M0 j M P) (hj:j<w) (hz:∀ i' l,P.length<=i'->M[i']? = some l->l.getD j 0=0):Gd w M0 (j+1) M P :=
 ⟨hj,h.row,Zgv h.pl,h.pm,λp hp=>Zfr (h.rng p hp),h.asc,h.one,λa ha c hc=>by
  by_cases e:c=j
  .subst e;by_cases ha2:a<M.length
   .exact hz a _ ha (jZ ha2)
   .rw [Zaa,List.getElem?_eq_none (by omega)];exact jH (Zef _)
  .exact h.zer a ha c (by omega),h.lead,h.org,h.full⟩
theorem Gd.col {w j:Nat} {M0 M:List (List Rat)} {P:List Nat} (h:Gd w M0 j M P) (hS:SmP M0) (hsg:∀ o∈M0,o.length=w/\∀ c,Sg (at' o c)) (hP:P.length<=11) (c:Nat):∃ t,1<=t/\t<=ZB/\(∀ a,a<P.length->Dn t ZB (at' (M.getD a []) c))/\∀ a,P.length<=a->a<M.length->Dn t (12*ZB) (at' (M.getD a []) c):=by
 obtain ⟨O,hol,hom,hker,hrest⟩:=h.org;have hln:∀ a,a<M.length->(M.getD a []).length=w:=λa ha=>h.row _ (zY ha);have hpm:=h.pm;rcases Zdb c w with hc | hc
 case inr =>
  refine ⟨1,Zaf _,by decide,λa ha => ?_,λa _ ha => ?_⟩
  .rw [jH (by rw [hln a (by omega)];exact hc)];exact Dn.zero _ _
  .rw [jH (by rw [hln a ha];exact hc)];exact Dn.zero _ _
 obtain ⟨x,⟨b,hb,hb0⟩,hx,hz⟩:=hS O (tu P.length P c) hom (by omega);have hcR:∀ i,tu P.length P c i<w:=λi=>by
  unfold tu;by_cases q:i<P.length
  .rw [if_pos q];exact Zcj (h.rng _ (zY q)) h.jw
  .rw [if_neg q];exact hc
 have hpl:∀ v:List Rat,v.length=w->dot v (plF w (tu P.length P c) (λi=>(x i:Rat)) (P.length+1))=sR P.length (λb=>at' v (P.getD b 0)*(x b:Rat))+at' v c*(x P.length:Rat):=λv hv=>by
  rw [kI hv _ λi _=>hcR i,sR]
  congr 1
  .exact yW λb hb=>by rw [tu,if_pos hb]
  .rw [tu,if_neg (Zcf _)]
 have hO:∀ o∈O,dot o (plF w (tu P.length P c) (λi=>(x i:Rat)) (P.length+1))=0:=λo ho=>by
  rw [kI (hsg o (hom o ho)).1 _ λi _=>hcR i,<- hol];have:=hz o ho;rw [hol] at this ⊢;exact this
 have e1:∀ a,a<P.length->(x a:Rat)+at' (M.getD a []) c*(x P.length:Rat)=0:=λa ha=>by
  have e:=hker _ (uK _) hO a ha;rw [hpl _ (hln a (by omega)),uQ (i:=a) (x:=λb=>(x b:Rat)) λb hb=>by rw [h.one a b ha hb],if_pos ha] at e;exact e
 have hxk:x P.length≠0:=λe=>by
  rcases Zdb b P.length with q | q
  .have:=e1 b q;rw [e,show ((0:Int):Rat)=0 from rfl,Zbg,Zeu] at this;exact wH hb0 this
  .obtain rfl:b=P.length:=by omega
   exact hb0 e
 refine ⟨(x P.length).natAbs,by omega,hx _,λa ha => ?_,λa ha ham => ?_⟩
 .exact zhx (z := -x a) (by have:=e1 a ha;rw [Zct];grind) (by rw [Zeg];exact hx a)
 .obtain ⟨o,ho,hof⟩:=hrest a ha ham;have e:=hof _ (uK _) hO;obtain ⟨hol2,hos⟩:=hsg o ho;rw [hpl _ (hln a ham),hpl _ hol2,uP λb hb=>by rw [h.zer a ha _ (h.rng _ (zY hb)),Zbm],Zgd] at e;refine zhx (z:=sI P.length (λb=>sgI (at' o (P.getD b 0))*x b)+sgI (at' o c)*x P.length) ?_ ?_
  .rw [e,Zfh,<- vC,Zcl,(hos c).int]
   congr 1
   exact yW λb _=>by rw [Zcl,(hos _).int]
  .have h1:=zlb (F:=λb=>sgI (at' o (P.getD b 0))*x b) (k:=P.length) λb _=>Zay (zdl _ _) (hx b);have h2:=Zay (zdl (at' o c) (x P.length)) (hx _);have:=Zeb (sI P.length (λb=>sgI (at' o (P.getD b 0))*x b)) (sgI (at' o c)*x P.length);have h3:=Zax ZB hP;omega
theorem Gd.sz {w j:Nat} {M0 M:List (List Rat)} {P:List Nat} (h:Gd w M0 j M P) (hS:SmP M0) (hsg:∀ o∈M0,o.length=w/\∀ c,Sg (at' o c)) (hP:P.length<=11):∀ l∈M,∀ q∈l,jk (12*ZB) q:=λl hl q hq=>by
 obtain ⟨a,ha⟩:=List.mem_iff_getElem?.1 hl;have ham:=(List.getElem?_eq_some_iff.1 ha).1;have hla:M.getD a []=l:=by rw [Zaa,ha];rfl
 obtain ⟨c,_,rfl⟩:=dM hq;obtain ⟨t,t1,t2,t3,t4⟩:=h.col hS hsg hP c;rw [<- hla];by_cases e:a<P.length
 .exact ((t3 a e).mono (by decide)).nm t1 (Zay t2 (by decide))
 .exact (t4 a (by omega) ham).nm t1 (Zay t2 (by decide))
def swR (i k:Nat) (lr row:List Rat) (M:List (List Rat)) (a:Nat):List Rat:=if a=k then row else if a=i then lr else M.getD a []
theorem xL {i k j:Nat} {li lr:List Rat} {M:List (List Rat)} {a:Nat} (ha:a<M.length):(rP i k j li lr M).getD a []=if a=k then yQ (at' li j)⁻¹ li else jD (at' (swR i k lr (yQ (at' li j)⁻¹ li) M a) j) (swR i k lr (yQ (at' li j)⁻¹ li) M a) (yQ (at' li j)⁻¹ li):=by
 have e:(((M.set i lr).set k li).set k (yQ (at' li j)⁻¹ li))[a]? = some (swR i k lr (yQ (at' li j)⁻¹ li) M a):=by
  unfold swR;by_cases h1:a=k
  .subst h1;rw [if_pos rfl,List.getElem?_set_self (by rw [Zan,Zan];exact ha)]
  .rw [if_neg h1,List.getElem?_set_ne (Ne.symm h1),List.getElem?_set_ne (Ne.symm h1)];by_cases h2:a=i
   .subst h2;rw [if_pos rfl,List.getElem?_set_self ha]
   .rw [if_neg h2,List.getElem?_set_ne (Ne.symm h2),jZ (d:=[]) ha]
 have e2:=zb8 (r:=k) (j:=j) (lr:=yQ (at' li j)⁻¹ li) e;show (tV k j (yQ (at' li j)⁻¹ li) (((M.set i lr).set k li).set k (yQ (at' li j)⁻¹ li))).getD a []=_;rw [Zaa,e2];show vJ k j (yQ (at' li j)⁻¹ li) a (swR i k lr (yQ (at' li j)⁻¹ li) M a)=_;unfold vJ;by_cases h1:a=k
 .rw [if_pos h1,if_pos h1,swR,if_pos h1]
 .rw [if_neg h1,if_neg h1];rfl
theorem Gd.piv {w j i:Nat} {M0 M:List (List Rat)} {P:List Nat} {li lr:List Rat} (h:Gd w M0 j M P) (hj:j<w) (hi:P.length<=i) (hli:M[i]? = some li) (hlr:M[P.length]? = some lr) (hv:li.getD j 0≠0):Gd w M0 (j+1) (rP i P.length j li lr M) (P++[j]):=by
 have him:=(List.getElem?_eq_some_iff.1 hli).1;have hkm:=(List.getElem?_eq_some_iff.1 hlr).1;have gi:M.getD i []=li:=by rw [Zaa,hli];rfl
 have gk:M.getD P.length []=lr:=by rw [Zaa,hlr];rfl
 have hlil:=h.row _ (Zad hli);obtain ⟨row,hrow⟩:∃ row,row=yQ (at' li j)⁻¹ li:=⟨_,rfl⟩;have hrl:row.length=w:=by rw [hrow,uA];exact hlil
 have hv':at' li j≠0:=hv;have rz:∀ c,c<j->at' row c=0:=λc hc=>by
  rw [hrow,gT,<- gi,h.zer i hi c hc,Zbm]
 have rj:at' row j=1:=by rw [hrow,gT];grind
 have hml:(rP i P.length j li lr M).length=M.length:=by unfold rP tV;rw [Zde,Zan,Zan,Zan]
 have get:∀ a,a<M.length->(rP i P.length j li lr M).getD a []=if a=P.length then row else jD (at' (swR i P.length lr row M a) j) (swR i P.length lr row M a) row:=λa ha=>by
  rw [xL ha,hrow]
 have zlh:∀ a,a<P.length->swR i P.length lr row M a=M.getD a []:=λa ha=>by
  unfold swR;rw [if_neg (by omega),if_neg (by omega)]
 have swhi:∀ a,P.length<a->a<M.length->∃ a',P.length<=a'/\a'<M.length/\swR i P.length lr row M a=M.getD a' []:=λa ha ham=>by
  unfold swR;rw [if_neg (by omega)];by_cases e:a=i
  .rw [if_pos e];exact ⟨P.length,Zaf _,hkm,gk.symm⟩
  .rw [if_neg e];exact ⟨a,by omega,ham,rfl⟩
 have swl:∀ a,a<M.length->a≠P.length->(swR i P.length lr row M a).length=row.length:=λa ha hne=>by
  rw [hrl];rcases Zdb a P.length with q | q
  .rw [zlh a q];exact h.row _ (zY ha)
  .obtain ⟨a',_,h2,h3⟩:=swhi a (by omega) ha;rw [h3];exact h.row _ (zY h2)
 have at1:∀ a,a<M.length->a≠P.length->∀ c,at' ((rP i P.length j li lr M).getD a []) c=at' (swR i P.length lr row M a) c-at' (swR i P.length lr row M a) j*at' row c:=λa ha hne c=>by
  rw [get a ha,if_neg hne,yY (swl a ha hne)]
 have at2:∀ c,at' ((rP i P.length j li lr M).getD P.length []) c=at' row c:=λc=>by rw [get _ hkm,if_pos rfl]
 have dt1:∀ f a,a<M.length->a≠P.length->dot row f=0->dot ((rP i P.length j li lr M).getD a []) f=dot (swR i P.length lr row M a) f:=λf a ha hne hr=>by
  rw [get a ha,if_neg hne,j3 _ _ _ _ (swl a ha hne),hr,Zbg];grind
 have dt2:∀ f,dot ((rP i P.length j li lr M).getD P.length []) f=dot row f:=λf=>by rw [get _ hkm,if_pos rfl]
 have drow:∀ f,dot row f=(at' li j)⁻¹*dot li f:=λf=>by rw [hrow,uT]
 have pA:∀ b,b<P.length->(P++[j]).getD b 0=P.getD b 0:=λb hb=>by
  rw [Zaa,List.getElem?_append_left hb,<- Zaa]
 have pB:(P++[j]).getD P.length 0=j:=by
  rw [Zaa,List.getElem?_append_right (Zaf _),Zcd];rfl
 have plen:(P++[j]).length=P.length+1:=by rw [Zae,Zbh]
 have hPj:=h.pl;obtain ⟨O,hol,hom,hker,hrest⟩:=h.org;obtain ⟨oi,hoi,hoif⟩:=hrest i hi him;rw [gi] at hoif;refine ⟨hj,λl hl => ?_,by rw [plen];omega,by rw [plen,hml];exact hkm,λp hp => ?_,?_,λa b ha hb => ?_,λa ha c hc => ?_,λa ha c hc => ?_,⟨O++[oi],by rw [Zae,hol,plen];rfl,λo ho => ?_,λf hf hz a ha => ?_,λa ha ham => ?_⟩,λf hf hz => ?_⟩
 .obtain ⟨a,ha⟩:=List.mem_iff_getElem?.1 hl;have ham:=(List.getElem?_eq_some_iff.1 ha).1;rw [hml] at ham;have hla:(rP i P.length j li lr M).getD a []=l:=by rw [Zaa,ha];rfl
  rw [<- hla,get a ham];by_cases e:a=P.length
  .rw [if_pos e];exact hrl
  .rw [if_neg e,jA (swl a ham e),swl a ham e,hrl]
 .rcases List.mem_append.1 hp with q | q
  .exact Zfr (h.rng p q)
  .rw [List.mem_singleton.1 q];exact Nat.lt_succ_self j
 .refine List.pairwise_append.2 ⟨h.asc,List.pairwise_singleton _ _,λa ha b hb => ?_⟩;rw [List.mem_singleton.1 hb];exact h.rng a ha
 .rw [plen] at ha hb;by_cases ea:a=P.length
  .subst ea;rw [at2];by_cases eb:b=P.length
   .rw [eb,pB,rj,if_pos rfl]
   .rw [pA b (by omega),rz _ (h.rng _ (zY (by omega))),if_neg (by omega)]
  .rw [at1 a (by omega) ea,zlh a (by omega)];by_cases eb:b=P.length
   .rw [eb,pB,rj,if_neg ea];grind
   .rw [pA b (by omega),rz _ (h.rng _ (zY (by omega))),h.one a b (by omega) (by omega)];grind
 .rw [plen] at ha;by_cases ham:a<M.length
  .obtain ⟨a',h1,h2,h3⟩:=swhi a (by omega) ham;rw [at1 a ham (by omega),h3];by_cases e:c=j
   .rw [e,rj];grind
   .rw [h.zer a' h1 c (by omega),rz c (by omega)];grind
  .rw [Zaa,List.getElem?_eq_none (by rw [hml];omega)];exact jH (Zef _)
 .rw [plen] at ha;by_cases ea:a=P.length
  .rw [ea,pB] at hc;rw [ea,at2];exact rz c hc
  .rw [pA a (by omega)] at hc;have hpa:=h.rng _ (zY (l:=P) (i:=a) (d:=0) (by omega));rw [at1 a (by omega) ea,zlh a (by omega),h.lead a (by omega) c hc,rz c (by omega)];grind
 .rcases List.mem_append.1 ho with q | q
  .exact hom o q
  .rw [List.mem_singleton.1 q];exact hoi
 .rw [plen] at ha;have hO:∀ o∈O,dot o f=0:=λo ho=>hz o (Zdf _ ho);have hr:dot row f=0:=by rw [drow,hoif f hf hO,hz oi (Zdy _ (List.mem_singleton.2 rfl)),Zbg]
  by_cases ea:a=P.length
  .rw [ea,dt2];exact hr
  .rw [dt1 f a (by omega) ea hr,zlh a (by omega)];exact hker f hf hO a (by omega)
 .rw [plen] at ha;rw [hml] at ham;obtain ⟨a',h1,h2,h3⟩:=swhi a (by omega) ham;obtain ⟨o,ho,hof⟩:=hrest a' h1 h2;refine ⟨o,ho,λf hf hz => ?_⟩;have hO:∀ o∈O,dot o f=0:=λo ho=>hz o (Zdf _ ho);have hr:dot row f=0:=by rw [drow,hoif f hf hO,hz oi (Zdy _ (List.mem_singleton.2 rfl)),Zbg]
  rw [dt1 f a ham (by omega) hr,h3];exact hof f hf hO
 .refine h.full f hf λl hl => ?_;have hz':∀ a,a<M.length->dot ((rP i P.length j li lr M).getD a []) f=0:=λa ha=>hz _ (zY (by rw [hml];exact ha));have hr:dot row f=0:=by rw [<- dt2];exact hz' _ hkm
  have hlf:dot li f=0:=by
   have e:=drow f;rw [hr] at e
   grind
  obtain ⟨a,ha⟩:=List.mem_iff_getElem?.1 hl;have ham:=(List.getElem?_eq_some_iff.1 ha).1;have hla:M.getD a []=l:=by rw [Zaa,ha];rfl
  by_cases e1:a=i
  .rw [<- hla,e1,gi];exact hlf
  .by_cases e2:a=P.length
   .have:=dt1 f i him (by omega) hr;rw [hz' i him,swR,if_neg (by omega),if_pos rfl] at this;rw [<- hla,e2,gk];exact this.symm
   .have:=dt1 f a ham e2 hr;rw [hz' a ham,swR,if_neg e2,if_neg e1,hla] at this;exact this.symm
theorem zt8 {b:List Rat} {p:Nat} {x:Rat}:at' (b.set p x) p=x\/at' (b.set p x) p=at' b p:=by
 by_cases h:p<b.length
 .left;rw [at',Zaa,List.getElem?_set_self h];rfl
 .right;rw [jH (by rw [Zan];omega),jH (by omega)]
theorem bG (c j:Nat) {P:Rat->Prop}:∀ (l:List (List Rat×Nat)) (b:List Rat),(∀ x∈l,x.2=j->P (-at' x.1 c))->P (at' b j)->P (at' (oP c l b) j)
 | [],b,_,h=>h
 |(q,p)::l,b,hl,h=>by
  refine bG c j l _ (λx hx=>hl x (Zao _ hx)) ?_;by_cases e:p=j
  .subst e;rcases zt8 (b:=b) (p:=p) (x := -at' q c) with e2 | e2 <;> rw [e2]
   .exact hl (q,p) (Zaj ..) rfl
   .exact h
  .rw [zey e];exact h
theorem zrv {n c:Nat} (h:c<n):at' (gC n c) c=1:=by
 unfold gC;rw [at',Zaa,List.getElem?_set_self (by rw [Zba];exact h)];rfl
theorem zdm {n c:Nat} {O Q:List (List Rat)} {ps:List Nat} (hS:Sv n O Q ps) (hc:c<n) (hcp:c∉ps):at' (eO n Q ps c) c=1/\∀ b,b<c->at' (eO n Q ps c) b=0:=by
 have hz:∀ x∈aC Q ps,∃ a,a<Q.length/\x.1=Q.getD a []/\x.2=ps.getD a 0:=λx hx=>by
  obtain ⟨a,ha⟩:=List.mem_iff_getElem?.1 hx;obtain ⟨h1,h2⟩:=List.getElem?_zip_eq_some.1 ha;have hl:=(List.getElem?_eq_some_iff.1 h1).1;exact ⟨a,hl,by rw [Zaa,h1];rfl,by rw [Zaa,h2];rfl⟩
 unfold eO;refine ⟨bG (P:=(· = 1)) c c _ _ (λx hx e => ?_) (zrv hc),λb hb=>bG (P:=(· = 0)) c b _ _ (λx hx e => ?_) (zez (by omega))⟩
 .exact absurd (e ▸ (Zfi hx).2) hcp
 .obtain ⟨a,ha,e1,e2⟩:=hz x hx;show -at' x.1 c=0;rw [e1,hS.tri a ha c (by rw [<- e2,e];exact hb)];grind
theorem zrw {n c b:Nat} {O Q:List (List Rat)} {ps:List Nat} (hS:Sv n O Q ps) (hb:b∉ps) (hne:b≠c):at' (eO n Q ps c) b=0:=by
 unfold eO;exact bG (P:=(· = 0)) c b _ _ (λx hx e=>absurd (e ▸ (Zfi hx).2) hb) (zez hne)
theorem zhz:∀ (r f:List Rat) (p:Nat),(∀ j,j≠p->at' r j*at' f j=0)->r.length=f.length->dot r f=at' r p*at' f p
 | [],[],p,_,_=>by rw [jH (q:=[]) (by simp)];show (0:Rat)=_;grind
 | x::r,y::f,0,h,hl=>by
  have hz:dot r f=0:=by
   have hall:∀ j,at' r j*at' f j=0:=λj=>h (j+1) (by omega);have:∀ (r f:List Rat),(∀ j,at' r j*at' f j=0)->dot r f=0:=by
    intro r
    induction r with
    | nil=>intro f _;cases f <;> rfl
    | cons a r ih =>
     intro f hf;cases f with
     | nil=>rfl
     | cons b f =>
      have h0:a*b=0:=hf 0;rw [dot,h0,ih f λj=>hf (j+1)];grind
   exact this r f hall
  rw [dot,hz];show x*y+0=x*y;grind
 | x::r,y::f,p+1,h,hl=>by
  have h0:x*y=0:=h 0 (by omega);rw [dot,zhz r f p (λj hj=>h (j+1) (by omega)) (by simpa using hl),h0];show 0+at' r p*at' f p=at' r p*at' f p
  grind
 | [],_::_,_,_,hl=>by simp at hl
 | _::_,[],_,_,hl=>by simp at hl
theorem qbl {n:Nat} {O Q:List (List Rat)} {ps:List Nat} {f:List Rat} (hS:Sv n O Q ps) (hf:f.length=n) (hk:∀ q∈Q,dot q f=0) (h0:∀ c,c<n->c∉ps->at' f c=0):∀ j,at' f j=0:=λj=>by
 by_cases hj:j<n
 .by_cases hp:j∈ps
  .obtain ⟨a,ha,hx⟩:=Zgh hp;have ha':a<Q.length:=by have:=hS.len;omega
   have ea:ps.getD a 0=j:=by rw [Zaa,List.getElem?_eq_getElem ha];exact hx
   have hm:=zY (l:=Q) (d:=[]) ha';have h1:=zhz (Q.getD a []) f j (λb hb => ?_) (by rw [hS.row _ hm,hf])
   .rw [hk _ hm,<- ea,hS.one a a ha' ha',if_pos rfl,Rat.one_mul,ea] at h1;exact h1.symm
   .by_cases hbn:b<n
    .by_cases hbp:b∈ps
     .obtain ⟨d,hd,hy⟩:=Zgh hbp;have hd':d<Q.length:=by have:=hS.len;omega
      have ed:ps.getD d 0=b:=by rw [Zaa,List.getElem?_eq_getElem hd];exact hy
      have h2:=hS.one a d ha' hd';rw [ed,if_neg (λe=>hb (by rw [<- ed,<- ea,e]))] at h2;rw [h2,Zbm]
     .rw [h0 b hbn hbp,Zbg]
    .rw [jH (q:=f) (by omega),Zbg]
  .exact h0 j hj hp
 .exact jH (by omega)
end Go.Ev
namespace Go.Ev
open Go Go.Proofs
variable {B:Nat}
set_option maxRecDepth 100000
def fq (b:List Rat) (l:List Int) (j:Nat):Rat:=(l.take j).foldl (λs c=>s+at' b c.toNat) 0
theorem qT {b:List Rat} {l:List Int} {j:Nat} (h:j<l.length):fq b l (j+1)=fq b l j+at' b l[j].toNat:=by
 unfold fq;rw [Zar,List.getElem?_eq_getElem h,Zbn,Zgu];rfl
theorem zli {b:List Rat} {n:Nat} {l:List Int} (hb:b.length=n) (hl:AscL n l):∀ j,j<=l.length->fq b l j=dot (rQ n (l.take j)) b
 | 0,_=>by
  have:dot (rQ n []) b=0:=xT _ _ (wW n);rw [Zdm,this];rfl
 | j+1,hj=>by
  have hx:l[j]? = some l[j]:=List.getElem?_eq_getElem (by omega);rw [qT (by omega),zli hb hl j (by omega),Zar,hx,Zbn];refine (ze0 hb (hl.2.2 _ (Zau (by omega))) (λhm => ?_) λx hx=>(hl.2.2 _ (Zbt hx)).1).symm;obtain ⟨i,hi,he⟩:=Zgh hm;rw [Zah] at hi;rw [List.getElem_take] at he;have:=List.pairwise_iff_getElem.1 hl.2.1 i j (by omega) (by omega) (by omega);omega
theorem zfa:T9 0=.str [48]:=by rw [T9,aM.2 rfl]
abbrev eR (f:List Rat):AV:=.lst 1 f.length (f.map T9)
theorem zyk {f:List Rat} {i:Nat} (h:i<f.length):(f.map T9)[i]? = some (T9 (at' f i)):=by rw [List.getElem?_map,gY h];rfl
theorem Dn.add {t M N:Nat} {p q:Rat} (hp:Dn t M p) (hq:Dn t N q):Dn t (M+N) (p+q):=by
 obtain ⟨z,e,hz⟩:=hp;obtain ⟨w,f,hw⟩:=hq;refine ⟨z+w,by rw [Zfh];grind,?_⟩;have:=Zeb z w;omega
theorem zfb {f:List Rat} {l:List Int} {t M:Nat} (hf:∀ j,Dn t M (at' f j)):∀ j,Dn t (j*M) (fq f l j)
 | 0=>Dn.zero _ _
 | j+1=>by
  by_cases h:j<l.length
  .rw [qT h,Zbf,Zcv];exact (zfb hf j).add (hf _)
  .have e:fq f l (j+1)=fq f l j:=by unfold fq;rw [Zam (by omega),Zam (by omega)]
   rw [e];exact (zfb hf j).mono (Zax _ (by omega))
theorem zwb {t M:Nat} {q:Rat} (t1:1<=t) (t2:t<=HB) (h:Dn t M q) (hM:M<=1000*HB):q.num.natAbs<1000000000/\q.den<1000000000:=by
 have:=(h.mono hM).nm t1 (Zay t2 (by decide));have e:1000*HB<1000000000:=by decide
 exact ⟨Zcs this.1 e,Zcs this.2 e⟩
theorem zt9 {n:Nat} {lines:List (List Int)} {l:List Int} {f:List Rat} (hl0:lines[0]? = some l) (hl:l.length<=100) (hf:f.length=n) (hr:∀ c∈l,0<=c/\c<(n:Int)) (hlt:l.length<=16) {t:Nat} (t1:1<=t) (t2:t<=HB) (hQ:∀ j,Dn t HB (at' f j)):Pure Tryz.prog B 44 [.agg [I (n:Int),uq lines],eR f] (· = T9 (fq f l l.length)):=by
 refine zT λh nx K H0 hK=>zN zP yD 200 λhf' => ?_;have hlm:(lines.map Go.Ev.encI)[0]? = some (Go.Ev.encI l):=by rw [List.getElem?_map,hl0];rfl
 have hln:0<lines.length:=(List.getElem?_eq_some_iff.1 hl0).1;rw [F44.go,F44.t18,zA,F44.zy];refine H0.box (l:=[I (n:Int),uq lines]) rfl λbx h1 nx1 H1 => ?_;rw [zA,F44.zx,zA,zA,F44.jb,zJ];refine F44.aF (λk x4 x5 h' nx'=>∃ i:Nat,x4=T9 (fq f l i)/\x5=I (i:Int)/\k+i=l.length/\h'=h1/\nx'=nx1) (m:=l.length) (by omega) ⟨0,zfa.symm,rfl,rfl,rfl,rfl⟩ ?_;rintro k z4 z5 z6 h3 nx3 R ⟨i,rfl,rfl,hk,rfl,rfl⟩ hR;rw [F44.t10,zA,zA,F44.dw,sFx,H1.load (k:=0) (i:=0+1) rfl rfl,fO (j:=0) (i:=0) rfl hln,ldL hlm,yA,jq,zB,F44.v6];by_cases c:i<l.length
 .have hx:=List.getElem?_eq_getElem c;have hb:=hr _ (Zau c);have q1:=zwb t1 t2 ((zfb (l:=l) hQ i).mono (Zax HB (show i<=16 by omega))) (by decide);have q2:=zwb t1 t2 (hQ l[i].toNat) (by decide);rw [Zac (by omega),zC,zG,zA,zJ,F44.qg,F44.r4_0,F44.zdr,sFx,H1.load (k:=0) (i:=0+1) rfl rfl,fO (j:=0) (i:=0) rfl hln,ldL hlm,fO (i:=i) rfl c,F44.r4_1,F44.zds,ldL (aI hx),fO (i:=l[i].toNat) (by omega) (by omega),ldL (zyk (by omega))];refine zjh q1 q2 _ _ _ _ ?_;rintro _ rfl _;rw [F44.r4_2,F44.zwo,F44.fE,um (by omega)];exact hR (k-1) _ _ _ _ _ (by omega) ⟨i+1,by rw [qT c],by congr 1,by omega,rfl,rfl⟩
 .obtain rfl:i=l.length:=by omega
  rw [Zab (by omega),zD,zV,yC,zA,F44.fT];simp only [zE,zM];rw [F44.ret];exact hK _ _ _ _ _ H1 (zR rfl) rfl
abbrev aO (n:Nat) (Q:List (List Rat)) (ps:List Nat):List (List Rat):=(frQ n ps).map (eO n Q ps)
theorem su.cut {c:List AV} {q:List Rat} {i:Nat} (h:su c q):su (c.take (i*4)) (q.take i):=by
 refine ⟨by rw [Zah,Zah,h.1];omega,λj x hx => ?_⟩;rw [List.getElem?_take] at hx;split at hx
 case isFalse=>cases hx
 rename_i hj;obtain ⟨s,w,s',w',e,h1,h2⟩:=h.2 j x hx;refine ⟨s,w,s',w',?_,h1,h2⟩;rw [<- e];refine zq7 λt ht => ?_;rw [List.getElem?_take_of_lt (by omega)]
theorem mO {M N:Nat} {a b:Rat} (ha:jk M a) (hb:jk N b):jk (M*N) (a*b):=by
 have key:∀ {M:Nat} {a:Rat},jk M a->Dn a.den M a:=λ{M a} h=>⟨a.num,by
  have e:=u7 a;rw [Rat.divInt_eq_div] at e;have:=wH (uC a)
  grind,h.1⟩
 exact ((key ha).mul (key hb)).nm (Nat.mul_pos a.den_pos b.den_pos) (Zbk ha.2 hb.2)
theorem jk.qd {M:Nat} {q:Rat} (h:jk M q) (hM:M<1000000000):Qd q:=⟨Zcs h.1 hM,Zcs h.2 hM⟩
theorem Gd.szP {w j i:Nat} {M0 M:List (List Rat)} {P:List Nat} {li lr:List Rat} (h:Gd w M0 j M P) (hS:SmP M0) (hsg:∀ o∈M0,o.length=w/\∀ c,Sg (at' o c)) (hj:j<w) (hi:P.length<=i) (hli:M[i]? = some li) (hlr:M[P.length]? = some lr) (hv:li.getD j 0≠0) (hb:w<=12\/M.length<=11):zro j i li lr M P.length:=by
 have him:=(List.getElem?_eq_some_iff.1 hli).1;have hkm:=(List.getElem?_eq_some_iff.1 hlr).1;have hpl:=h.pl;have hP:P.length<=11:=by omega
 have gi:M.getD i []=li:=by rw [Zaa,hli];rfl
 have hsz:=h.sz hS hsg hP;have hlil:=h.row _ (Zad hli);have oD:∀ l∈M,jk (12*ZB) (l.getD j 0):=λl hl=>hsz l hl _ (Zad (gY (by rw [h.row l hl];exact hj)));have hvi:jk (12*ZB) (li.getD j 0)⁻¹:=(oD li (Zad hli)).inv;have hrow:∀ q∈li.map (· * (li.getD j 0)⁻¹),jk ZB q:=λq hq=>by
  have hq':q∈yQ (at' li j)⁻¹ li:=hq;obtain ⟨c,hc,rfl⟩:=dM hq';rw [uA,hlil] at hc;by_cases hk:P.length+1<=11
  .obtain ⟨t,t1,t2,t3,_⟩:=(h.piv hj hi hli hlr hv).col hS hsg (by rw [Zae,Zbh];exact hk) c;have:=t3 P.length (by rw [Zae,Zbh];omega);rw [xL hkm,if_pos rfl] at this;exact this.nm t1 t2
  .rcases Zgw c j with e | e | e
   .rw [gT,<- gi,h.zer i hi c e,Zbm];exact (Dn.zero 1 ZB).nm (Zaf _) (by decide)
   .have:at' (yQ (at' li j)⁻¹ li) c=1:=by rw [e,gT];have hv':at' li j≠0:=hv;grind
    rw [this];exact (Sg.q1 (.inr (.inr rfl))).mono (by decide)
   .omega
 refine ⟨hvi.qd (by decide),λq hq=>(hrow q hq).qd (by decide),λl hl q hq => ?_⟩;have hlj:jk (12*ZB) (l.getD j 0):=by
  rcases Zbe hl with e | e
  .rcases Zbe e with e | e
   .rcases Zbe e with e | e
    .exact oD l e
    .rw [e];exact oD _ (Zad hlr)
   .rw [e];exact oD _ (Zad hli)
  .rw [e];exact (hrow _ (Zad (gY (q:=li.map (· * (li.getD j 0)⁻¹)) (j:=j) (by rw [Zai,hlil];exact hj)))).mono (by decide)
 exact (mO hlj (hrow q hq)).qd (by decide)
theorem zua {M0:List (List Rat)} {w:Nat} (hS:SmP M0) (hsg:∀ o∈M0,o.length=w/\∀ c,Sg (at' o c)) (hw1:1<=w) (hw:w<=1000) (hM1:1<=M0.length) (hM:M0.length<=1000) (hb:w<=12\/M0.length<=11):Pure Tryz.prog B 190 [j6 M0] (λv=>∃ j M P,Gd w M0 j M P/\M.length=M0.length/\(j=w\/P.length=M.length)/\v=.tup [j6 (M.take P.length),.lst 1 P.length (P.map D)]):=λp h nx K hK=>by
 refine bW (λj M P=>Gd w M0 j M P) hw1 hw hM1 hM (λl hl=>(hsg l hl).1) (Gd.start λl hl=>(hsg l hl).1) (λj M P hg cj cP hm l hl q hq => ?_) (λj M P hg cj _ _ hz=>hg.skip cj hz) (λj M P i li lr hg cj cP hi hm hli hlr hv=>⟨hg.piv cj hi hli hlr hv,hg.szP hS hsg cj hi hli hlr hv (by omega)⟩) p h nx K ?_
 .have:=hg.pl;exact (hg.sz hS hsg (by omega) l hl q hq).qd (by decide)
 .rintro v ⟨j,M,P,hg,hm,_,he,rfl⟩ hf;exact hK _ ⟨j,M,P,hg,hm,he,rfl⟩ hf
theorem zlj {h0 h:T Blk} {nx p:Pa} {L:List Ob} {n:Nat} {K:Kw Prop} (H:Hp h0 h nx L) (hn:n<=1000) (hK:∀ o h' nx',Hp h0 h' nx' (.gro o 1 n ((List.replicate n (0:Rat)).map T9)::L)->K (uy o 1 n) h' nx'=.ok True):(CS Tryz.prog B).fn 36 p [I (n:Int)] h nx K=.ok True:=by
 refine zN zP yD 2000 λhf => ?_;rw [F36.go,F36.t18,zA,F36.zy,zA,F36.zx,zA,zA,F36.jb,zJ];refine F36.aF (λm x2 x3 h' nx'=>∃ (i:Nat) (o:Option Pa),x2=uy o 1 i/\x3=I (i:Int)/\m+i=n/\Hp h0 h' nx' (.gro o 1 i ((List.replicate i (0:Rat)).map T9)::L)) (m:=n) (by omega) ⟨0,none,rfl,rfl,rfl,H.ak 1⟩ ?_;rintro m z2 z3 z4 h3 nx3 R ⟨i,o,rfl,rfl,hm,H3⟩ hR;rw [F36.t10,zA,zA,F36.dw,jq,zB,F36.v4];by_cases ci:i<n
 .rw [Zac (by omega),zC,zG,zA,zJ,F36.qg];refine H3.oU (v:=.str [48]) (by omega) (by decide) rfl rfl λo' h7 nx7 H7 => ?_;rw [F36.fE,um (by omega)];refine hR (m-1) _ _ _ _ _ (by omega) ⟨i+1,o',rfl,by congr 1,by omega,?_⟩;rw [List.replicate_succ',Zbp,List.map_singleton,zfa];exact H7
 .obtain rfl:i=n:=by omega
  rw [Zab (by omega),zD,zV,yC,zA,F36.fT];simp only [zE,zM];rw [F36.ret];exact hK o _ _ H3
theorem zdn {id:Pa} {n j:Nat} {z:Int} {op:AV->OP} (hz:z=(j:Int)) (hj:j<n):zL 1 (.sl id 0 n none 1) (I z) op=op (.ptr id j):=by
 subst hz;rw [qP hj,Zbl,Zco]
theorem zrx:T9 1=.str [49]:=by
 have e:vk 1=[49]:=by
  unfold vk vg rU;rw [show (1:Int).natAbs=1 from rfl,kJ (by decide) (by decide),j8];rfl
 show AV.str (ku 1)=_;rw [ku,if_pos (show (1:Rat).den=1 from rfl),Zbi,show ((1:Rat).num)=1 from rfl,e]
theorem zh0 {h0 h:T Blk} {nx p:Pa} {L:List Ob} {n i:Nat} {lines:List (List Int)} {l:List Int} {K:Kw Prop} (H:Hp h0 h nx L) (hli:lines[i]? = some l) (hr:∀ c∈l,0<=c/\c<(n:Int)) (hn1:1<=n) (hn:n<=1000) (hll:l.length<=1000) (hK:∀ id h' nx',Hp h0 h' nx' (.gro (some id) 1 n ((rQ n l).map T9)::L)->K (.sl id 0 n none 1) h' nx'=.ok True):(CS Tryz.prog B).fn 98 p [.agg [I (n:Int),uq lines],I (i:Int)] h nx K=.ok True:=by
 refine zN zP yD 2000 λhf => ?_;have hil:=(List.getElem?_eq_some_iff.1 hli).1;have hlm:(lines.map Go.Ev.encI)[i]? = some (Go.Ev.encI l):=by rw [List.getElem?_map,hli];rfl
 rw [F98.go,F98.t18,zA,F98.zy];refine H.box (l:=[I (n:Int),uq lines]) rfl λbx h1 nx1 H1 => ?_;rw [zA,F98.zx,sFx,H1.load (k:=0) (i:=0+0) rfl rfl];refine zlj H1 hn λo h2 nx2 H2 => ?_;obtain ⟨id,rfl⟩:∃ id,o=some id:=by
  cases o with
  | none=>obtain ⟨_,hz⟩:=H2.own _ (Zaj ..);omega
  | some id=>exact ⟨id,rfl⟩
 rw [show uy (some id) 1 n=.sl id 0 n none 1 from rfl,zA,zA,F98.jb,zJ];refine F98.aF (λm x5 h' nx'=>∃ k:Nat,x5=I (k:Int)/\m+k=l.length/\nx'=nx2/\Hp h0 h' nx2 (.gro (some id) 1 n ((rQ n (l.take k)).map T9)::.arr bx [I (n:Int),uq lines]::L)) (m:=l.length) (by omega) ⟨0,rfl,rfl,rfl,H2⟩ ?_;rintro m z5 z6 h3 nx3 R ⟨k,rfl,hm,rfl,H3⟩ hR;have l1:∀ op:AV->OP,zI (.ptr bx (0+1)) h3 op=op (uq lines):=λop=>H3.load (k:=1) (i:=0+1) rfl rfl;rw [F98.t10,zA,zA,F98.dw,sFx,l1,fO (i:=i) rfl hil,ldL hlm,yA,jq,zB,F98.v6];by_cases ck:k<l.length
 .have hx:=List.getElem?_eq_getElem ck;have hc:=hr _ (Zau ck);have hql:=yH n (l.take k);rw [Zac (by omega),zC,zG,zA,zJ,F98.qg,sFx,l1,fO (i:=i) rfl hil,ldL hlm,fO (i:=k) rfl ck,ldL (aI hx),zdn (j:=l[k].toNat) (by omega) (by omega)];refine H3.oo (k:=0) (i:=l[k].toNat) rfl (by rw [Zai,hql];omega) rfl λh4 H4 => ?_;have H5:Hp h0 h4 nx3 (.gro (some id) 1 n ((rQ n (l.take (k+1))).map T9)::.arr bx [I (n:Int),uq lines]::L):=by
   have e:(rQ n (l.take (k+1))).map T9=((rQ n (l.take k)).map T9).set l[k].toNat (.str [49]):=by
    rw [Zar,hx,Zbn,cD,Zet,zrx]
   rw [e];exact H4
  rw [F98.fE,um (by omega)];exact hR (m-1) _ _ _ _ (by omega) ⟨k+1,by congr 1,by omega,rfl,H5⟩
 .rw [Zam (by omega)] at H3;rw [Zab (by omega),zD,zV,yC,zA,F98.fT];simp only [zE,zM];rw [F98.ret];exact hK id _ _ (H3.perm (.swap _ _ _)).drop
theorem zyl {P:List Nat} {c:Nat} (hP:P.length<=1000):Pure Tryz.prog B 191 [.lst 1 P.length (P.map D),I (c:Int)] (· = .bool (decide (c∈P))):=by
 refine zT λh nx K H0 hK=>zN zP yD 2000 λhf => ?_;rw [gm.go,gm.t20,zA,gm.zy,zA,zA,gm.zx,zJ];refine gm.zfl (λm x3 h' nx'=>∃ i:Nat,x3=I (i:Int)/\m+i=P.length/\c∉P.take i/\h'=h/\nx'=nx) (m:=P.length) (by omega) ⟨0,rfl,rfl,by simp,rfl,rfl⟩ ?_;rintro m z2 z3 z4 z5 h3 nx3 R ⟨i,rfl,hm,hn,rfl,rfl⟩ hR;rw [gm.t13,zA,zA,gm.jb,yA,jq,zB,gm.v4];by_cases ci:i<P.length
 .have hx:=List.getElem?_eq_getElem ci;have hxm:(P.map D)[i]? = some (D P[i]):=by rw [List.getElem?_map,hx];rfl
  rw [Zac (by omega),zC,zG,zA,zJ,zA,gm.rE,fO (i:=i) rfl ci,ldL hxm,qx,zB,gm.v5];by_cases e:P[i]=c
  .rw [Zac (by omega),zC,zA,gm.qg];simp only [zE,vN,zM];rw [gm.ret];exact hK _ _ _ _ _ H0 (.bool _) (by rw [Zac (e ▸ Zau ci)])
  .rw [Zab (by omega),zD,zG,gm.pu,um (by omega)];refine hR (m-1) _ _ _ _ _ _ (by omega) ⟨i+1,by congr 1,by omega,λhmem => ?_,rfl,rfl⟩;rw [Zar,hx,Zbn] at hmem;rcases List.mem_append.1 hmem with q | q
   .exact hn q
   .exact e (List.mem_singleton.1 q).symm
 .rw [Zam (by omega)] at hn;rw [Zab (by omega),zD,zV,yC,zA,gm.sW];simp only [zE,zM];rw [gm.ret];exact hK _ _ _ _ _ H0 (.bool _) (by rw [Zab hn])
theorem pW (R:List (List Rat)):fP (j6 R)=true:=xS λv hv=>by
 obtain ⟨l,_,rfl⟩:=List.mem_map.1 hv;exact xS λv hv=>by obtain ⟨x,_,rfl⟩:=List.mem_map.1 hv;rfl
theorem zch {M0:List (List Rat)} {Q:List (List Rat)->Prop} (h190:∀ {B},Pure Tryz.prog B 190 [j6 M0] (λv=>∃ R y,Q R/\v=.tup [j6 R,y])):Pure Tryz.prog B 100 [j6 M0] (λv=>∃ R,Q R/\v=j6 R):=by
 refine zT λh nx K H0 hK=>zN zP yD 100 λhf => ?_;rw [fH.go,fH.t5,zA,fH.zy,zA,fH.zx];refine h190 _ _ _ _ ?_;rintro _ ⟨R,y,hR,rfl⟩ _;rw [jB,zA,fH.jb];simp only [zE,zM];rw [fH.ret];exact hK _ _ _ _ _ H0 (zR (pW R)) ⟨R,hR,rfl⟩
theorem bV:Pure Tryz.prog B 190 [j6 []] (· = .tup [j6 [],.lst 1 0 []]):=by
 refine zT λh nx K H0 hK=>zN zP yD 100010 λhf => ?_;rw [zb.go,zb.t84,zA,zb.zy,zA,zb.zx];refine zq4 (M:=[]) (w:=1) H0 (Zaf _) (by decide) (by simp) (by simp) λo rs h1 nx1 hrs H1 => ?_;obtain rfl:rs=[]:=List.length_eq_zero_iff.1 hrs;have hlen:∀ KK:AV->OP,sLen (uy o 1 0) KK=KK (I 0):=λKK=>H1.oJ (k:=0) rfl;have w0:∀ {p:Pa} {KK:Kw Prop},KK (I 0) h1 nx1=.ok True->(CS Tryz.prog B).fn 196 p [uy o 1 0] h1 nx1 KK=.ok True:=λ{p KK} hKK=>by
  refine zN zP yD 100 λhf => ?_;rw [xg.go,xg.t9,zA,xg.zy,zA,zA,xg.zx,hlen,qx,Zac (by rfl),zB,xg.v2,zC,zA,xg.jb];simp only [zE,zM];rw [xg.ret];exact hKK
 rw [show ([]:List (List Rat)).length=0 from rfl,zA,zb.jb,zA,zA,zb.dw,zJ];refine zb.zuo (λm x3 x4 h' nx'=>x3=.za/\x4=I 0/\h'=h1/\nx'=nx1) (m:=0) (by omega) ⟨rfl,rfl,rfl,rfl⟩ ?_;rintro m z3 z4 z5 z6 z7 z8 z9 z10 z11 z12 z13 z14 z15 z16 z17 z18 h3 nx3 R ⟨rfl,rfl,rfl,rfl⟩ hR;rw [zb.t75,zA,zA,zb.rD,zb.r4_0,zb.zdr];refine w0 ?_;rw [zb.r4_1,zb.zds,jq,Zab (by decide)];simp only [jF];rw [zZ,zb.t5,zB,zb.v12,zD,zV,yC,zb.t80,zA,zb.zj0,yI];have cut:∀ op:AV->OP,wV 1 (uy o 1 0) none (some (I 0)) none op=op (uy o 1 0):=λop=>H1.qax (k:=0) (i:=0) (op:=op) rfl (Zaf 0);rw [cut];simp only [zE,zM];rw [zb.ret];exact hK _ _ _ _ _ H1 (jP (H1.zej (k:=0) rfl (by simp)) (.zcx 1)) rfl
def kvF (n:Nat) (E:List (List Rat)) (P:List Nat) (c:Nat):Nat->List Rat
 | 0=>gC n c
 | k+1=>(kvF n E P c k).set (P.getD k 0) (-(at' (E.getD k []) c))
abbrev rJ (n:Nat) (E:List (List Rat)) (P:List Nat) (c:Nat):List Rat:=kvF n E P c P.length
theorem qI (n:Nat) (E:List (List Rat)) (P:List Nat) (c:Nat):∀ k,(kvF n E P c k).length=n
 | 0=>gB n c
 | k+1=>by rw [kvF,Zan,qI n E P c k]
theorem zm8 {M0:List (List Rat)} {n:Nat} {QP:List (List Rat)->List Nat->Prop} {Q2:AV->Prop} (hn1:1<=n) (hn:n<=1000)
  (h190:∀ {B},Pure Tryz.prog B 190 [j6 M0] (λv=>∃ E P,QP E P/\v=.tup [j6 E,.lst 1 P.length (P.map D)]))
  (hEP:∀ E P,QP E P->E.length=P.length/\P.length<=1000/\(∀ l∈E,l.length=n/\∀ q∈l,Qd q)/\∀ p∈P,p<n)
  (h100:∀ {B} E P,QP E P->Pure Tryz.prog B 100 [j6 ((frQ n P).map (rJ n E P))] (λv=>Q2 v/\fP v=true)):Pure Tryz.prog B 101 [j6 M0,I (n:Int)] Q2:=by
 refine zT λh nx K H0 hK=>zN zP yD 2000 λhf => ?_;rw [yc.go,yc.t41,zA,yc.zy,zA,yc.zx];refine h190 _ _ _ _ ?_;rintro _ ⟨E,P,hq,rfl⟩ _;obtain ⟨hEl,hPl,qbm,hPn⟩:=hEP E P hq;rw [jB,jC,zA,yc.jb,zA,zA,yc.dw,zJ];refine yc.zzc (λq x5 x6 h' nx'=>∃ (c:Nat) (o:Option Pa) (rs:List Pa),x5=uy o 1 rs.length/\x6=I (c:Int)/\q+c=n/\rs.length=(frQ c P).length/\Hp h h' nx' (.gro o 1 rs.length (rs.map (rv9 n))::jS rs ((frQ c P).map (rJ n E P)))) (m:=n) (by omega) ⟨0,none,[],rfl,rfl,rfl,rfl,H0.ak 1⟩ ?_;rintro q z5 z6 z7 z8 z9 z10 z11 h3 nx3 R ⟨c,o,rs,rfl,rfl,hqc,hrs,H3⟩ hR;have hfl:=mV c P;rw [yc.t32,zA,zA,yc.rD,jq,zB,yc.v9];by_cases cc:c<n
 .have hfs:=zhv (c:=c) (ps:=P);rw [Zac (by omega),zC,zG,zA,zJ,zA,zA,yc.fU];refine zyl hPl _ _ _ _ ?_;rintro _ rfl _;rw [zB,yc.v10];by_cases hc:c∈P
  .rw [if_pos hc,Zbi] at hfs;rw [Zac hc,zC,zV,yC,yc.zj2,um (by omega)];exact hR (q-1) _ _ _ _ _ _ _ _ _ (by omega) ⟨c+1,o,rs,rfl,by congr 1,by omega,by rw [hfs];exact hrs,by rw [hfs];exact H3⟩
  rw [if_neg hc] at hfs;rw [Zab hc,zD,zG,zA,yc.sV];refine zlj H3 hn λo8 h4 nx4 H4 => ?_;obtain ⟨id,rfl⟩:∃ id,o8=some id:=by
   cases o8 with
   | none=>obtain ⟨_,hz⟩:=H4.own _ (Zaj ..);omega
   | some id=>exact ⟨id,rfl⟩
  rw [show uy (some id) 1 n=.sl id 0 n none 1 from rfl,zA,yc.pu,zdn (j:=c) rfl cc];refine H4.oo (k:=0) (i:=c) rfl (by rw [Zai,Zba];exact cc) rfl λh5 H5 => ?_;have H5:Hp h h5 nx4 (.gro (some id) 1 n ((gC n c).map T9)::.gro o 1 rs.length (rs.map (rv9 n))::jS rs ((frQ c P).map (rJ n E P))):=by
   have e:(gC n c).map T9=((List.replicate n (0:Rat)).map T9).set c (.str [49]):=by rw [gC,Zet,zrx]
   rw [e];exact H5
  rw [zA,zA,yc.ni,zJ];refine yc.znk (λq x8 h' nx'=>∃ k:Nat,x8=I (k:Int)/\q+k=P.length/\nx'=nx4/\Hp h h' nx4 (.gro (some id) 1 n ((kvF n E P c k).map T9)::.gro o 1 rs.length (rs.map (rv9 n))::jS rs ((frQ c P).map (rJ n E P)))) (m:=P.length) (by omega) ⟨0,rfl,rfl,rfl,H5⟩ ?_;rintro q2 w8 w11 h6 nx6 R2 ⟨k,rfl,hqk,rfl,H6⟩ hR2;rw [yc.t20,zA,zA,yc.rM,yA,jq,zB,yc.v11];by_cases ck:k<P.length
  .have hpk:(P.map D)[k]? = some (D (P.getD k 0)):=by rw [List.getElem?_map,jZ (d:=0) ck];rfl
   have hpr:=hPn _ (zY (l:=P) (i:=k) (d:=0) ck);have hEk:=jZ (l:=E) (i:=k) (d:=[]) (by omega);obtain ⟨hrl,hrq⟩:=qbm _ (zY (l:=E) (i:=k) (d:=[]) (by omega));have ecE:(E.map uX)[k]? = some (uX (E.getD k [])):=by rw [List.getElem?_map,hEk];rfl
   have hcell:((E.getD k []).map T9)[c]? = some (T9 (at' (E.getD k []) c)):=by rw [List.getElem?_map,gY (by omega)];rfl
   have hqd:=hrq _ (Zad (gY (q:=E.getD k []) (j:=c) (by omega)));have ix4:∀ op:AV->OP,zL 1 (.lst 1 P.length (P.map D)) (I (k:Int)) op=op (.fp ((P.map D).drop (k*1))):=λop=>fO rfl ck;have ld4:∀ (hh:Ev.T Blk) (op:AV->OP),zI (.fp ((P.map D).drop (k*1))) hh op=op (D (P.getD k 0)):=λhh op=>ldL hpk;rw [Zac (by omega),zC,zG,zA,zJ,yc.au,ix4,ld4,show j6 E=.lst 1 E.length (E.map uX) from rfl,fO (i:=k) rfl (by omega),ldL ecE,uX,fO (i:=c) rfl (by omega),ldL hcell];refine zq2 (Zay hqd.txt (by decide)) _ _ _ _ ?_;rintro _ rfl _;simp only [ld4,ix4,zH];rw [zdn (j:=P.getD k 0) rfl hpr];refine H6.oo (k:=0) (i:=P.getD k 0) rfl (by rw [Zai,qI];exact hpr) rfl λh7 H7 => ?_;rw [yc.zfm,um (by omega)];refine hR2 (q2-1) _ _ _ _ (by omega) ⟨k+1,by congr 1,by omega,rfl,?_⟩;rw [kvF,Zet];exact H7
  obtain rfl:k=P.length:=by omega
  have H7:=H6.oM.perm (.swap _ _ _);rw [Zab (by omega),zD,zV,yC,yc.eY];refine H7.oU (v:=rv9 n id) (by omega) (by decide) rfl rfl λo' h8 nx8 H8 => ?_;rw [yc.zj2,um (by omega)];refine hR (q-1) _ _ _ _ _ _ _ _ _ (by omega) ⟨c+1,o',rs++[id],by rw [Zae];rfl,by congr 1,by omega,by rw [hfs,Zae,Zae,hrs];rfl,?_⟩;rw [hfs,show (frQ c P++[c]).map (rJ n E P)=(frQ c P).map (rJ n E P)++[rJ n E P c] from Zbp ..,vW (by rw [Zai,hrs]),Zbp,Zae];exact H8.perm ((Zdl _ _).symm.cons _)
 obtain rfl:c=n:=by omega
 rw [Zab (by omega),zD,zV,yC,zA,yc.zfu];have fin:∀ {hh:Ev.T Blk} {L:List Ob},Hp h hh nx3 L->(CS Tryz.prog B).fn 100 (.of 100) [j6 ((frQ c P).map (rJ c E P))] hh nx3 (λv1 h2 n3=>IR.run .ret (CS Tryz.prog B) 2000 (fnO yc.res K) (zo yc.res K) (yc.fr (j6 M0) (I (c:Int)) v1 (j6 E) (.lst 1 P.length (P.map D)) (uy o 1 rs.length) (I (c:Int)) z7 z8 (.bool false) z10 z11) h2 n3)=.ok True:=by
  intro hh L HH;refine h100 E P hq _ _ _ _ ?_;rintro v ⟨hv,hfx⟩ _;simp only [zE,zM];rw [yc.ret];exact hK _ _ _ _ _ HH (zR hfx) hv
 by_cases h0:rs.length=0
 .obtain rfl:rs=[]:=List.length_eq_zero_iff.1 h0;have e0:(frQ c P).map (rJ c E P)=[]:=by rw [List.length_eq_zero_iff.1 (show (frQ c P).length=0 by rw [<- hrs];rfl)];rfl
  rw [e0] at fin;obtain ⟨h',k1,H',fz⟩:=H3.zi4 (by simp);exact dQ k1 (.cons fz .nil) (fin H')
 .obtain ⟨tid,rfl⟩:∃ id,o=some id:=by
   cases o with
   | none=>obtain ⟨_,hz⟩:=H3.own _ (Zaj ..);omega
   | some id=>exact ⟨id,rfl⟩
  have HP:PM h h3 nx3 tid rs c [] ((frQ c P).map (rJ c E P)):=⟨by rw [Zai,hrs],λl hl=>by obtain ⟨x,_,rfl⟩:=List.mem_map.1 hl;exact qI ..,by rw [Zbi];exact H3.oM⟩;obtain ⟨h',k1,H',n1,n2⟩:=HP.zwa;have fz:=ze6 HP (Zaf _) n1 n2;rw [Zcz,Zai,<- hrs] at fz;exact dQ k1 (.cons fz .nil) (fin H')
end Go.Ev
namespace Go.Ev
open Go Go.Proofs
abbrev cmb (n:Nat) (lines:List (List Int)) (i:Nat) (g:Nat->Rat) (c:Nat):Rat:=sR i λk=>g k*at' (liQ n lines k) c
structure Ds (n:Nat) (lines:List (List Int)) (i:Nat) (fr:List Nat) (D:List (Nat×List Rat)):Prop where
 frl:∀ x∈fr,x<i
 ffl:fr=(List.range i).filter λx=>decide (x∈fr)
 dix:D.map (·.1)=(List.range i).filter λx => !decide (x∈fr)
 dlen:∀ d∈D,d.2.length=d.1
 dsup:∀ d∈D,∀ k,k∉fr->at' d.2 k=0
 deq:∀ d∈D,∀ c,c<n->at' (liQ n lines d.1) c=cmb n lines d.1 (at' d.2) c
 ind:∀ g:Nat->Rat,(∀ k,k∉fr->g k=0)->(∀ c,c<n->cmb n lines i g c=0)->∀ k,g k=0
theorem Ds.nil (n:Nat) (lines:List (List Int)):Ds n lines 0 [] []:=⟨by simp,rfl,rfl,by simp,by simp,by simp,λg h _ k=>h k (by simp)⟩
theorem zfc {F:Nat->Rat} {i:Nat}:∀ {m:Nat},i<=m->(∀ k,i<=k->k<m->F k=0)->sR m F=sR i F
 | 0,h,_=>by rw [show i=0 by omega]
 | m+1,h,hz=>by
  by_cases e:i=m+1
  .rw [e]
  .rw [sR,zfc (m:=m) (by omega) λk h1 h2=>hz k h1 (by omega),hz m (by omega) (by omega),Zeu]
theorem bQ (F G:Nat->Rat):∀ k,sR k (λj=>F j+G j)=sR k F+sR k G
 | 0=>by simp only [sR];grind
 | k+1=>by rw [sR,sR,sR,bQ F G k];grind
theorem dU (c:Rat) (F:Nat->Rat):∀ k,sR k (λj=>c*F j)=c*sR k F
 | 0=>by simp only [sR];grind
 | k+1=>by rw [sR,sR,dU c F k];grind
theorem zlk (n:Nat) (lines:List (List Int)) (i:Nat) (f g:Nat->Rat) (c:Nat):cmb n lines i (λk=>f k-g k) c=cmb n lines i f c-cmb n lines i g c:=by
 have e:cmb n lines i (λk=>f k-g k) c=sR i (λk=>f k*at' (liQ n lines k) c + -1*(g k*at' (liQ n lines k) c)):=yW λk _=>by grind
 rw [e,bQ,dU];grind
theorem Ds.no {n m x:Nat} {lines:List (List Int)} {fr:List Nat} {D:List (Nat×List Rat)} (h:Ds n lines m fr D) (hx:x∈fr) {f:List Rat} (hf:f.length=x) (hs:∀ k,k∉fr->at' f k=0) (he:∀ c,c<n->at' (liQ n lines x) c=cmb n lines x (at' f) c):False:=by
 have hxm:=h.frl x hx
 have:=h.ind (λk=>(if k=x then 1 else 0)-at' f k) (λk hk=>by
  show (if k=x then 1 else 0)-at' f k=0;rw [if_neg (λe:k=x=>hk (by rw [e];exact hx)),hs k hk];grind) (λc hc=>by
  rw [zlk];have e1:cmb n lines m (λk=>if k=x then 1 else 0) c=at' (liQ n lines x) c:=by
   show sR m (λk=>(if k=x then 1 else 0)*at' (liQ n lines k) c)=_;rw [uQ (i:=x) (x:=λk=>at' (liQ n lines k) c) λb _ => ?_,if_pos hxm];by_cases e:b=x
   .rw [if_pos e,if_pos e.symm]
   .rw [if_neg e,if_neg λq=>e q.symm]
  have e2:cmb n lines m (at' f) c=cmb n lines x (at' f) c:=zfc (by omega) λk h1 h2=>by rw [jH (by omega),Zbm]
  rw [e1,e2,<- he c hc];grind) x
 have this:(if x=x then 1 else 0)-at' f x=0:=this;rw [if_pos rfl,jH (by omega)] at this
 grind
theorem Ds.unique {n m:Nat} {lines:List (List Int)} {fr fr':List Nat} {D D':List (Nat×List Rat)} (h:Ds n lines m fr D) (h':Ds n lines m fr' D'):fr=fr'/\D=D':=by
 have half:∀ {fr fr':List Nat} {D D':List (Nat×List Rat)},Ds n lines m fr D->Ds n lines m fr' D'->∀ x,(∀ y,y<x->(y∈fr↔y∈fr'))->x∈fr->x∈fr':=by
  intro fr fr' D D' h h' x hy hx;refine Classical.byContradiction λhx' => ?_;have hxm:=h.frl x hx;have:x∈D'.map (·.1):=by
   rw [h'.dix];exact List.mem_filter.2 ⟨List.mem_range.2 hxm,by simpa using hx'⟩
  obtain ⟨d,hd,rfl⟩:=List.mem_map.1 this;refine h.no hx (h'.dlen d hd) (λk hk => ?_) (h'.deq d hd);by_cases hkx:k<d.1
  .exact h'.dsup d hd k λq=>hk ((hy k hkx).2 q)
  .exact jH (by rw [h'.dlen d hd];omega)
 have iff:∀ x,x∈fr↔x∈fr':=by
  intro x
  induction x using Nat.strongRecOn with
  | _ x ih=>exact ⟨half h h' x ih,half h' h x λy hy=>(ih y hy).symm⟩
 have ef:fr=fr':=by
  rw [h.ffl,h'.ffl];exact Zen λx _=>decide_eq_decide.2 (iff x)
 refine ⟨ef,?_⟩;subst ef;have em:D.map (·.1)=D'.map (·.1):=by rw [h.dix,h'.dix]
 have el:D.length=D'.length:=by have:=congrArg List.length em;simpa using this
 refine Zcw el λa h1 h2 => ?_;have e1:D[a].1=D'[a].1:=by
  have:=congrArg (λl=>l[a]?) em;simpa [h1,h2] using this
 have m1:=Zau h1;have m2:=Zau h2;have l1:=h.dlen _ m1;have l2:=h'.dlen _ m2;have lt:D[a].1<m:=by
  have:D[a].1∈D.map (·.1):=List.mem_map.2 ⟨_,m1,rfl⟩;rw [h.dix] at this;exact List.mem_range.1 (List.mem_filter.1 this).1
 have z:=h.ind (λk=>at' D[a].2 k-at' D'[a].2 k) (λk hk=>by rw [h.dsup _ m1 k hk,h'.dsup _ m2 k hk];grind) λc hc=>by
  rw [zlk];have c1:cmb n lines m (at' D[a].2) c=cmb n lines D[a].1 (at' D[a].2) c:=zfc (by omega) λk h1 h2=>by rw [jH (by omega),Zbm]
  have c2:cmb n lines m (at' D'[a].2) c=cmb n lines D'[a].1 (at' D'[a].2) c:=zfc (by omega) λk h1 h2=>by rw [jH (by omega),Zbm]
  rw [c1,c2,<- h.deq _ m1 c hc,<- h'.deq _ m2 c hc,e1];grind
 refine Prod.ext e1 (Zcw (by omega) λk k1 k2 => ?_);have e:=z k;have a1:at' D[a].2 k=D[a].2[k]:=by rw [at',Zaa,List.getElem?_eq_getElem k1];rfl
 have a2:at' D'[a].2 k=D'[a].2[k]:=by rw [at',Zaa,List.getElem?_eq_getElem k2];rfl
 rw [<- a1,<- a2]
 grind
def cmbV (O:List (List Rat)) (g:Nat->Rat) (N:Nat):Nat->List Rat
 | 0=>List.replicate N 0
 | b+1=>jD (-(g b)) (cmbV O g N b) (O.getD b [])
theorem bC {N:Nat} {O:List (List Rat)} {g:Nat->Rat} (hO:∀ o∈O,o.length=N):∀ k,k<=O.length->(cmbV O g N k).length=N
 | 0,_=>Zba
 | k+1,hk=>by
  have:=bC (g:=g) hO k (by omega);rw [cmbV,jA (by rw [this,hO _ (zY (by omega))]),this]
theorem zll {N:Nat} {O:List (List Rat)} {g:Nat->Rat} (hO:∀ o∈O,o.length=N) (j:Nat):∀ k,k<=O.length->at' (cmbV O g N k) j=sR k λb=>at' (O.getD b []) j*g b
 | 0,_=>wW N j
 | k+1,hk=>by rw [cmbV,yY (by rw [bC hO k (by omega),hO _ (zY (by omega))]),zll hO j k (by omega),sR];grind
theorem zh1 {N:Nat} {O:List (List Rat)} {g:Nat->Rat} {f:List Rat} (hO:∀ o∈O,o.length=N):∀ k,k<=O.length->(∀ b,b<k->dot (O.getD b []) f=0)->dot (cmbV O g N k) f=0
 | 0,_,_=>xT _ _ (wW N)
 | k+1,hk,h=>by
  rw [cmbV,j3 _ _ _ _ (by rw [bC hO k (by omega),hO _ (zY (by omega))]),zh1 hO k (by omega) λb hb=>h b (by omega),h k (by omega)];grind
theorem zfd {fr:List Nat} (hnd:fr.Nodup) {m:Nat} (hl:∀ x∈fr,x<m) (F:Nat->Rat) (hz:∀ k,k∉fr->F k=0):sR fr.length (λa=>F (fr.getD a 0))=sR m F:=by
 have key:∀ (fr:List Nat),fr.Nodup->(∀ x∈fr,x<m)->∀ F:Nat->Rat,(∀ k,k∉fr->F k=0)->sR fr.length (λa=>F (fr.reverse.getD a 0))=sR m F:=by
  intro fr
  induction fr with
  | nil=>intro _ _ F hz;exact (uP λb _=>hz b (by simp)).symm
  | cons x l ih =>
   intro hnd hl F hz;obtain ⟨hx,hnd2⟩:=List.nodup_cons.1 hnd;have e:=ih hnd2 (λy hy=>hl y (Zao _ hy)) (λk=>if k=x then 0 else F k) λk hk=>by
    by_cases q:k=x
    .rw [if_pos q]
    .rw [if_neg q];exact hz k λw=>(List.mem_cons.1 w).elim q hk
   have hxm:=hl x (Zaj ..);have e2:sR m F=sR m (λk=>if k=x then 0 else F k)+F x:=by
    have:sR m F=sR m (λk=>(if k=x then 0 else F k)+(if x=k then 1 else 0)*F k):=yW λk _=>by
     by_cases q:k=x
     .rw [if_pos q,if_pos q.symm];grind
     .rw [if_neg q,if_neg λw=>q w.symm];grind
    rw [this,bQ,ze3,if_pos hxm]
   rw [Zbd,sR,e2,<- e]
   congr 1
   .refine yW λa ha => ?_;have h1:(x::l).reverse.getD a 0=l.reverse.getD a 0:=by
     rw [List.reverse_cons,Zaa,List.getElem?_append_left (by rw [Zbr];exact ha),<- Zaa]
    rw [h1,if_neg];intro q;exact hx (List.mem_reverse.1 (q ▸ zY (by rw [Zbr];exact ha)))
   .rw [List.reverse_cons,Zaa,List.getElem?_append_right (by rw [Zbr];exact Zaf _),Zbr,Zcd];rfl
 have:=key fr.reverse ((List.reverse_perm fr).nodup_iff.2 hnd) (λx hx=>hl x (List.mem_reverse.1 hx)) F λk hk=>hz k λq=>hk (List.mem_reverse.2 q);rw [Zew,Zbr] at this;exact this
theorem Dv.ds {n:Nat} {lines:List (List Int)} (hl:lines.length<=12) {fr:List Nat} {P:List (List Rat)} {ps:List Nat} {D:List (Nat×List Rat)} (h:Dv n lines lines.length fr P ps D):Ds n lines lines.length fr D:=by
 refine ⟨h.frl,h.ffl,h.dix,λd hd=>(h.dep d hd).2.1,h.dsup,λd hd=>(h.dep d hd).2.2.2,λg hg hz k => ?_⟩;have hT:=h.tv;have hol:=hT.olen;have hfl:(fr.map (lhQ n lines)).length=fr.length:=Zai ..;have at1:=λj=>zll (g:=λa=>g (fr.getD a 0)) hT.orow j fr.length (by omega);have hlen:=bC (g:=λa=>g (fr.getD a 0)) hT.orow fr.length (by omega);have low:∀ c,c<n->at' (cmbV (fr.map (lhQ n lines)) (λa=>g (fr.getD a 0)) (n+lines.length) fr.length) c=0:=λc hc=>by
  rw [at1,<- hz c hc];show _=sR lines.length λk=>g k*at' (liQ n lines k) c;rw [<- zfd h.nd h.frl (λk=>g k*at' (liQ n lines k) c) λk hk=>by rw [hg k hk,Zbm]];refine yW λa ha => ?_;rw [bZ ha,lhQ,fC (yH ..) hc,Zfn]
 have all:∀ j,j<n+lines.length->at' (cmbV (fr.map (lhQ n lines)) (λa=>g (fr.getD a 0)) (n+lines.length) fr.length) j=0:=λj hj=>by
  obtain ⟨x,hxk,_,hO⟩:=hT.sol (k:=P.length) (R:=12) (Bd:=12 ^ 12*100) (Zaf _) hj (by have:=h.cnt;omega) (by decide);have e:=zh1 (g:=λa=>g (fr.getD a 0)) hT.orow fr.length (by omega) λb hb=>hO b (by omega);rw [hT.pl (Zaf _) hj _ hlen,uP λb hb=>by rw [low _ (h.pr _ (zY (by rw [hT.len];exact hb))),Zbm],Zgd] at e;have:=wH hxk
  grind
 by_cases hk:k∈fr
 case neg=>exact hg k hk
 obtain ⟨a,ha⟩:=List.mem_iff_getElem?.1 hk;have hal:=(List.getElem?_eq_some_iff.1 ha).1;have hga:fr.getD a 0=k:=by rw [Zaa,ha];rfl
 have e:=all (n+k) (by have:=h.frl k hk;omega);rw [at1,uQ (i:=a) (x:=λb=>g (fr.getD b 0)) λb hb => ?_,if_pos hal,hga] at e
 .exact e
 .rw [bZ hb,lhQ,bI (yH ..),dR];by_cases q:a=b
  .rw [<- q,hga,if_pos ⟨rfl,h.frl k hk⟩,if_pos rfl]
  .rw [if_neg q,if_neg λw=>q ?_];have gb:=jZ (l:=fr) (i:=b) (d:=0) hb;rw [w.1,<- ha] at gb;exact ((List.getElem?_inj hb h.nd).1 gb).symm
theorem zym {P:List Nat} (h:P.Pairwise (· < ·)) {a b:Nat} (hab:a<b) (hb:b<P.length):P.getD a 0≠P.getD b 0:=by
 have:=List.pairwise_iff_getElem.1 h a b (by omega) hb hab;rw [Zaa,Zaa,List.getElem?_eq_getElem (show a<P.length by omega),List.getElem?_eq_getElem hb];exact Nat.ne_of_lt this
theorem Ds.nodup {n i:Nat} {lines:List (List Int)} {fr:List Nat} {D:List (Nat×List Rat)} (h:Ds n lines i fr D):fr.Nodup:=by
 rw [h.ffl];exact (Zdw (n:=i)).sublist Zdj
end Go.Ev
namespace Go.Ev
theorem zh2:∀ (l r:List Int),l.Nodup->(∀ x∈l,x∈r)->∃ s,r.Perm (l++s)
 | [],r,_,_=>⟨r,.refl _⟩
 | a::l,r,hn,hs=>by
  obtain ⟨h1,h2⟩:=List.nodup_cons.1 hn;have ha:=hs a (by simp);obtain ⟨s,hp⟩:=zh2 l (r.erase a) h2 λx hx=>(List.mem_erase_of_ne (by rintro rfl;exact h1 hx)).2 (hs x (by simp [hx]));exact ⟨s,(List.perm_cons_erase ha).trans (.cons a hp)⟩
abbrev upTo (n:Nat):List Int:=(List.range n).map λ(i:Nat)=>(i:Int)+1
def Rv (l cur:List Int) (i:Nat):Prop:=cur.length=l.length/\∀ t,t<l.length->cur[t]? = if t<i\/l.length<=t+i then l[l.length-1-t]? else l[t]?
theorem Rv.start (l:List Int):Rv l l 0:=⟨rfl,λt ht=>by rw [if_neg (by omega)]⟩
theorem Rv.done {l cur:List Int} {i:Nat} (h:Rv l cur i) (hi:l.length<=2*i+1):cur=l.reverse:=by
 refine Zca λt => ?_;by_cases ht:t<l.length
 .rw [h.2 t ht,List.getElem?_reverse ht];by_cases c:t<i\/l.length<=t+i
  .rw [if_pos c]
  .rw [if_neg c,show l.length-1-t=t by omega]
 .rw [List.getElem?_eq_none (by rw [h.1];omega),List.getElem?_eq_none (by simp;omega)]
theorem Rv.step {l cur:List Int} {i j:Nat} {a b:Int} (h:Rv l cur i) (hij:i<j) (hs:i+j+1=l.length) (ha:cur[i]? = some a) (hb:cur[j]? = some b):Rv l ((cur.set i b).set j a) (i+1):=by
 obtain ⟨hl,hg⟩:=h;refine ⟨by simp [hl],λt ht => ?_⟩;have e1:=hg i (by omega);have e2:=hg j (by omega);rw [if_neg (by omega),ha] at e1;rw [if_neg (by omega),hb] at e2;rw [List.getElem?_set,List.getElem?_set,Zan];by_cases c1:j=t
 .subst c1;rw [if_pos rfl,if_pos (by omega),if_pos (by omega),show l.length-1-j=i by omega];exact e1
 .rw [if_neg c1];by_cases c2:i=t
  .subst c2;rw [if_pos rfl,if_pos (by omega),if_pos (by omega),show l.length-1-i=j by omega];exact e2
  .rw [if_neg c2,hg t ht];by_cases c3:t<i\/l.length<=t+i
   .rw [if_pos c3,if_pos (by omega)]
   .rw [if_neg c3,if_neg (by omega)]
section
variable {σ α:Type}
end
end Go.Ev
namespace Go.Ev
def zlm (ag:List Int->Bool) (n:Nat):Nat->List Int->List (List Int)
 | 0,pre=>if ag pre then [pre] else []
 | r+1,pre=>if ag pre then (upTo n).flatMap λx=>if x∈pre then [] else zlm ag n r (pre++[x]) else []
def SpOK (M:Int) (q:List (Int×Int)):Prop:=q.Pairwise (λa b=>a.1<b.1)/\∀ p∈q,0<=p.1/\p.1<=M
theorem SpOK.len {q:List (Int×Int)} (h:SpOK 9000 q):q.length<=9001:=by
 obtain ⟨t,ht⟩:=zh2 (q.map (·.1)) ((List.range 9001).map λ(i:Nat)=>(i:Int)) (by
  rw [Zfb,Zfs];exact h.1.imp λ{a b} q e=>by omega) λx hx=>by
  obtain ⟨p,hp,rfl⟩:=List.mem_map.1 hx;have:=h.2 p hp;exact List.mem_map.2 ⟨p.1.toNat,List.mem_range.2 (by omega),by omega⟩
 have:=ht.length_eq;rw [Zai,Zdd,Zae,Zai] at this;omega
def Here (ag:List Int->Bool):Prop:=∀ pre x,ag (pre++[x])=true->ag pre=true
theorem Here.down {ag q:List Int->Bool} {n:Nat} (hh:Here ag):∀ {r:Nat} {pre f:List Int},f∈zlm q n r pre->ag f=true->ag pre=true
 | 0,pre,f,h,ha=>by
  rw [zlm] at h;split at h
  .simp at h;subst h;exact ha
  .simp at h
 | r+1,pre,f,h,ha=>by
  rw [zlm] at h;split at h
  .obtain ⟨x,_,hx⟩:=List.mem_flatMap.1 h;split at hx
   .simp at hx
   .exact hh _ _ (Here.down hh hx ha)
  .simp at h
end Go.Ev
namespace Go.Ev
open Go Go.Proofs
variable {B:Nat}
set_option maxRecDepth 100000
theorem pQ {α:Type} [DecidableEq α]:∀ (l r:List α),l.Nodup->(∀ x∈l,x∈r)->∃ s,r.Perm (l++s)
 | [],r,_,_=>⟨r,.refl _⟩
 | a::l,r,hn,hs=>by
  obtain ⟨h1,h2⟩:=List.nodup_cons.1 hn;have ha:=hs a (by simp);obtain ⟨s,hp⟩:=pQ l (r.erase a) h2 λx hx=>(List.mem_erase_of_ne (by rintro rfl;exact h1 hx)).2 (hs x (by simp [hx]));exact ⟨s,(List.perm_cons_erase ha).trans (.cons a hp)⟩
theorem vF {α:Type} [DecidableEq α] {l r:List α} (h1:l.Nodup) (h2:∀ x∈l,x∈r) (h3:r.length<=l.length):r.Perm l:=by
 obtain ⟨s,hs⟩:=pQ l r h1 h2;have hl:=hs.length_eq;obtain rfl:s=[]:=Zci (by rw [Zae] at hl;omega);simpa using hs
end Go.Ev
