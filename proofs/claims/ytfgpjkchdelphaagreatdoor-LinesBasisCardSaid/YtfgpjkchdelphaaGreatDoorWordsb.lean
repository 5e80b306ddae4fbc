import Derived.Test.YtfgpjkchdelphaaGreatDoorWordsa
import Derived.Test.YtfgpjkchdelphaaGreatDoorCodea
import Derived.Test.YtfgpjkchdelphaaGreatDoorEvD
import GoSem.Core.Next
import Derived.Sort.Grow
import Derived.Sort.Row
import Derived.Test.YtfgpjkchdelphaaGreatDoorCodeb
set_option linter.unusedSimpArgs false
set_option linter.unusedVariables false
namespace Go.Ev
open Go Go.Proofs
abbrev SL (n:Nat) (o4 o5:Option Pa) (rs:List Pa) (cs:List (List AV)) (ps:List Nat) (T:List Ob):List Ob :=
 .gro o4 1 rs.length (rs.map (rwV n))::.gro o5 1 ps.length (ps.map λp=>I ((p:Nat):Int))::(List.zipWith Ob.arr rs cs++T)
structure SM (rs:List Pa) (cs:List (List AV)) (Q:List (List Rat)):Prop where
 lr:rs.length=Q.length
 lc:cs.length=Q.length
 row:∀ a,a<Q.length->su (cs.getD a []) (Q.getD a [])
theorem xR {rs:List Pa} {cs:List (List AV)} {Q:List (List Rat)} (S:SM rs cs Q):(List.zipWith Ob.arr rs cs).length=Q.length:=by
 rw [Zdo,S.lr,S.lc,Nat.min_self]
theorem SM.ob {rs:List Pa} {cs:List (List AV)} {Q:List (List Rat)} (S:SM rs cs Q) {n a:Nat} {o4 o5:Option Pa} {ps:List Nat} {T:List Ob} (ha:a<Q.length) (X:List Ob) :
  ∃ r,rs[a]? = some r/\(X++SL n o4 o5 rs cs ps T)[X.length+(a+2)]? = some (.arr r (cs.getD a [])):=by
 have hr:rs[a]? = some (rs[a]'(by rw [S.lr];exact ha)):=Zgv _;have hc:cs[a]? = some (cs.getD a []):=j7 (by rw [S.lc];exact ha);refine ⟨_,hr,?_⟩;rw [Zgy (by omega),Zct];show (List.zipWith Ob.arr rs cs++T)[a]? = _;rw [Zhb (by rw [xR S];exact ha),Zhh,hr,hc]
theorem zkv:∀ {rs:List Pa} {cs:List (List AV)} {a:Nat} {r:Pa} {c:List AV},rs[a]? = some r->(List.zipWith Ob.arr rs cs).set a (.arr r c)=List.zipWith Ob.arr rs (cs.set a c)
 | [],_,_,_,_,h=>by simp at h
 | _::_,[],_,_,_,_=>by simp
 | x::rs,y::cs,0,r,c,h=>by
  obtain rfl:=Option.some.inj h
  rfl
 | x::rs,y::cs,a+1,r,c,h=>by
  have:=zkv (rs:=rs) (cs:=cs) (a:=a) (r:=r) (c:=c) (by simpa using h);simp [this]
theorem SM.put {rs:List Pa} {cs:List (List AV)} {Q:List (List Rat)} (S:SM rs cs Q) {n a:Nat} {o4 o5:Option Pa} {ps:List Nat} {T:List Ob} {r:Pa} {c:List AV} {q:List Rat} (ha:a<Q.length) (hr:rs[a]? = some r) (hc:su c q) (X:List Ob) :
  SM rs (cs.set a c) (Q.set a q)/\(X++SL n o4 o5 rs cs ps T).set (X.length+(a+2)) (.arr r c)=X++SL n o4 o5 rs (cs.set a c) ps T:=by
 refine ⟨⟨by rw [Zan];exact S.lr,by rw [Zan,Zan];exact S.lc,λb hb => ?_⟩,?_⟩
 .rw [Zan] at hb;by_cases e:b=a
  .subst e;rw [Zaa,Zaa,Zhc (by rw [S.lc];exact hb),Zhc hb];exact hc
  .rw [Zaa,Zaa,Zhd (by omega),Zhd (by omega),<- Zaa,<- Zaa];exact S.row b hb
 .rw [List.set_append_right _ _ (by omega),Zct];show X++(Ob.gro o4 1 rs.length (rs.map (rwV n))::Ob.gro o5 1 ps.length (ps.map λp=>I ((p:Nat):Int))::(List.zipWith Ob.arr rs cs++T).set a (.arr r c))=_;rw [List.set_append_left _ _ (by rw [xR S];exact ha),zkv hr]
theorem SM.add {rs:List Pa} {cs:List (List AV)} {Q:List (List Rat)} (S:SM rs cs Q) {r:Pa} {c:List AV} {q:List Rat} (hc:su c q):SM (rs++[r]) (cs++[c]) (Q++[q]):=by
 refine ⟨by simp [S.lr],by simp [S.lc],λb hb => ?_⟩;rw [Zae,Zbq] at hb;by_cases e:b<Q.length
 .rw [Zaa,Zaa,Zhb (by rw [S.lc];exact e),Zhb e,<- Zaa,<- Zaa];exact S.row b e
 .obtain rfl:b=Q.length:=by omega
  rw [Zaa,Zaa,Zgy (by rw [S.lc];exact Zaf _),Zgy (Zaf _),S.lc,Zcw];exact hc
theorem zkw {rs:List Pa} {cs:List (List AV)} {r:Pa} {c:List AV} (h:rs.length=cs.length):List.zipWith Ob.arr (rs++[r]) (cs++[c])=List.zipWith Ob.arr rs cs++[.arr r c]:=by
 rw [List.zipWith_append h];rfl
theorem zq8 {a g4 g5:Ob} {Z T:List Ob}:(a::g4::g5::(Z++T)).Perm (g4::g5::((Z++[a])++T)):=by
 refine (List.Perm.swap ..).trans (List.Perm.cons _ ((List.Perm.swap ..).trans (List.Perm.cons _ ?_)));rw [Zcg];exact List.perm_middle.symm
theorem zq9 {α:Type} {l e:List α} {c:Nat} {q:α} (hle:e.length=l.length) (hq:e[c]? = some q):(e.take c++l.drop c).set c q=e.take (c+1)++l.drop (c+1):=by
 have hc:=(Zgw.1 hq).1;rw [Zbb (show c<l.length by omega),dU (by rw [Zai];omega),Zaq,hq];simp
theorem qb7 {α:Type} {l e:List α} {c:Nat} {q:α} (hle:e.length=l.length) (hq:l[c]? = some q):(e.take c++l.drop c)[c]? = some q:=by
 have hc:=(Zgw.1 hq).1;rw [Zgy (by rw [Zai];omega),Zai,Zhf,show c+(c-min c e.length)=c by omega];exact hq
theorem mU:∀ (l:List Int) (q:List Rat) (j:Nat),(at' q j=0\/at' q j=1)->at' (l.foldl (λq c=>q.set c.toNat 1) q) j=0\/at' (l.foldl (λq c=>q.set c.toNat 1) q) j=1
 | [],_,_,h=>h
 | c::l,q,j,h=>by
  rw [Zfc];refine mU l _ j ?_;by_cases e:c.toNat=j
  .by_cases hj:j<q.length
   .right;rw [at',Zaa,e,Zhc hj];rfl
   .left;exact jV (by rw [Zan];omega)
  .rw [at',Zaa,Zhd e,<- Zaa];exact h
theorem wT (n:Nat) (l:List Int) (j:Nat):at' (sP n l) j=0\/at' (sP n l) j=1:=by
 refine mU l _ j (.inl ?_);by_cases hj:j<n
 .rw [at',Zaa,Zhm,if_pos hj];rfl
 .exact jV (by rw [Zav];omega)
def aT (n:Nat) (lines:List (List Int)) (i:Nat):List Rat:=jX 1 (sP n (lines.getD i [])) (sP n (lines.getD 0 []))
theorem vS (n:Nat) (lines:List (List Int)) (i:Nat):(aT n lines i).length=n:=by unfold aT;rw [gB (by rw [yR,yR]),yR]
theorem mE (n:Nat) (lines:List (List Int)) (i j:Nat):Sg (at' (aT n lines i) j):=by
 unfold aT;rw [gZ (by rw [yR,yR])];rcases wT n (lines.getD i []) j with e | e <;> rcases wT n (lines.getD 0 []) j with f | f <;> rw [e,f]
 .right;left;grind
 .left;grind
 .right;right;grind
 .right;left;grind
def Mgf (n:Nat) (lines:List (List Int)) (f:List Rat):Prop:=f.length=n/\∀ l∈lines,dot (sP n l) f=dot (sP n (lines.getD 0 [])) f
theorem zra {n:Nat} {lines:List (List Int)} {f:List Rat} (h:Mgf n lines f) {i:Nat} (hi:i<lines.length):dot (aT n lines i) f=0:=by
 unfold aT;rw [uA _ _ _ _ (by rw [yR,yR]),h.2 _ (yF hi)];grind
theorem zcd {n:Nat} {f:List Rat}:∀ (l:List (List Rat×Nat)) (r:List Rat),(∀ x∈l,x.1.length=n/\dot x.1 f=0)->r.length=n->dot (redF l r) f=dot r f
 | [],r,_,_=>rfl
 |(q,p)::l,r,h,hr=>by
  obtain ⟨h1,h2⟩:=h (q,p) (Zaj ..);have hl:r.length=q.length:=by rw [hr];exact h1.symm
  rw [redF,zcd l _ (λx hx=>h x (Zap _ hx)) (by rw [gB hl];exact hr),uA _ _ _ _ hl];have h2:dot q f=0:=h2;rw [h2];grind
end Go.Ev
namespace Go.Ev
open Go Go.Proofs
variable {B:Nat}
set_option maxRecDepth 100000
theorem zrb {h0 h:T Blk} {nx p:Pa} {L:List Ob} {k x:Nat} {o:Option Pa} {l:List Nat} {K:Kw Prop} (H:Hp h0 h nx L) (hk:L[k]? = some (.gro o 1 l.length (l.map λp=>I ((p:Nat):Int)))) (hl:l.length<=1000) (hK:∀ z:Int,(0<=z↔x∈l)->K (I z) h nx=.ok True):(CS Tryz.prog B).fn 247 p [uw o 1 l.length,I (x:Int)] h nx K=.ok True:=by
 refine zL zN yC 2000 λhf => ?_;rw [ji.go,ji.t22,zA,ji.zu,zA,zA,ji.zo,H.zbp hk,zI];refine ji.zab (λm x5 h' nx'=>∃ i:Nat,x5=I (i:Int)/\m+i=l.length/\x∉l.take i/\h'=h/\nx'=nx) (m:=l.length) (by omega) ⟨0,rfl,rfl,by simp,rfl,rfl⟩ ?_;rintro m z2 z3 z5 z6 z7 h3 nx3 R ⟨i,rfl,hm,hn,rfl,rfl⟩ hR;rw [ji.t15,zA,ji.yw,jf,zA,zB,ji.v6];by_cases ci:i<l.length
 .have hx:l[i]? = some l[i]:=Zgv ci;obtain ⟨id,g,d⟩:=H.zdc hk (j:=i) (v:=I ((l[i]:Nat):Int)) (by rw [Zgx,hx];rfl);rw [Zac (by omega),zC,zE,zA,zI,zA,ji.ng,zA,ji.fZ,g,d,qz,zB,ji.v7];by_cases e:x=l[i]
  .rw [Zac (by omega),zC,zA,ji.uy];simp only [zF,vI,zO];rw [ji.ret];exact hK _ ⟨λ_=>e ▸ Zat ci,λ_=>by omega⟩
  .rw [Zab (by omega),zD,zE,ji.rH,jo (by omega)];refine hR (m-1) _ _ _ _ _ _ _ (by omega) ⟨i+1,by congr 1,by omega,?_,rfl,rfl⟩;rw [Zaq,hx,Zcm,Zbf,Zaz];exact λq=>q.elim hn e
 .rw [Zab (by omega),zD,zX,yD,zA,ji.sJ];simp only [zF,zO];rw [ji.ret];rw [Zak (by omega)] at hn;exact hK _ ⟨λq=>by omega,λq=>absurd q hn⟩
theorem zt1 {h0 h:T Blk} {nx p:Pa} {L:List Ob} {k x:Nat} {o:Option Pa} {l:List Nat} {K:Kw Prop} (H:Hp h0 h nx L) (hk:L[k]? = some (.gro o 1 l.length (l.map λp=>I ((p:Nat):Int)))) (hl:l.length<=1000) (hK:K (.bool (decide (x∈l))) h nx=.ok True):(CS Tryz.prog B).fn 182 p [uw o 1 l.length,I (x:Int)] h nx K=.ok True:=by
 refine zL zN yC 2000 λhf => ?_;rw [nY.go,nY.t3,zA,nY.zu,zA,nY.zo];refine zrb H hk hl λz hz => ?_;rw [fM];simp only [zF,zO];rw [nY.ret];have:decide (0<=z)=decide (x∈l):=decide_eq_decide.2 hz;rw [this];exact hK
def eZ (c:Nat):List (List Rat×Nat)->List Rat->List Rat
 | [],b=>b
 |(q,p)::l,b=>eZ c l (b.set p (-at' q c))
theorem zdr (c:Nat) (q:List Rat) (p:Nat):∀ (l:List (List Rat×Nat)) (b:List Rat),eZ c (l++[(q,p)]) b=(eZ c l b).set p (-at' q c)
 | [],b=>rfl
 |(q',p')::l,b=>by rw [Zbt,eZ,zdr c q p l,eZ]
theorem bB (c:Nat):∀ (l:List (List Rat×Nat)) (b:List Rat),(eZ c l b).length=b.length
 | [],_=>rfl
 |(q,p)::l,b=>by rw [eZ,bB c l,Zan]
def uD (n c:Nat):List Rat:=(List.replicate n 0).set c 1
def aN (n:Nat) (Q:List (List Rat)) (ps:List Nat) (c:Nat):List Rat:=eZ c (oW Q ps) (uD n c)
theorem gV (n c:Nat):(uD n c).length=n:=by unfold uD;rw [Zan,Zav]
theorem dL (n:Nat) (Q:List (List Rat)) (ps:List Nat) (c:Nat):(aN n Q ps c).length=n:=by unfold aN;rw [bB,gV]
theorem zkx (c j:Nat) {P:Rat->Prop}:∀ (l:List (List Rat×Nat)) (b:List Rat),(∀ x∈l,P (-at' x.1 c))->P (at' b j)->P (at' (eZ c l b) j)
 | [],_,_,h=>h
 |(q,p)::l,b,hl,h=>by
  rw [eZ];refine zkx c j l _ (λx hx=>hl x (Zap _ hx)) ?_;by_cases e:p=j
  .by_cases hj:j<b.length
   .rw [at',Zaa,e,Zhc hj];exact hl (q,p) (Zaj ..)
   .rw [jV (by rw [Zan];omega)]
    rwa [jV (by omega)] at h
  .rw [at',Zaa,Zhd e,<- Zaa];exact h
theorem zrc (n c j:Nat):at' (uD n c) j=0\/at' (uD n c) j=1:=by
 unfold uD;by_cases e:c=j
 .by_cases hj:j<n
  .right;rw [at',Zaa,e,Zhc (by rw [Zav];exact hj)];rfl
  .left;exact jV (by rw [Zan,Zav];omega)
 .left
  rw [at',Zaa,Zhd e];by_cases hj:j<n
  .rw [Zhm,if_pos hj];rfl
  .rw [Zha (by rw [Zav];omega)];rfl
theorem Dn.neg {t M:Nat} {q:Rat} (h:Dn t M q):Dn t M (-q):=by
 obtain ⟨z,e,hz⟩:=h;exact ⟨-z,by rw [Zcn];grind,by omega⟩
theorem c6:∀ (b g:List Rat) (p:Nat) (x:Rat),p<b.length->b.length=g.length->dot (b.set p x) g=dot b g+(x-at' b p)*at' g p
 | [],_,p,x,h,_=>by simp at h
 | y::b,[],p,x,h,h2=>by simp at h2
 | y::b,z::g,0,x,_,_=>by
  rw [Zfh,dot,dot];show _=_+(x-y)*z
  grind
 | y::b,z::g,p+1,x,h,h2=>by
  have ih:=c6 b g p x (by simpa using h) (by simpa using h2);rw [Zfk,dot,dot,ih];show _=_+(x-at' b p)*at' g p
  grind
def sumA (c:Nat) (g:List Rat):List (List Rat×Nat)->Rat
 | []=>0
 |(q,p)::l=>at' g p*at' q c+sumA c g l
theorem zjk {b:List Rat} {p j:Nat} {x:Rat} (h:p≠j):at' (b.set p x) j=at' b j:=by
 rw [at',Zaa,Zhd h,<- Zaa]
theorem zhr {n c:Nat} {g:List Rat} (hg:g.length=n):∀ (l:List (List Rat×Nat)) (b:List Rat),b.length=n->(l.map (·.2)).Nodup->(∀ x∈l,x.2<n/\at' b x.2=0)->dot (eZ c l b) g=dot b g-sumA c g l
 | [],b,_,_,_=>by rw [eZ,sumA];grind
 |(q,p)::l,b,hb,hd,hz=>by
  obtain ⟨h1,h2⟩:=hz (q,p) (Zaj ..);have h1:p<n:=h1;have h2:at' b p=0:=h2;rw [Zdu,Zeh] at hd;rw [eZ,zhr hg l _ (by rw [Zan];exact hb) hd.2 (λx hx => ?_),c6 _ _ _ _ (by omega) (by omega),h2,sumA]
  .grind
  .obtain ⟨h3,h4⟩:=hz x (Zap _ hx);refine ⟨h3,?_⟩;rw [zjk (λe=>hd.1 (Zar.2 ⟨x,hx,e.symm⟩))];exact h4
end Go.Ev
namespace Go.Ev
open Go Go.Proofs
theorem gF:∀ (a b:List Rat),dot a b=dot b a
 | [],[]=>rfl
 | [],_::_=>rfl
 | _::_,[]=>rfl
 | x::a,y::b=>by rw [dot,dot,gF a b];grind
theorem mZ:∀ (r f:List Rat),(∀ j,at' r j=0)->dot r f=0
 | [],_,_=>by cases ‹List Rat› <;> rfl
 | x::r,[],_=>rfl
 | x::r,y::f,h=>by
  have h0:x=0:=h 0;rw [dot,mZ r f λj=>h (j+1),h0];grind
theorem ze8 (n j:Nat):at' (List.replicate n (0:Rat)) j=0:=by
 by_cases hj:j<n
 .rw [at',Zaa,Zhm,if_pos hj];rfl
 .exact jV (by rw [Zav];omega)
theorem zrd {n c:Nat} {g:List Rat} (hg:g.length=n) (hc:c<n):dot (uD n c) g=at' g c:=by
 unfold uD;rw [c6 _ _ _ _ (by rw [Zav];exact hc) (by rw [Zav];exact hg.symm),ze8,mZ _ _ (ze8 n)];grind
theorem ze9 {n c j:Nat} (h:j≠c):at' (uD n c) j=0:=by
 unfold uD;rw [zjk (λe=>h e.symm),ze8]
theorem zds (c:Nat) (g:List Rat) (q:List Rat) (p:Nat):∀ l:List (List Rat×Nat),sumA c g (l++[(q,p)])=sumA c g l+at' g p*at' q c
 | []=>by simp only [Zbk,sumA];grind
 |(q',p')::l=>by rw [Zbt,sumA,sumA,zds c g q p l];grind
theorem zt2 {Q:List (List Rat)} {ps:List Nat} (h:ps.length=Q.length):(oW Q ps).map (·.2)=ps:=by
 exact List.map_snd_zip (by omega)
def wdg:List Int->(List Bool->Int)->List Bool->Int
 | _::a,w,false::s=>wdg a (λt=>w (false::t)) s
 | x::a,w,true::s=>x*w (false::s)-wdg a (λt=>w (true::t)) s
 | _,_,_=>0
def ctr:List Int->(List Bool->Int)->List Bool->Int
 | x::a,w,false::s=>ctr a (λt=>w (false::t)) s+x*w (true::s)
 | _::a,w,true::s => -ctr a (λt=>w (true::t)) s
 | _,_,_=>0
def ipf:Nat->(List Bool->Int)->(List Bool->Int)->Int
 | 0,v,w=>v []*w []
 | n+1,v,w=>ipf n (λt=>v (false::t)) (λt=>w (false::t))+ipf n (λt=>v (true::t)) (λt=>w (true::t))
def sqV:List Int->Int
 | []=>0
 | x::a=>x*x+sqV a
def dtI:List Int->List Int->Int
 | x::a,y::b=>x*y+dtI a b
 | _,_=>0
theorem kJ:∀ n v w,ipf n v w=ipf n w v
 | 0,_,_=>Int.mul_comm ..
 | n+1,v,w=>by rw [ipf,ipf,kJ n,kJ n (λt=>v (true::t))]
theorem cZ (c:Int):∀ n u v w,ipf n u (λs=>c*v s-w s)=c*ipf n u v-ipf n u w
 | 0,_,_,_=>by simp only [ipf];grind
 | n+1,u,v,w=>by
  simp only [ipf];rw [cZ c n _ (λt=>v (false::t)) (λt=>w (false::t)),cZ c n _ (λt=>v (true::t)) (λt=>w (true::t))];grind
theorem mP (c:Int):∀ n u v w,ipf n (λs=>v s+c*w s) u=ipf n v u+c*ipf n w u
 | 0,_,_,_=>by simp only [ipf];grind
 | n+1,u,v,w=>by
  simp only [ipf];rw [mP c n _ (λt=>v (false::t)) (λt=>w (false::t)),mP c n _ (λt=>v (true::t)) (λt=>w (true::t))];grind
theorem cY:∀ n u v,ipf n (λs => -v s) u = -ipf n v u
 | 0,_,_=>by simp only [ipf];grind
 | n+1,u,v=>by
  simp only [ipf];rw [cY n _ (λt=>v (false::t)),cY n _ (λt=>v (true::t))];grind
theorem zce:∀ n w,ipf n (λ_=>0) w=0
 | 0,_=>Int.zero_mul _
 | n+1,w=>by rw [ipf,zce n,zce n];rfl
theorem wS:∀ n w,0<=ipf n w w
 | 0,w=>by
  rcases Int.le_total 0 (w []) with h | h
  .exact Zgi h h
  .exact Zdv h h
 | n+1,w=>Int.add_nonneg (wS n _) (wS n _)
theorem zky (x:Int):0<=x*x:=by
 rcases Int.le_total 0 x with h | h
 .exact Zgi h h
 .exact Zdv h h
theorem zjl:∀ (a:List Int) (v w),ipf a.length v (wdg a w)=ipf a.length (ctr a v) w
 | [],v,w=>by simp only [ipf,wdg,ctr,Zfb];grind
 | x::a,v,w=>by
  show ipf a.length (λt=>v (false::t)) (wdg a λt=>w (false::t))+ipf a.length (λt=>v (true::t)) (λs=>x*w (false::s)-wdg a (λt=>w (true::t)) s)=ipf a.length (λs=>ctr a (λt=>v (false::t)) s+x*v (true::s)) (λt=>w (false::t))+ipf a.length (λs => -ctr a (λt=>v (true::t)) s) (λt=>w (true::t));rw [zjl a,cZ x _ _ (λs=>w (false::s)) (λs=>wdg a (λt=>w (true::t)) s),mP x _ _ (λs=>ctr a (λt=>v (false::t)) s) (λs=>v (true::s)),cY,show (λs=>wdg a (λt=>w (true::t)) s)=wdg a λt=>w (true::t) from rfl,zjl a]
  grind
theorem zcf:∀ (a:List Int) w,ipf a.length (wdg a w) (wdg a w)+ipf a.length (ctr a w) (ctr a w)=sqV a*ipf a.length w w
 | [],w=>by simp only [ipf,wdg,ctr,sqV,Zfb];grind
 | x::a,w=>by
  have e1:=zcf a λt=>w (false::t);have e2:=zcf a λt=>w (true::t);have e3:=zjl a (λt=>w (false::t)) (λt=>w (true::t));show ipf a.length (wdg a λt=>w (false::t)) (wdg a λt=>w (false::t))+ipf a.length (λs=>x*w (false::s)-wdg a (λt=>w (true::t)) s) (λs=>x*w (false::s)-wdg a (λt=>w (true::t)) s)+(ipf a.length (λs=>ctr a (λt=>w (false::t)) s+x*w (true::s)) (λs=>ctr a (λt=>w (false::t)) s+x*w (true::s))+ipf a.length (λs => -ctr a (λt=>w (true::t)) s) (λs => -ctr a (λt=>w (true::t)) s))=(x*x+sqV a)*(ipf a.length (λt=>w (false::t)) (λt=>w (false::t))+ipf a.length (λt=>w (true::t)) (λt=>w (true::t)));have c1:∀ u,ipf a.length u (λs=>x*w (false::s)-wdg a (λt=>w (true::t)) s)=x*ipf a.length u (λs=>w (false::s))-ipf a.length u (wdg a λt=>w (true::t)):=λu=>cZ x _ _ (λs=>w (false::s)) (λs=>wdg a (λt=>w (true::t)) s);have c2:∀ u,ipf a.length (λs=>ctr a (λt=>w (false::t)) s+x*w (true::s)) u=ipf a.length (ctr a λt=>w (false::t)) u+x*ipf a.length (λs=>w (true::s)) u:=λu=>mP x _ _ (λs=>ctr a (λt=>w (false::t)) s) (λs=>w (true::s));have c3:∀ u,ipf a.length (λs => -ctr a (λt=>w (true::t)) s) u = -ipf a.length (ctr a λt=>w (true::t)) u:=λu=>cY ..;rw [c1,kJ _ (λs=>x*w (false::s)-wdg a (λt=>w (true::t)) s),c1,kJ _ (λs=>x*w (false::s)-wdg a (λt=>w (true::t)) s),c1,c2,c3,kJ _ _ (λs => -ctr a (λt=>w (true::t)) s),c3,kJ _ _ (λs=>ctr a (λt=>w (false::t)) s+x*w (true::s)),c2,kJ _ _ (λs=>ctr a (λt=>w (false::t)) s+x*w (true::s)),c2];rw [kJ _ (wdg a λt=>w (true::t)) (λs=>w (false::s)),kJ _ (λs=>w (true::s)) (ctr a λt=>w (false::t)),e3]
  grind
theorem zre (a:List Int) (w):ipf a.length (wdg a w) (wdg a w)<=sqV a*ipf a.length w w:=by
 have:=zcf a w;have:=wS a.length (ctr a w);omega
theorem p8 (c:Int):∀ (a:List Int) v w s,wdg a (λt=>c*v t-w t) s=c*wdg a v s-wdg a w s
 | [],_,_,_=>by simp only [wdg];grind
 | _::_,_,_,[]=>by simp only [wdg];grind
 | x::a,v,w,false::s=>p8 c a (λt=>v (false::t)) (λt=>w (false::t)) s
 | x::a,v,w,true::s=>by
  have:=p8 c a (λt=>v (true::t)) (λt=>w (true::t)) s;simp only [wdg] at this ⊢;rw [this];grind
theorem xD:∀ (a b:List Int) w s,a.length=b.length->wdg a (wdg b w) s = -wdg b (wdg a w) s
 | [],[],_,_,_=>by simp only [wdg];rfl
 | _::_,_::_,_,[],_=>by simp only [wdg];rfl
 | x::a,y::b,w,false::s,h=>xD a b (λt=>w (false::t)) s (by simpa using h)
 | x::a,y::b,w,true::s,h=>by
  have ih:=xD a b (λt=>w (true::t)) s (by simpa using h);show x*wdg b (λt=>w (false::t)) s-wdg a (λt=>y*w (false::t)-wdg b (λt=>w (true::t)) t) s = -(y*wdg a (λt=>w (false::t)) s-wdg b (λt=>x*w (false::t)-wdg a (λt=>w (true::t)) t) s);rw [p8 y a (λt=>w (false::t)) (wdg b λt=>w (true::t)),p8 x b (λt=>w (false::t)) (wdg a λt=>w (true::t)),ih]
  grind
 | [],_::_,_,_,h=>by simp at h
 | _::_,[],_,_,h=>by simp at h
theorem vQ:∀ (a:List Int) w s,(∀ t:List Bool,t.length=s.length->w t=0)->wdg a w s=0
 | [],_,_,_=>by simp only [wdg]
 | _::_,_,[],_=>by simp only [wdg]
 | x::a,w,false::s,h=>vQ a _ s λt ht=>h _ (by simpa using ht)
 | x::a,w,true::s,h=>by
  simp only [wdg];rw [h (false::s) rfl,vQ a _ s λt ht=>h _ (by simpa using ht)];grind
theorem cU:∀ (a:List Int) w s,wdg a w s≠0->∃ t:List Bool,t.length=s.length/\w t≠0/\t.count true+1=s.count true
 | [],_,_,h=>absurd (by simp only [wdg]) h
 | _::_,_,[],h=>absurd (by simp only [wdg]) h
 | x::a,w,false::s,h=>by
  obtain ⟨t,h1,h2,h3⟩:=cU a (λt=>w (false::t)) s h;exact ⟨false::t,by simp [h1],h2,by simpa using h3⟩
 | x::a,w,true::s,h=>by
  by_cases c:w (false::s)=0
  .obtain ⟨t,h1,h2,h3⟩:=cU a (λt=>w (true::t)) s λe=>h (by simp only [wdg];rw [c,e];grind);exact ⟨true::t,by simp [h1],h2,by simpa using h3⟩
  .exact ⟨false::s,rfl,c,by simp⟩
def xvL:List Bool->(List Bool->Int)->List Int
 | [],_=>[]
 | false::s,w=>0::xvL s λt=>w (false::t)
 | true::s,w=>w (false::s)::(xvL s λt=>w (true::t)).map λx => -x
theorem cT:∀ s w,(xvL s w).length=s.length
 | [],_=>rfl
 | false::s,_=>congrArg (· + 1) (cT s _)
 | true::s,_=>congrArg (· + 1) (by rw [Zah];exact cT s _)
theorem zkz:∀ a b:List Int,dtI a (b.map λx => -x) = -dtI a b
 | [],_=>by simp only [dtI];rfl
 | _::_,[]=>rfl
 | x::a,y::b=>by rw [Zdu,dtI,dtI,zkz a b];grind
theorem zk0:∀ b:List Int,sqV (b.map λx => -x)=sqV b
 | []=>rfl
 | y::b=>by rw [Zdu,sqV,sqV,zk0 b];grind
theorem zfa:∀ (a:List Int) w s,s.length=a.length->wdg a w s=dtI a (xvL s w)
 | [],_,[],_=>rfl
 | x::a,w,false::s,h=>by
  show wdg a (λt=>w (false::t)) s=x*0+dtI a _;rw [zfa a _ s (by simpa using h)];grind
 | x::a,w,true::s,h=>by
  show x*w (false::s)-wdg a (λt=>w (true::t)) s=x*w (false::s)+dtI a _;rw [zfa a _ s (by simpa using h),zkz];grind
 | [],_,_::_,h=>by simp at h
 | _::_,_,[],h=>by simp at h
theorem zrf:∀ s w,w s*w s<=ipf s.length w w
 | [],_=>Zgk _
 | false::s,w=>by
  have:=zrf s λt=>w (false::t);have:=wS s.length λt=>w (true::t);show _<=ipf s.length (λt=>w (false::t)) (λt=>w (false::t))+ipf s.length (λt=>w (true::t)) (λt=>w (true::t));omega
 | true::s,w=>by
  have:=zrf s λt=>w (true::t);have:=wS s.length λt=>w (false::t);show _<=ipf s.length (λt=>w (false::t)) (λt=>w (false::t))+ipf s.length (λt=>w (true::t)) (λt=>w (true::t));omega
theorem zk1:∀ s w,sqV (xvL s w)<=ipf s.length w w
 | [],w=>wS 0 w
 | false::s,w=>by
  have:=zk1 s λt=>w (false::t);have:=wS s.length λt=>w (true::t);show 0*0+sqV (xvL s λt=>w (false::t))<=ipf s.length (λt=>w (false::t)) (λt=>w (false::t))+ipf s.length (λt=>w (true::t)) (λt=>w (true::t));omega
 | true::s,w=>by
  have:=zk1 s λt=>w (true::t);have:=zrf s λt=>w (false::t);show w (false::s)*w (false::s)+sqV ((xvL s λt=>w (true::t)).map λx => -x)<=ipf s.length (λt=>w (false::t)) (λt=>w (false::t))+ipf s.length (λt=>w (true::t)) (λt=>w (true::t));rw [zk0];omega
theorem zrg:∀ (s:List Bool) w,w s≠0->s.count true<s.length->∃ S:List Bool,S.length=s.length/\∃ j,(xvL S w).getD j 0≠0
 | [],_,_,h=>by simp at h
 | false::s,w,h,_=>⟨true::s,rfl,0,h⟩
 | true::s,w,h,hc=>by
  obtain ⟨S,h1,j,hj⟩:=zrg s (λt=>w (true::t)) h (by simpa using hc);refine ⟨true::S,by simp [h1],j+1,?_⟩;show ((xvL S λt=>w (true::t)).map λx => -x).getD j 0≠0;rw [Zaa] at hj ⊢;rw [Zgx];cases e:(xvL S λt=>w (true::t))[j]? with
  | none=>rw [e] at hj;exact absurd rfl hj
  | some y=>rw [e] at hj;show -y≠0;have:y≠0:=hj;omega
def oneF:List Bool->Int
 | []=>1
 | false::s=>oneF s
 | true::_=>0
theorem zk2:∀ n,ipf n oneF oneF=1
 | 0=>rfl
 | n+1=>by
  show ipf n oneF oneF+ipf n (λ_=>0) (λ_=>0)=1;rw [zk2 n,zce];rfl
theorem zk3:∀ n,oneF (List.replicate n false)≠0
 | 0=>by decide
 | n+1=>by rw [Zgf];exact zk3 n
theorem zk4:∀ s,oneF s≠0->s.count true<=0
 | [],_=>by simp
 | false::s,h=>by simpa using zk4 s h
 | true::_,h=>absurd rfl h
theorem zjm {n:Nat} {B:Int} (hB:1<=B):∀ L:List (List Int),(∀ a∈L,a.length=n/\sqV a<=B)->∃ w:List Bool->Int,(∃ s:List Bool,s.length=n/\w s≠0)/\(∀ s:List Bool,s.length=n->w s≠0->s.count true<=L.length)/\ipf n w w<=B ^ L.length/\∀ a∈L,∀ s:List Bool,s.length=n->wdg a w s=0
 | [],_=>⟨oneF,⟨_,Zav,zk3 n⟩,λs _ h=>zk4 s h,by rw [zk2];simp,by simp⟩
 | a::L,h=>by
  obtain ⟨w,⟨s0,hs0,hw0⟩,hd,hi,hk⟩:=zjm hB L λb hb=>h b (Zap _ hb);obtain ⟨hal,haB⟩:=h a (Zaj ..);have hp:(0:Int)<=B ^ L.length:=Zeq (by omega);have hpow:B ^ (L.length+1)=B*B ^ L.length:=by rw [Int.pow_succ,Int.mul_comm]
  by_cases c:∀ s:List Bool,s.length=n->wdg a w s=0
  .refine ⟨w,⟨s0,hs0,hw0⟩,λs hs e=>Zgs (hd s hs e),?_,λb hb => ?_⟩
   .rw [Zbd,hpow];have:=Zco hB hp;omega
   .rcases Zas.1 hb with rfl | hb
    .exact c
    .exact hk b hb
  .obtain ⟨s1,h1,hw1⟩:∃ s:List Bool,s.length=n/\wdg a w s≠0:=by
    refine Classical.byContradiction λe=>c λs hs=>Classical.byContradiction λq=>e ⟨s,hs,q⟩
   refine ⟨wdg a w,⟨s1,h1,hw1⟩,λs hs e => ?_,?_,λb hb s hs => ?_⟩
   .obtain ⟨t,t1,t2,t3⟩:=cU a w s e;have:=hd t (by rw [t1];exact hs) t2;rw [Zbd];omega
   .rw [Zbd,hpow];have e1:=zre a w;rw [hal] at e1;have e2:=Zco haB (wS n w);have e3:=Zdn hi (show (0:Int)<=B by omega);omega
   .rcases Zas.1 hb with rfl | hb
    .have:=xD b b w s rfl;omega
    .rw [xD b a w s (by rw [(h b (Zap _ hb)).1,hal]),vQ a _ s λt ht=>hk b hb t (by rw [ht];exact hs)]
     rfl
theorem hada {n:Nat} {B:Int} (hB:1<=B) (L:List (List Int)) (h:∀ a∈L,a.length=n/\sqV a<=B) (hn:L.length<n):∃ x:List Int,x.length=n/\(∃ j,x.getD j 0≠0)/\sqV x<=B ^ L.length/\∀ a∈L,dtI a x=0:=by
 obtain ⟨w,⟨s,hs,hw⟩,hd,hi,hk⟩:=zjm hB L h;obtain ⟨S,hS,hj⟩:=zrg s w hw (by have:=hd s hs hw;omega);have hSn:S.length=n:=by rw [hS,hs]
 refine ⟨xvL S w,by rw [cT];exact hSn,hj,?_,λa ha => ?_⟩
 .have:=zk1 S w;rw [hSn] at this;omega
 .rw [<- zfa a w S (by rw [hSn,(h a ha).1])];exact hk a ha S hSn
def sI:Nat->(Nat->Int)->Int
 | 0,_=>0
 | k+1,F=>sI k F+F k
theorem zhs {F G:Nat->Int}:∀ {k:Nat},(∀ j,j<k->F j=G j)->sI k F=sI k G
 | 0,_=>rfl
 | k+1,h=>by rw [sI,sI,zhs (k:=k) λj hj=>h j (by omega),h k (by omega)]
theorem zcg (x y:Int):∀ a b:List Int,a.length=b.length->dtI (a++[x]) (b++[y])=dtI a b+x*y
 | [],[],_=>by simp only [Zbk,dtI];omega
 | u::a,v::b,h=>by
  rw [Zbt,Zbt,dtI,dtI,zcg x y a b (by simpa using h)];omega
 | [],_::_,h=>by simp at h
 | _::_,[],h=>by simp at h
theorem mY (f g:Nat->Int):∀ k,dtI ((List.range k).map f) ((List.range k).map g)=sI k λj=>f j*g j
 | 0=>rfl
 | k+1=>by
  rw [List.range_succ,Zbh,Zbh];show dtI (_++[f k]) (_++[g k])=_;rw [zcg _ _ _ _ (by simp),mY f g k,sI]
theorem zrh:∀ l:List Int,(∀ x∈l,x = -1\/x=0\/x=1)->sqV l<=(l.length:Int)
 | [],_=>Zgk _
 | x::l,h=>by
  have:=zrh l λy hy=>h y (Zap _ hy);rw [sqV,Zbd];rcases h x (Zaj ..) with rfl | rfl | rfl <;> omega
theorem zk5:∀ l:List Int,0<=sqV l
 | []=>Zgk _
 | x::l=>Int.add_nonneg (zky x) (zk5 l)
theorem zfb:∀ (l:List Int) (j:Nat),l.getD j 0*l.getD j 0<=sqV l
 | [],_=>Zgk _
 | x::l,0=>by
  have:=zk5 l;show x*x<=x*x+sqV l;omega
 | x::l,j+1=>by
  have:=zfb l j;have:=zky x;show l.getD j 0*l.getD j 0<=x*x+sqV l;omega
def HB:Nat:=861979
theorem zt3 (r:Nat) (hr:r<=11) (a:Nat->Nat->Int) (ha:∀ i j,a i j = -1\/a i j=0\/a i j=1):∃ x:Nat->Int,(∃ j,j<=r/\x j≠0)/\(∀ j,(x j).natAbs<=HB)/\∀ i,i<r->sI (r+1) (λj=>a i j*x j)=0:=by
 obtain ⟨x,hx,⟨j,hj⟩,hs,hk⟩:=hada (n:=r+1) (B:=((r+1:Nat):Int)) (by omega) ((List.range r).map λi=>(List.range (r+1)).map (a i)) (λb hb=>by
  obtain ⟨i,_,rfl⟩:=Zar.1 hb;refine ⟨by simp,?_⟩;have:=zrh ((List.range (r+1)).map (a i)) λy hy=>by
   obtain ⟨j,_,rfl⟩:=Zar.1 hy;exact ha i j
  simpa using this) (by simp)
 have hxe:x=(List.range (r+1)).map λj=>x.getD j 0:=by
  refine Zdc (by simp [hx]) λi h1 h2 => ?_;simp [Zaa,h1]
 refine ⟨λj=>x.getD j 0,⟨j,?_,hj⟩,λj => ?_,λi hi => ?_⟩
 .refine Classical.byContradiction λc=>hj ?_;rw [Zaa,Zha (by omega)];rfl
 .have h1:=zfb x j;rw [Zah,Zcz] at hs;have h2:(r+1) ^ r<=12 ^ 11:=Zax (Nat.pow_le_pow_left (show r+1<=12 by omega) r) (Zde (by decide) hr);have h3:(((r+1:Nat):Int)) ^ r=(((r+1) ^ r:Nat):Int):=by simp
  rw [h3] at hs;have h4:(12:Nat) ^ 11=743008370688:=by decide
  rw [h4] at h2;show (x.getD j 0).natAbs<=861979;refine Zea λc => ?_;have h5:=Zbl (show 861980<=(x.getD j 0).natAbs from c) (show 861980<=(x.getD j 0).natAbs from c);have h6:=Zgg (a:=x.getD j 0);omega
 .have:=hk _ (Zar.2 ⟨i,Zbe.2 hi,rfl⟩);rw [hxe,mY] at this;exact this
def sR:Nat->(Nat->Rat)->Rat
 | 0,_=>0
 | k+1,F=>sR k F+F k
theorem jI {F G:Nat->Rat}:∀ {k:Nat},(∀ j,j<k->F j=G j)->sR k F=sR k G
 | 0,_=>rfl
 | k+1,h=>by rw [sR,sR,jI (k:=k) λj hj=>h j (by omega),h k (by omega)]
theorem cX (F:Nat->Int):∀ k,sR k (λj=>(F j:Rat))=((sI k F:Int):Rat)
 | 0=>rfl
 | k+1=>by rw [sR,sI,cX F k,Zgc]
theorem zfc (x:Nat->Rat) (i:Nat):∀ k,sR k (λb=>(if i=b then 1 else 0)*x b)=if i<k then x i else 0
 | 0=>by rw [if_neg (by omega)];rfl
 | k+1=>by
  rw [sR,zfc x i k];by_cases e:i=k
  .subst e;rw [if_neg (by omega),if_pos rfl,if_pos (by omega)];grind
  .rw [if_neg e];by_cases c:i<k
   .rw [if_pos c,if_pos (by omega)];grind
   .rw [if_neg c,if_neg (by omega)];grind
theorem zht (y:Rat):∀ (o f:List Rat) (c:Nat),o.length=f.length->c<f.length->dot o (f.set c (at' f c+y))=dot o f+at' o c*y
 | [],[],c,_,h=>by simp at h
 | a::o,b::f,0,_,_=>by
  show dot (a::o) ((b+y)::f)=dot (a::o) (b::f)+a*y;rw [dot,dot];grind
 | a::o,b::f,c+1,h,hc=>by
  have ih:=zht y o f c (by simpa using h) (by simpa using hc);show dot (a::o) (b::f.set c (at' f c+y))=dot (a::o) (b::f)+at' o c*y;rw [dot,dot,ih];grind
 | [],_::_,_,h,_=>by simp at h
 | _::_,[],_,h,_=>by simp at h
theorem zch:∀ (o:List Rat) (n:Nat),dot o (List.replicate n 0)=0
 | [],_=>by cases ‹Nat› <;> rfl
 | a::o,0=>rfl
 | a::o,n+1=>by rw [Zgf,dot,zch o n];grind
def plF (n:Nat) (c:Nat->Nat) (x:Nat->Rat):Nat->List Rat
 | 0=>List.replicate n 0
 | k+1=>(plF n c x k).set (c k) (at' (plF n c x k) (c k)+x k)
theorem kH {n:Nat} {c:Nat->Nat} {x:Nat->Rat}:∀ k,(plF n c x k).length=n
 | 0=>Zav
 | k+1=>by rw [plF,Zan];exact kH k
theorem qP {n:Nat} {c:Nat->Nat} {x:Nat->Rat} {o:List Rat} (ho:o.length=n):∀ k,(∀ i,i<k->c i<n)->dot o (plF n c x k)=sR k λi=>at' o (c i)*x i
 | 0,_=>zch ..
 | k+1,h=>by rw [plF,zht _ _ _ _ (by rw [kH];exact ho) (by rw [kH];exact h k (by omega)),qP ho k λi hi=>h i (by omega),sR]
structure Sv (n:Nat) (O Q:List (List Rat)) (ps:List Nat):Prop where
 len:ps.length=Q.length
 olen:O.length=Q.length
 row:∀ q∈Q,q.length=n
 orow:∀ o∈O,o.length=n
 osg:∀ o∈O,∀ j,Sg (at' o j)
 rng:∀ p∈ps,p<n
 one:∀ a b,a<Q.length->b<Q.length->at' (Q.getD a []) (ps.getD b 0)=if a=b then 1 else 0
 ker:∀ f:List Rat,f.length=n->(∀ o∈O,dot o f=0)->∀ q∈Q,dot q f=0
 tri:∀ a,a<Q.length->∀ b,ps.getD a 0<b->at' (Q.getD a []) b=0
theorem Sv.nil (n:Nat):Sv n [] [] []:=⟨rfl,rfl,by simp,by simp,by simp,by simp,λa b h=>by simp at h,by simp,λa h=>by simp at h⟩
def sgI (q:Rat):Int:=if q = -1 then -1 else if q=1 then 1 else 0
theorem Sg.int {q:Rat} (h:Sg q):(sgI q:Rat)=q:=by
 unfold sgI;rcases h with rfl | rfl | rfl
 .rw [if_pos rfl];rfl
 .rw [if_neg (by decide),if_neg (by decide)];rfl
 .rw [if_neg (by decide),if_pos rfl];rfl
theorem zri (q:Rat):sgI q = -1\/sgI q=0\/sgI q=1:=by
 unfold sgI;split
 .exact .inl rfl
 .split
  .exact .inr (.inr rfl)
  .exact .inr (.inl rfl)
theorem Sv.col {n:Nat} {O Q:List (List Rat)} {ps:List Nat} (h:Sv n O Q ps) (hQ:Q.length<=11) (j:Nat):∃ t,1<=t/\t<=HB/\∀ q∈Q,Dn t (HB) (at' q j):=by
 rcases Zdj j n with hj | hj
 case inr =>
  refine ⟨1,Zaf _,(by decide:1<=HB),λq hq => ?_⟩;rw [jV (by rw [h.row q hq];exact hj)];exact Dn.zero _ _
 obtain ⟨c,hc⟩:∃ c:Nat->Nat,c=λi=>if i<Q.length then ps.getD i 0 else j:=⟨_,rfl⟩
 obtain ⟨x,⟨b,hb,hb0⟩,hx,hz⟩:=zt3 Q.length hQ (λi k=>sgI (at' (O.getD i []) (c k))) λi k=>zri _;have hcn:∀ i,i<Q.length+1->c i<n:=λi _=>by
  rw [hc];show (if i<Q.length then ps.getD i 0 else j)<n;by_cases q:i<Q.length
  .rw [if_pos q];exact h.rng _ (yF (by rw [h.len];exact q))
  .rw [if_neg q];exact hj
 have hk:=h.ker (plF n c (λi=>(x i:Rat)) (Q.length+1)) (kH _) λo ho=>by
  obtain ⟨i,hi⟩:=Zau.1 ho;have hil:=(Zgw.1 hi).1;have hio:O.getD i []=o:=by rw [Zaa,hi];rfl
  rw [qP (h.orow o ho) _ hcn];have:=hz i (by rw [<- h.olen];exact hil);rw [show (0:Rat)=((0:Int):Rat) from rfl,<- this,<- cX];refine jI λk _ => ?_;rw [hio,Zei,(h.osg o ho _).int]
 have hrow:∀ i,i<Q.length->(x i:Rat)+at' (Q.getD i []) j*(x Q.length:Rat)=0:=λi hi=>by
  have hm:=yF (l:=Q) (d:=[]) hi;have e:=hk _ hm;rw [qP (h.row _ hm) _ hcn,sR] at e;have e2:sR Q.length (λk=>at' (Q.getD i []) (c k)*(x k:Rat))=(x i:Rat):=by
   rw [jI (G:=λb=>(if i=b then 1 else 0)*(x b:Rat)) λk hk => ?_,zfc (λb=>(x b:Rat)),if_pos hi];have:c k=ps.getD k 0:=by rw [hc];exact if_pos hk
   rw [this,h.one i k hi hk]
  rw [e2,show c Q.length=j by rw [hc];exact if_neg (Zci _)] at e;exact e
 have hxr:x Q.length≠0:=λe=>by
  rcases Zdj b Q.length with q | q
  .have:=hrow b q;rw [e,show ((0:Int):Rat)=0 from rfl,Zbm,Rat.add_zero] at this;exact dH hb0 this
  .obtain rfl:b=Q.length:=by omega
   exact hb0 e
 refine ⟨(x Q.length).natAbs,by omega,hx _,λq hq => ?_⟩;obtain ⟨i,hi⟩:=Zau.1 hq;have hil:=(Zgw.1 hi).1;have hqi:Q.getD i []=q:=by rw [Zaa,hi];rfl
 have e:=hrow i hil;rw [hqi] at e;by_cases s:0<x Q.length
 .refine ⟨-x i,?_,by rw [Zdz];exact hx i⟩;rw [show (((x Q.length).natAbs:Nat):Int)=x Q.length by omega,Zcn];grind
 .refine ⟨x i,?_,hx i⟩;rw [show (((x Q.length).natAbs:Nat):Int) = -x Q.length by omega,Zcn];grind
theorem Sv.den {n:Nat} {O Q:List (List Rat)} {ps:List Nat} (h:Sv n O Q ps) (hQ:Q.length<=11):∃ t:Nat->Nat,(∀ j,1<=t j/\t j<=HB)/\∀ q∈Q,∀ j,Dn (t j) (HB) (at' q j) :=
 ⟨λj=>Classical.choose (h.col hQ j),λj=>⟨(Classical.choose_spec (h.col hQ j)).1,(Classical.choose_spec (h.col hQ j)).2.1⟩,λq hq j=>(Classical.choose_spec (h.col hQ j)).2.2 q hq⟩
structure Rvq (n:Nat) (t:Nat->Nat) (M:Nat) (Q:List (List Rat)) (ps:List Nat) (r0:List Rat) (k:Nat) (r:List Rat):Prop where
 eq:r=redF ((oW Q ps).take k) r0
 len:r.length=n
 den:∀ j,Dn (t j) (M+k*M) (at' r j)
 late:∀ b,k<=b->b<Q.length->at' r (ps.getD b 0)=at' r0 (ps.getD b 0)
 done:∀ b,b<k->b<Q.length->at' r (ps.getD b 0)=0
theorem Rvq.zero {n M:Nat} {t:Nat->Nat} {Q:List (List Rat)} {ps:List Nat} {r0:List Rat} (ht:∀ j,t j<=M) (hl:r0.length=n) (hs:∀ j,Sg (at' r0 j)):Rvq n t M Q ps r0 0 r0 :=
 ⟨rfl,hl,λj=>(hs j).dn (by have:=ht j;omega),λb _ _=>rfl,λb h=>by omega⟩
theorem Rvq.next {n M k:Nat} {t:Nat->Nat} {O Q:List (List Rat)} {ps:List Nat} {r0 r:List Rat} (hS:Sv n O Q ps) (hd:∀ q∈Q,∀ j,Dn (t j) M (at' q j)) (hs:∀ j,Sg (at' r0 j)) (h:Rvq n t M Q ps r0 k r) (hk:k<Q.length):Rvq n t M Q ps r0 (k+1) (jX (at' r (ps.getD k 0)) r (Q.getD k [])):=by
 have hq:=yF (d:=[]) hk;have hql:=hS.row _ hq;have hll:r.length=(Q.getD k []).length:=by rw [h.len,hql]
 have hb:Sg (at' r (ps.getD k 0)):=by rw [h.late k (Zaf _) hk];exact hs _
 refine ⟨by rw [zcc hS.len hk,zdq,<- h.eq],by rw [gB hll];exact h.len,λj => ?_,λb h1 h2 => ?_,λb h1 h2 => ?_⟩
 .rw [gZ hll];have:=(h.den j).sub (hb.mul (hd _ hq j));exact this.mono (by rw [Zbn];omega)
 .rw [gZ hll,hS.one k b hk h2,if_neg (by omega),Zbm,h.late b (by omega) h2];grind
 .rw [gZ hll,hS.one k b hk h2];by_cases e:b=k
  .subst e;rw [if_pos rfl,Rat.mul_one];grind
  .rw [if_neg (by omega),Zbm,h.done b (by omega) h2];grind
theorem zt4 {t N:Nat} {v:Rat} (ht:1<=t) (hv:v≠0) (h:Dn t N v):∃ z:Nat,1<=z/\z<=N/\Dn z t v⁻¹/\∀ {s R:Nat} {x:Rat},Dn s R x->Dn (s*z) (R*t) (x*v⁻¹):=by
 obtain ⟨z,h1,h2,h3,_⟩:=zyy ht hv h;exact ⟨z,h1,h2,h3,λhx=>hx.mul h3⟩
structure Nv (n:Nat) (Q:List (List Rat)) (ps:List Nat) (p:Nat) (r:List Rat):Prop where
 len:r.length=n
 one:at' r p=1
 out:∀ b,b<Q.length->at' r (ps.getD b 0)=0
 p1:p<n
 tri:∀ b,p<b->at' r b=0
theorem Sv.next {n p:Nat} {O Q:List (List Rat)} {ps:List Nat} {r r0:List Rat} (hS:Sv n O Q ps) (h:Nv n Q ps p r) (hl0:r0.length=n) (hs0:∀ j,Sg (at' r0 j)) (hk:∀ f:List Rat,f.length=n->(∀ q∈Q,dot q f=0)->dot r0 f=0->dot r f=0):Sv n (O++[r0]) (qD Q p r++[r]) (ps++[p]):=by
 have hnl:(qD Q p r).length=Q.length:=by unfold qD;rw [Zah]
 refine ⟨by rw [Zae,Zae,hnl,hS.len];rfl,by rw [Zae,Zae,hnl,hS.olen];rfl,λq hq => ?_,λo ho => ?_,λo ho => ?_,λx hx => ?_,λa b ha hb => ?_,λf hf ho q hq => ?_,λa ha b hb => ?_⟩
 .rcases Zbf.1 hq with hq | hq
  .obtain ⟨o,ho,rfl⟩:=Zar.1 hq;rw [gB (by rw [hS.row o ho,h.len])];exact hS.row o ho
  .obtain rfl:=Zaz.1 hq;exact h.len
 .rcases Zbf.1 ho with ho | ho
  .exact hS.orow o ho
  .obtain rfl:=Zaz.1 ho;exact hl0
 .rcases Zbf.1 ho with ho | ho
  .exact hS.osg o ho
  .obtain rfl:=Zaz.1 ho;exact hs0
 .rcases Zbf.1 hx with hx | hx
  .exact hS.rng x hx
  .obtain rfl:=Zaz.1 hx;exact h.p1
 .rw [Zae,hnl,Zbq] at ha hb;have eb:(ps++[p]).getD b 0=if b<Q.length then ps.getD b 0 else p:=by
   by_cases c:b<Q.length
   .rw [if_pos c,Zaa,Zhb (by rw [hS.len];exact c),<- Zaa]
   .rw [if_neg c,Zaa,Zgy (by rw [hS.len];omega),hS.len,show b-Q.length=0 by omega];rfl
  have ea:(qD Q p r++[r]).getD a []=if a<Q.length then jX (at' (Q.getD a []) p) (Q.getD a []) r else r:=by
   by_cases c:a<Q.length
   .rw [if_pos c,Zaa,Zhb (by rw [hnl];exact c),qD,Zgx,j7 (d:=[]) c];rfl
   .rw [if_neg c,Zaa,Zgy (by rw [hnl];omega),hnl,show a-Q.length=0 by omega];rfl
  rw [ea,eb];by_cases c1:a<Q.length
  .have hl:(Q.getD a []).length=r.length:=by rw [hS.row _ (yF c1),h.len]
   rw [if_pos c1,gZ hl];by_cases c2:b<Q.length
   .rw [if_pos c2,h.out b c2,hS.one a b c1 c2,Zbm];grind
   .rw [if_neg c2,h.one,if_neg (by omega)];grind
  .rw [if_neg c1];by_cases c2:b<Q.length
   .rw [if_pos c2,h.out b c2,if_neg (by omega)]
   .rw [if_neg c2,h.one,if_pos (by omega)]
 .have hQ:=hS.ker f hf λo h1=>ho o (Zdd _ h1);have hr:=hk f hf hQ (ho r0 (by simp));rcases Zbf.1 hq with hq | hq
  .obtain ⟨o,h1,rfl⟩:=Zar.1 hq;rw [uA _ _ _ _ (by rw [hS.row o h1,h.len]),hQ o h1,hr,Zbm];grind
  .obtain rfl:=Zaz.1 hq;exact hr
 .rw [Zae,hnl,Zbq] at ha;by_cases c1:a<Q.length
  .have eb:(ps++[p]).getD a 0=ps.getD a 0:=by
    rw [Zaa,Zhb (by rw [hS.len];exact c1),<- Zaa]
   have ea:(qD Q p r++[r]).getD a []=jX (at' (Q.getD a []) p) (Q.getD a []) r:=by
    rw [Zaa,Zhb (by rw [hnl];exact c1),qD,Zgx,j7 (d:=[]) c1];rfl
   rw [eb] at hb;have hl:(Q.getD a []).length=r.length:=by rw [hS.row _ (yF c1),h.len]
   rw [ea,gZ hl,hS.tri a c1 b hb];by_cases c2:p<b
   .rw [h.tri b c2,Zbm];grind
   .rw [hS.tri a c1 p (by omega),Zbz];grind
  .obtain rfl:a=Q.length:=by omega
   have eb:(ps++[p]).getD Q.length 0=p:=by
    rw [Zaa,Zgy (by rw [hS.len];exact Zaf _),hS.len,Zcw];rfl
   have ea:(qD Q p r++[r]).getD Q.length []=r:=by
    rw [Zaa,Zgy (by rw [hnl];exact Zaf _),hnl,Zcw];rfl
   rw [eb] at hb;rw [ea];exact h.tri b hb
theorem nk {B:Nat}:bG Tryz.prog B Prop:=zbh mixed
variable {B:Nat}
theorem zjn {a b:List Int} (ha:a.length<=1000000000):Pure Tryz.prog B 49 [encI a,encI b] (· = .bool (decide (a=b))):=by
 intro p h nx K hK;refine zL zN nk (a.length+2) λhf => ?_;rw [F49.go];simp (disch:=omega) only [jo,pu,rE,qz,fB,jf,rR,pz,fM,zY,yB,zC,zD,yL,jG,j3,jD,jH,jB,jE,gC,jS,jR,jZ,zW,yI,yJ,zH,decide_true,decide_false,Zao,Zam,jT];by_cases hl:a.length=b.length
 .simp only [hl,decide_true,Zao,zD];refine F49.L2 (λm z3 h' nx'=>∃ i:Nat,z3=I i/\m=a.length-i/\i<=a.length/\h'=h/\nx'=nx/\a.take i=b.take i) (m:=a.length) (by omega) ⟨0,rfl,by simp,by omega,rfl,rfl,by simp⟩ ?_;rintro m z2 z3 z5 z6 _ _ R ⟨i,rfl,rfl,hi,rfl,rfl,htk⟩ hR;simp (disch:=omega) only [jo,pu,rE,qz,fB,jf,rR,pz,fM,zY,yB,zC,zD,yL,jG,j3,jD,jH,jB,jE,gC,jS,jR,jZ,zW,yI,yJ,zH,decide_true,decide_false,Zao,Zam,jT];by_cases hlt:i<a.length
  .have h1:(i:Int)<a.length:=by omega
   have hb:i<b.length:=by omega
   simp only [h1,decide_true,zC];rw [cu rfl hlt,ldL (sF (Zgv hlt)),cu rfl hb,ldL (sF (Zgv hb))];simp (disch:=omega) only [jo,pu,rE,qz,fB,jf,rR,pz,fM,zY,yB,zC,zD,yL,jG,j3,jD,jH,jB,jE,gC,jS,jR,jZ,zW,yI,yJ,zH,decide_true,decide_false,Zao,Zam,jT];by_cases he:a[i]=b[i]
   .simp only [he,decide_true,Zao,zD];refine hR (a.length-(i+1)) _ _ _ _ _ _ (by omega) ⟨i+1,rfl,rfl,by omega,rfl,rfl,?_⟩;rw [Zaq,Zaq,htk,Zgv hlt,Zgv hb,he]
   .simp only [he,decide_false,Zam,zC];refine hK _ ?_ hf;rw [Zab];rintro rfl;exact he rfl
  .have h1:¬ (i:Int)<a.length:=by omega
   simp only [h1,decide_false,zD];rw [F49.k9];refine hK _ ?_ hf;rw [Zak (by omega),Zak (by omega)] at htk;rw [Zac htk]
 .have h1:¬ (a.length:Int)=b.length:=by omega
  simp only [h1,decide_false,Zam,zC];refine hK _ ?_ hf;rw [Zab];rintro rfl;exact hl rfl
end Go.Ev
namespace Go.Ev
open Go Go.Proofs
variable {B:Nat}
theorem dR (b:Bool) (e:Int):Pure Tryz.prog B 88 [.bool b,I e] (· = I (if b then e else 0)):=by
 intro p h nx K hK;refine zL zN nk 9 λhf => ?_;rw [F88.go];cases b <;> simp (disch:=omega) only [jo,pu,rE,qz,fB,jf,rR,pz,fM,zY,yB,zC,zD,yL,jG,j3,jD,jH,jB,jE,gC,jS,jR,jZ,zW,yI,yJ,zH,decide_true,decide_false,Zao,Zam,jT] <;> exact hK _ rfl hf
def kL:List Int->Int
 | []=>0
 | e::l=>if e≠0 then e else kL l
theorem dF:∀ (l:List Int) (i:Nat),(∀ e∈l.take i,e=0)->kL l=kL (l.drop i)
 | l,0,_=>rfl
 | [],_+1,_=>rfl
 | e::l,i+1,h=>by
  have h0:e=0:=h e (by simp);rw [kL,if_neg (by simp [h0]),List.drop_succ_cons];exact dF l i λx hx=>h x (by simp [hx])
theorem zci {l:List Int} (hl:l.length<=1000000):Pure Tryz.prog B 86 [encI l] (· = I (kL l)):=by
 intro p h nx K hK;refine zL zN nk 10000000 λhf => ?_;rw [F86.go];simp (disch:=omega) only [jo,pu,rE,qz,fB,jf,rR,pz,fM,zY,yB,zC,zD,yL,jG,j3,jD,jH,jB,jE,gC,jS,jR,jZ,zW,yI,yJ,zH,decide_true,decide_false,Zao,Zam,jT];refine F86.L1 (λm z5 h' nx'=>∃ i:Nat,z5=I i/\l.length-i=m/\i<=l.length/\h'=h/\nx'=nx/\∀ e∈l.take i,e=0) (m:=l.length) (by omega) ⟨0,rfl,rfl,by omega,rfl,rfl,by simp⟩ ?_;rintro m z1 z2 z5 z6 z7 _ _ R ⟨i,rfl,rfl,hi,rfl,rfl,htk⟩ hR;simp (disch:=omega) only [jo,pu,rE,qz,fB,jf,rR,pz,fM,zY,yB,zC,zD,yL,jG,j3,jD,jH,jB,jE,gC,jS,jR,jZ,zW,yI,yJ,zH,decide_true,decide_false,Zao,Zam,jT];by_cases hlt:i<l.length
 .simp only [show (i:Int)<(l.length:Int) by omega,decide_true,zC];have hx:l[i]? = some l[i]:=Zgv hlt;rw [cu rfl hlt,ldL (sF hx)];simp (disch:=omega) only [jo,pu,rE,qz,fB,jf,rR,pz,fM,zY,yB,zC,zD,yL,jG,j3,jD,jH,jB,jE,gC,jS,jR,jZ,zW,yI,yJ,zH,decide_true,decide_false,Zao,Zam,jT];have hd:l.drop i=l[i]::l.drop (i+1):=Zbb hlt;by_cases h0:l[i]=0
  .simp only [h0,decide_true,Zao,zD];refine hR _ _ _ _ _ _ _ _ (by omega) ⟨i+1,rfl,rfl,by omega,rfl,rfl,λe he => ?_⟩;rw [Zaq,hx] at he;rcases Zbf.1 he with q | q
   .exact htk e q
   .simp at q;rw [q];exact h0
  .simp only [h0,decide_false,Zam,zC];refine hK _ ?_ hf;rw [dF l i htk,hd,kL,if_pos h0]
 .simp only [show ¬ (i:Int)<(l.length:Int) by omega,decide_false,zD];rw [F86.k8];refine hK _ ?_ hf;rw [dF l i htk,Zbi (by omega)];rfl
theorem zrj {a b:List Int} (ha:a.length<=1000000000):Pure Tryz.prog B 177 [encI a,encI b] (· = .bool (decide (a=b))):=by
 intro p h nx K hK;refine zL zN nk (a.length+2) λhf => ?_;rw [vw.go];simp (disch:=omega) only [jo,pu,rE,qz,fB,jf,rR,pz,fM,zY,yB,zC,zD,yL,jG,j3,jD,jH,jB,jE,gC,jS,jR,jZ,zW,yI,yJ,zH,decide_true,decide_false,Zao,Zam,jT];by_cases hl:a.length=b.length
 .simp only [hl,decide_true,Zao,zD];refine vw.L2 (λm z6 h' nx'=>∃ i:Nat,z6=I i/\a.length-i=m/\i<=a.length/\h'=h/\nx'=nx/\a.take i=b.take i) (m:=a.length) (by omega) ⟨0,rfl,by simp,by omega,rfl,rfl,by simp⟩ ?_;rintro m z2 z3 z6 z7 z8 _ _ R ⟨i,rfl,rfl,hi,rfl,rfl,htk⟩ hR;simp (disch:=omega) only [jo,pu,rE,qz,fB,jf,rR,pz,fM,zY,yB,zC,zD,yL,jG,j3,jD,jH,jB,jE,gC,jS,jR,jZ,zW,yI,yJ,zH,decide_true,decide_false,Zao,Zam,jT];by_cases hlt:i<a.length
  .have hb:i<b.length:=by omega
   simp only [show (i:Int)<(b.length:Int) by omega,decide_true,zC];rw [cu rfl hlt,ldL (sF (Zgv hlt)),cu rfl hb,ldL (sF (Zgv hb))];simp (disch:=omega) only [jo,pu,rE,qz,fB,jf,rR,pz,fM,zY,yB,zC,zD,yL,jG,j3,jD,jH,jB,jE,gC,jS,jR,jZ,zW,yI,yJ,zH,decide_true,decide_false,Zao,Zam,jT];by_cases he:a[i]=b[i]
   .simp only [he,decide_true,Zao,zD];refine hR (a.length-(i+1)) _ _ _ _ _ _ _ (by omega) ⟨i+1,rfl,rfl,by omega,rfl,rfl,?_⟩;rw [Zaq,Zaq,htk,Zgv hlt,Zgv hb,he]
   .simp only [he,decide_false,Zam,zC];refine hK _ ?_ hf;rw [Zab];rintro rfl;exact he rfl
  .simp only [show ¬ (i:Int)<(b.length:Int) by omega,decide_false,zD];rw [vw.k9];refine hK _ ?_ hf;rw [Zak (by omega),Zak (by omega)] at htk;rw [Zac htk]
 .have h1:¬ (a.length:Int)=b.length:=by omega
  simp only [h1,decide_false,Zam,zC];refine hK _ ?_ hf;rw [Zab];rintro rfl;exact hl rfl
theorem zhu {h0 h:T Blk} {nx:Pa} {L:List Ob} {k:Nat} {x p:Pa} {l:List Int} {prev:List (List Int)} {K:Kw Prop} (H:Hp h0 h nx L) (hk:L[k]? = some (.arr x [encI l])) (hp:prev.length<=1000000) (hw:∀ q∈prev,q.length<=1000000)
  (hK:K (.bool (decide (l∈prev))) h nx=.ok True):(CS Tryz.prog B).fn 175 p [uf prev,.fn 176 (.of 176) [.ptr x 0]] h nx K=.ok True:=by
 refine gT (p:=.of 175) (K:=K) (zL zN nk 9 λhf => ?_) λ_ _ _ _ q=>q;rw [aZ.go];refine gT (p:=.of 245) (K:=λv1 h2 n3=>za .geq .int v1 (I 0) λv4=>K v4 h2 n3) (zL zN nk 10000000 λhf => ?_) λ_ _ _ _ q=>q;rw [vo.go];simp (disch:=omega) only [jo,pu,rE,qz,fB,jf,rR,pz,fM,zY,yB,zC,zD,yL,jG,j3,jD,jH,jB,jE,gC,jS,jR,jZ,zW,yI,yJ,zH,decide_true,decide_false,Zao,Zam,jT];refine vo.L1 (λm z5 h' nx'=>∃ i:Nat,z5=I i/\prev.length-i=m/\i<=prev.length/\h'=h/\nx'=nx/\l∉prev.take i) (m:=prev.length) (by omega) ⟨0,rfl,rfl,by omega,rfl,rfl,by simp⟩ ?_;rintro m z2 z3 z5 z6 z7 _ _ R ⟨i,rfl,rfl,hi,rfl,rfl,htk⟩ hR;simp (disch:=omega) only [jo,pu,rE,qz,fB,jf,rR,pz,fM,zY,yB,zC,zD,yL,jG,j3,jD,jH,jB,jE,gC,jS,jR,jZ,zW,yI,yJ,zH,decide_true,decide_false,Zao,Zam,jT];by_cases hlt:i<prev.length
 .simp only [show (i:Int)<(prev.length:Int) by omega,decide_true,zC];have hx:prev[i]? = some prev[i]:=Zgv hlt;rw [cu rfl hlt,ldL (getT hx),mC];refine gT (p:=.of 176) (zL zN nk 9 λhf => ?_) λ_ _ _ _ q=>q;show zP tbl 9 _ (Pa.of 176) [encI prev[i],.ptr x 0] _ _ _=_;rw [aY.go,H.load (k:=k) (i:=0) hk rfl];refine zrj (Zax (hw _ (Zat hlt)) (by omega)) _ _ _ _ ?_;rintro _ rfl _;by_cases he:prev[i]=l
  .simp only [he,decide_true,zC,fM,show (0:Int)<=(i:Int) by omega];rw [Zac (he ▸ Zat hlt)] at hK;exact hK
  .simp only [he,decide_false,zD];refine hR _ _ _ _ _ _ _ _ (by omega) ⟨i+1,rfl,rfl,by omega,rfl,rfl,λq => ?_⟩;rw [Zaq,hx] at q;rcases Zbf.1 q with q | q
   .exact htk q
   .simp at q;exact he q.symm
 .simp only [show ¬ (i:Int)<(prev.length:Int) by omega,decide_false,zD];rw [vo.k8];rw [Zak (by omega)] at htk;rw [Zab htk] at hK;simp only [fM,show ¬ (0:Int) <= -1 by omega,decide_false];exact hK
def yZ (cells:Int):Option Int->List Int->Int
 | _,[]=>0
 | p,c::l=>if c<0\/cells<=c then 10 else if p.any (λq=>decide (c<=q)) then 11 else yZ cells (some c) l
def jO (cells:Int) (prev:List (List Int)) (l:List Int):Int:=if l=[] then 12 else if yZ cells none l≠0 then yZ cells none l else if l∈prev then 9 else 0
def uJ (cells:Int):List (List Int)->List (List Int)->Int
 | _,[]=>0
 | prev,l::r=>if jO cells prev l≠0 then jO cells prev l else uJ cells (prev++[l]) r
def jA (cells:Int) (lines:List (List Int)):Int:=if cells<1\/256<cells then 3 else if 128<lines.length then 5 else uJ cells [] lines
def pv (l:List Int) (k:Nat):Option Int:=if k=0 then none else l[k-1]?
theorem mK {l:List Int} {k:Nat} (h:k<l.length):pv l (k+1)=some l[k]:=by simp [pv,h]
theorem zk6 {cells a b:Int} {lines:List (List Int)} (hb:b<=1000000):Pure Tryz.prog B 16 [.agg [I cells,uf lines],I a,I b] (· = .bool (decide ((lines.length:Int)<=b/\∀ l∈lines,(l.length:Int)<=a))):=by
 refine zT λh nx K H0 hK=>zL zN nk 10000000 λhf => ?_;rw [F16.go];refine H0.box (l:=[I cells,uf lines]) rfl λbx h1 nx1 H1 => ?_;rw [sFx,H1.load (k:=0) (i:=0+1) rfl rfl];simp (disch:=omega) only [jo,pu,rE,qz,fB,jf,rR,pz,fM,zY,yB,zC,zD,yL,jG,j3,jD,jH,jB,jE,gC,jS,jR,jZ,zW,yI,yJ,zH,decide_true,decide_false,Zao,Zam,jT];have ret:∀ v:Bool,v=decide ((lines.length:Int)<=b/\∀ l∈lines,(l.length:Int)<=a)->K (.bool v) h1 nx1=.ok True:=λv hv=>by rw [hv];exact hK _ _ _ _ _ H1 (zS rfl) rfl
 by_cases hlen:b<(lines.length:Int)
 .simp only [hlen,decide_true,zC];refine ret _ ?_;rw [Zab];rintro ⟨q,_⟩;omega
 simp only [hlen,decide_false,zD];refine F16.L2 (λm z5 h' nx'=>∃ i:Nat,z5=I i/\lines.length-i=m/\i<=lines.length/\h'=h1/\nx'=nx1/\∀ l∈lines.take i,(l.length:Int)<=a) (m:=lines.length) (by omega) ⟨0,rfl,rfl,by omega,rfl,rfl,by simp⟩ ?_;rintro m z4 z5 z7 z8 _ _ R ⟨i,rfl,rfl,hi,rfl,rfl,htk⟩ hR;rw [sFx,H1.load (k:=0) (i:=0+1) rfl rfl];simp (disch:=omega) only [jo,pu,rE,qz,fB,jf,rR,pz,fM,zY,yB,zC,zD,yL,jG,j3,jD,jH,jB,jE,gC,jS,jR,jZ,zW,yI,yJ,zH,decide_true,decide_false,Zao,Zam,jT];by_cases hlt:i<lines.length
 .simp only [show (i:Int)<(lines.length:Int) by omega,decide_true,zC];have hx:lines[i]? = some lines[i]:=Zgv hlt;rw [sFx,H1.load (k:=0) (i:=0+1) rfl rfl,cu rfl hlt,ldL (getT hx)];simp (disch:=omega) only [jo,pu,rE,qz,fB,jf,rR,pz,fM,zY,yB,zC,zD,yL,jG,j3,jD,jH,jB,jE,gC,jS,jR,jZ,zW,yI,yJ,zH,decide_true,decide_false,Zao,Zam,jT];by_cases hw:a<(lines[i].length:Int)
  .simp only [hw,decide_true,zC];refine ret _ ?_;rw [Zab];rintro ⟨_,q⟩;have:=q _ (Zat hlt);omega
  .simp only [hw,decide_false,zD];refine hR _ _ _ _ _ _ _ (by omega) ⟨i+1,rfl,rfl,by omega,rfl,rfl,λl hl => ?_⟩;rw [Zaq,hx] at hl;rcases Zbf.1 hl with q | q
   .exact htk l q
   .simp at q;rw [q];omega
 .simp only [show ¬ (i:Int)<(lines.length:Int) by omega,decide_false,zD];rw [F16.k9];rw [Zak (by omega)] at htk;refine ret _ ?_;rw [Zac ⟨by omega,htk⟩]
theorem zmu {prev:List (List Int)} {l:List Int} (hp:prev.length<=1000000) (hw:∀ q∈prev,q.length<=1000000000):Pure Tryz.prog B 90 [uf prev,encI l] (· = .bool (decide (l∈prev))):=by
 intro p h nx K hK;refine zL zN nk 10000000 λhf => ?_;rw [F90.go];refine F90.L1 (λm z3 h' nx'=>∃ i:Nat,z3=I i/\prev.length-i=m/\i<=prev.length/\h'=h/\nx'=nx/\l∉prev.take i) (m:=prev.length) (by omega) ⟨0,rfl,rfl,by omega,rfl,rfl,by simp⟩ ?_;rintro m z2 z3 z4 z5 _ _ R ⟨i,rfl,rfl,hi,rfl,rfl,htk⟩ hR;simp (disch:=omega) only [jo,pu,rE,qz,fB,jf,rR,pz,fM,zY,yB,zC,zD,yL,jG,j3,jD,jH,jB,jE,gC,jS,jR,jZ,zW,yI,yJ,zH,decide_true,decide_false,Zao,Zam,jT];by_cases hlt:i<prev.length
 .simp only [show (i:Int)<(prev.length:Int) by omega,decide_true,zC];have hx:prev[i]? = some prev[i]:=Zgv hlt;rw [cu rfl hlt,ldL (getT hx)];refine zjn (hw _ (Zat hlt)) _ _ _ _ ?_;rintro _ rfl _;by_cases he:prev[i]=l
  .simp only [he,decide_true,zC];refine hK _ ?_ hf;rw [Zac (he ▸ Zat hlt)]
  .simp only [he,decide_false,zD];refine hR _ _ _ _ _ _ _ (by omega) ⟨i+1,rfl,rfl,by omega,rfl,rfl,λq => ?_⟩;rw [Zaq,hx] at q;rcases Zbf.1 q with q | q
   .exact htk q
   .simp at q;exact he q.symm
 .simp only [show ¬ (i:Int)<(prev.length:Int) by omega,decide_false,zD];rw [F90.k8];rw [Zak (by omega)] at htk;refine hK _ ?_ hf;rw [Zab htk]
theorem zk7 {n i:Nat} {l:List AV} {op:AV->OP} (hn:1<=n) (hi:i<=n):wX 1 (.lst 1 n l) none (some (I (i:Int))) none op=op (.lst 1 i (l.take i)):=by
 show (bif Nat.beq 1 1&&Nat.ble 1 n then (match bnd (some (I (i:Int))) n n with | none=>Out.no 17 | some h=>match bnd none h 0 with | none=>.no 17 | some q=>op (.lst 1 (h-q) ((l.drop (q*1)).take ((h-q)*1)))) else .no 17)=_;rw [Zag hn];have:bnd (some (I (i:Int))) n n=some i:=by
  show (bif Nat.ble i n then some i else none)=_;rw [Zag hi];rfl
 rw [this];show op (.lst 1 (i-0) ((l.drop (0*1)).take ((i-0)*1)))=_;simp
theorem mA {cells:Int} {lines:List (List Int)} (hw:∀ q∈lines,q.length<=1000000):Pure Tryz.prog B 19 [.agg [I cells,uf lines]] (· = I (jA cells lines)):=by
 refine zT λh nx K H0 hK=>zL zN nk 10000000 λhf => ?_;rw [F19.go];refine H0.box (l:=[I cells,uf lines]) rfl λbx h1 nx1 H1 => ?_;rw [sFx,H1.load (k:=0) (i:=0) rfl rfl];have ret:∀ v:Int,v=jA cells lines->K (I v) h1 nx1=.ok True:=λv hv=>by rw [hv];exact hK _ _ _ _ _ H1 (zS rfl) rfl
 by_cases hc:cells<1\/256<cells
 .have hv:(3:Int)=jA cells lines:=by rw [jA,if_pos hc]
  by_cases c1:cells<1
  .simp only [jf,c1,decide_true,j3,zY,zC];exact ret 3 hv
  .simp only [jf,c1,decide_false,jG];rw [sFx,H1.load (k:=0) (i:=0) rfl rfl];simp only [pz,show (256:Int)<cells by omega,decide_true,yB,zC];exact ret 3 hv
 simp only [jf,show ¬ cells<1 by omega,decide_false,jG];rw [sFx,H1.load (k:=0) (i:=0) rfl rfl];simp only [pz,show ¬ (256:Int)<cells by omega,decide_false,yB,zD];rw [sFx,H1.load (k:=0) (i:=0+1) rfl rfl];simp (disch:=omega) only [jo,pu,rE,qz,fB,jf,rR,pz,fM,zY,yB,zC,zD,yL,jG,j3,jD,jH,jB,jE,gC,jS,jR,jZ,zW,yI,yJ,zH,decide_true,decide_false,Zao,Zam,jT];by_cases hm:128<lines.length
 .simp only [show (128:Int)<(lines.length:Int) by omega,decide_true,zC];exact ret 5 (by rw [jA,if_neg hc,if_pos hm])
 simp only [show ¬ (128:Int)<(lines.length:Int) by omega,decide_false,zD];have hs:jA cells lines=uJ cells [] lines:=by rw [jA,if_neg hc,if_neg hm]
 refine F19.L3 (λm z3 h' nx'=>∃ i:Nat,z3=I i/\lines.length-i=m/\i<=lines.length/\h'=h1/\nx'=nx1/\jA cells lines=uJ cells (lines.take i) (lines.drop i)) (m:=lines.length) (by omega) ⟨0,rfl,rfl,by omega,rfl,rfl,by simpa using hs⟩ ?_;rintro m z2 z3 z4 z5 z8 z9 z10 z11 z12 z13 h1 nx1 R ⟨i,rfl,rfl,hi,rfl,rfl,he⟩ hR;rw [sFx,H1.load (k:=0) (i:=0+1) rfl rfl];simp (disch:=omega) only [jo,pu,rE,qz,fB,jf,rR,pz,fM,zY,yB,zC,zD,yL,jG,j3,jD,jH,jB,jE,gC,jS,jR,jZ,zW,yI,yJ,zH,decide_true,decide_false,Zao,Zam,jT];by_cases hlt:i<lines.length
 case neg =>
  simp only [show ¬ (i:Int)<(lines.length:Int) by omega,decide_false,zD];rw [F19.k20];exact ret 0 (by rw [he,Zbi (by omega)];rfl)
 simp only [show (i:Int)<(lines.length:Int) by omega,decide_true,zC];obtain ⟨l,hx⟩:∃ l,lines[i]? = some l:=⟨_,Zgv hlt⟩;have hmem:=Zad hx;have hd:lines.drop i=l::lines.drop (i+1):=by
  rw [Zbb hlt];rw [Zgv hlt] at hx;rw [Option.some.inj hx]
 have htake:lines.take (i+1)=lines.take i++[l]:=by rw [Zaq,hx];rfl
 rw [sFx,H1.load (k:=0) (i:=0+1) rfl rfl,cu rfl hlt,ldL (getT hx)];simp (disch:=omega) only [jo,pu,rE,qz,fB,jf,rR,pz,fM,zY,yB,zC,zD,yL,jG,j3,jD,jH,jB,jE,gC,jS,jR,jZ,zW,yI,yJ,zH,decide_true,decide_false,Zao,Zam,jT];have hlw:=hw l hmem;have zrk:jO cells (lines.take i) l≠0->jA cells lines=jO cells (lines.take i) l:=λh=>by rw [he,hd,uJ,if_pos h]
 by_cases h0:l.length=0
 .simp only [show (l.length:Int)=0 by omega,decide_true,zC];have hl0:l=[]:=Zda h0;have e12:jO cells (lines.take i) l=12:=by rw [jO,if_pos hl0]
  exact ret 12 (by rw [zrk (by rw [e12];decide),e12])
 simp only [show ¬ (l.length:Int)=0 by omega,decide_false,zD];have hl0:l≠[]:=λq=>h0 (by rw [q];rfl);have hcell:yZ cells none l≠0->jA cells lines=yZ cells none l:=λh=>by
  have e:jO cells (lines.take i) l=yZ cells none l:=by rw [jO,if_neg hl0,if_pos h]
  rw [zrk (by rw [e];exact h),e]
 refine F19.L10 (λm z5 h' nx'=>∃ k:Nat,z5=I k/\l.length-k=m/\k<=l.length/\h'=h1/\nx'=nx1/\yZ cells none l=yZ cells (pv l k) (l.drop k)) (m:=l.length) (by omega) ⟨0,rfl,rfl,by omega,rfl,rfl,rfl⟩ ?_;rintro m y2 y5 y10 y11 y12 h1 nx1 R2 ⟨k,rfl,rfl,hk,rfl,rfl,hce⟩ hR2;simp (disch:=omega) only [jo,pu,rE,qz,fB,jf,rR,pz,fM,zY,yB,zC,zD,yL,jG,j3,jD,jH,jB,jE,gC,jS,jR,jZ,zW,yI,yJ,zH,decide_true,decide_false,Zao,Zam,jT];by_cases hkt:k<l.length
 case neg =>
  simp only [show ¬ (k:Int)<(l.length:Int) by omega,decide_false,zD];have hz:yZ cells none l=0:=by rw [hce,Zbi (by omega)];rfl
  rw [F19.k18,sFx,H1.load (k:=0) (i:=0+1) rfl rfl,zk7 (by omega) (by omega)];have ep:AV.lst 1 i ((lines.map encI).take i)=uf (lines.take i):=by
   rw [<- Zfv];simp [uf,Zbw (Nat.le_of_lt hlt)]
  rw [ep];refine zmu (by rw [Zai];omega) (λq hq=>Zax (hw q (Zbx hq)) (by omega)) _ _ _ _ ?_;rintro _ rfl _;by_cases hin:l∈lines.take i
  .simp only [hin,decide_true,zC];have e9:jO cells (lines.take i) l=9:=by rw [jO,if_neg hl0,if_neg (by rw [hz];simp),if_pos hin]
   exact ret 9 (by rw [zrk (by rw [e9];decide),e9])
  .simp only [hin,decide_false,zD];rw [F19.k19,jo (by omega)];have e0:jO cells (lines.take i) l=0:=by rw [jO,if_neg hl0,if_neg (by rw [hz];simp),if_neg hin]
   refine hR _ _ _ _ _ _ _ _ _ _ _ _ _ (by omega) ⟨i+1,rfl,rfl,by omega,rfl,rfl,?_⟩;rw [he,hd,uJ,if_neg (by rw [e0];simp),htake]
 simp only [show (k:Int)<(l.length:Int) by omega,decide_true,zC];have hxk:l[k]? = some l[k]:=Zgv hkt;have hdk:l.drop k=l[k]::l.drop (k+1):=Zbb hkt;rw [cu rfl hkt,ldL (sF hxk)];by_cases hbad:l[k]<0\/cells<=l[k]
 .have e10:yZ cells none l=10:=by rw [hce,hdk,yZ,if_pos hbad]
  have fin:=ret 10 (by rw [hcell (by rw [e10];decide),e10]);by_cases hneg:l[k]<0
  .simp only [jf,hneg,decide_true,j3,zY,zC];exact fin
  .simp only [jf,hneg,decide_false,jG];rw [cu rfl hkt,ldL (sF hxk),sFx,H1.load (k:=0) (i:=0) rfl rfl];simp only [fM,show cells<=l[k] by omega,decide_true,yB,zC];exact fin
 simp only [jf,show ¬ l[k]<0 by omega,decide_false,jG];rw [cu rfl hkt,ldL (sF hxk),sFx,H1.load (k:=0) (i:=0) rfl rfl];simp only [fM,show ¬ cells<=l[k] by omega,decide_false,yB,zD];rw [F19.k16];have next:∀ z12,(pv l k).any (λq=>decide (l[k]<=q))=false->R2 (F19.fr (.agg [I cells,uf lines]) (.ptr bx 0) y2 (I i) (encI l) (I ((k:Int)+1)) (.bool false) (.bool false) (.bool true) (.bool false) (.bool true) (.bool false) z12 z13) h1 nx1=.ok True:=λz12 hany=>by
  refine hR2 _ _ _ _ _ _ _ _ (by omega) ⟨k+1,rfl,rfl,by omega,rfl,rfl,?_⟩;rw [hce,hdk,yZ,if_neg hbad,hany];simp [mK hkt]
 by_cases hk0:0<k
 .obtain ⟨k,rfl⟩:∃ j,k=j+1:=⟨k-1,by omega⟩;have hk1:k<l.length:=by omega
  have hxk1:l[k]? = some l[k]:=Zgv hk1;simp only [pz,show (0:Int)<((k+1:Nat):Int) by omega,decide_true,yL];rw [cu rfl hkt,ldL (sF hxk),pu (by omega),cu (i:=k) (by omega) hk1,ldL (sF hxk1)];rw [mK hk1] at next;by_cases hle:l[k+1]<=l[k]
  .simp only [rR,hle,decide_true,zY,zC];have e11:yZ cells none l=11:=by rw [hce,hdk,yZ,if_neg hbad,mK hk1,if_pos (by simp [hle])]
   exact ret 11 (by rw [hcell (by rw [e11];decide),e11])
  .simp only [rR,hle,decide_false,zY,zD];rw [F19.k17,jo (by omega)];exact next _ (by simp [hle])
 .obtain rfl:k=0:=by omega
  simp only [pz,show ¬ (0:Int)<((0:Nat):Int) by omega,decide_false,jD,yB,zD];rw [F19.k17,jo (by omega)];exact next _ (by simp [pv])
theorem bO {P:Program} {f:Nat} {p id:Pa} {h0 h:T Blk} {nx:Pa} {L:List Ob} {k:Nat} {l:List Int} {K:Kw Prop} {Q:AV->Prop} (H:Hp h0 h nx L) (hk:L[k]? = some (.arr id (l.map I))) (hq:∀ B,Pure P B f [encI l] Q) (hpl:∀ v,Q v->Plain v)
  (hK:∀ v,Q v->K v h nx=.ok True):(CS P B).fn f p [.sl id 0 l.length (some l.length) 1] h nx K=.ok True :=
 zgp (.cons (qc.frz (H.own _ (Zad hk)) (T.rV _ id) (Zaf _) (by simp) λv hv=>by obtain ⟨x,_,rfl⟩:=Zar.1 hv;rfl) .nil) (by
  have:=zl5 l;simp only [nns,rJ.nn this,Bool.and_self]) hq hpl λv hv _=>hK v hv
theorem zrl {h:T Blk} {nx:Pa} {l:List Int} {g:Nat} {p q:Pa} {cap:List AV} {pr:Int->Bool} {K:Kw Prop} (hl:l.length<=1000000) (hcl:∀ x∈l,∀ K:Kw Prop,K (.bool (pr x)) h nx=.ok True->(CS Tryz.prog B).fn g q (I x::cap) h nx K=.ok True)
  (hK:K (.bool (l.any pr)) h nx=.ok True):(CS Tryz.prog B).fn 173 p [encI l,.fn g q cap] h nx K=.ok True:=by
 refine gT (p:=.of 173) (K:=K) (zL zN nk 9 λhf => ?_) λ_ _ _ _ q=>q;rw [eD.go];refine gT (p:=.of 184) (K:=λv1 h2 n3=>za .geq .int v1 (I 0) λv4=>K v4 h2 n3) (zL zN nk 10000000 λhf => ?_) λ_ _ _ _ q=>q;rw [xw.go];simp (disch:=omega) only [jo,pu,rE,qz,fB,jf,rR,pz,fM,zY,yB,zC,zD,yL,jG,j3,jD,jH,jB,jE,gC,jS,jR,jZ,zW,yI,yJ,zH,decide_true,decide_false,Zao,Zam,jT];refine xw.L1 (λm z5 h' nx'=>∃ i:Nat,z5=I i/\l.length-i=m/\i<=l.length/\h'=h/\nx'=nx/\(l.take i).any pr=false) (m:=l.length) (by omega) ⟨0,rfl,rfl,by omega,rfl,rfl,by simp⟩ ?_;rintro m z2 z3 z5 z6 z7 _ _ R ⟨i,rfl,rfl,hi,rfl,rfl,htk⟩ hR;simp (disch:=omega) only [jo,pu,rE,qz,fB,jf,rR,pz,fM,zY,yB,zC,zD,yL,jG,j3,jD,jH,jB,jE,gC,jS,jR,jZ,zW,yI,yJ,zH,decide_true,decide_false,Zao,Zam,jT];by_cases hlt:i<l.length
 .simp only [show (i:Int)<(l.length:Int) by omega,decide_true,zC];have hx:l[i]? = some l[i]:=Zgv hlt;rw [cu rfl hlt,ldL (sF hx),mC];refine hcl _ (Zat hlt) _ ?_;cases he:pr l[i] with
  | true =>
   simp only [zC,fM,show (0:Int)<=(i:Int) by omega,decide_true];rw [Zeb.2 ⟨_,Zat hlt,he⟩] at hK;exact hK
  | false =>
   simp only [zD];refine hR _ _ _ _ _ _ _ _ (by omega) ⟨i+1,rfl,rfl,by omega,rfl,rfl,?_⟩;rw [Zaq,hx,List.any_append,htk];simp [he]
 .simp only [show ¬ (i:Int)<(l.length:Int) by omega,decide_false,zD];rw [xw.k8];rw [Zak (by omega)] at htk;rw [htk] at hK;simp only [fM,show ¬ (0:Int) <= -1 by omega,decide_false];exact hK
theorem zk8 {a b:Int} {l:List Int} (hl:l.length<=1000000):Pure Tryz.prog B 87 [I a,I b,encI l] (· = I (if l.any (λx=>decide (x<a)||decide (b<x)) then 3 else 0)):=by
 refine zT λh nx K H0 hK=>zL zN nk 1000 λhf => ?_;rw [F87.go];refine H0.box (l:=[I a]) rfl λx1 h1 nx1 H1 => ?_;refine H1.box (l:=[I b]) rfl λx2 h2 nx2 H2 => ?_;refine zrl (pr:=λx=>decide (x<a)||decide (b<x)) hl (λx _ K hK => ?_) ?_
 .refine gT (p:=.of 174) (K:=K) (zL zN nk 9 λhf => ?_) λ_ _ _ _ q=>q;show zP tbl 9 _ (Pa.of 174) [I x,.ptr x1 0,.ptr x2 0] _ _ _=_;rw [eu.go,H2.load (k:=1) (i:=0) rfl rfl];by_cases c:x<a
  .simp only [jf,c,decide_true,j3,zY];simpa [c] using hK
  .simp only [jf,c,decide_false,jG];rw [H2.load (k:=0) (i:=0) rfl rfl];simp only [pz,yB];simpa [c] using hK
 .refine dR _ _ _ _ _ _ ?_;rintro _ rfl _;exact hK _ _ _ _ _ H2 (zS rfl) rfl
theorem zt5 {cells:Int} {lines:List (List Int)} {i:Nat} {l:List Int} (hi:lines[i]? = some l) (hn:lines.length<=1000000) (hw:∀ q∈lines,q.length<=1000000):Pure Tryz.prog B 89 [.agg [I cells,uf lines],I i] (· = I (jO cells (lines.take i) l)):=by
 refine zT λh nx K H0 hK=>zL zN nk 10000000 λhf => ?_;have hlt:i<lines.length:=(Zgw.1 hi).1;have hlw:=hw l (Zad hi);rw [F89.go];refine H0.box (l:=[I cells,uf lines]) rfl λbx h1 nx1 H1 => ?_;rw [sFx,H1.load (k:=0) (i:=0+1) rfl rfl,cu rfl hlt,ldL (getT hi)];refine H1.alloc λx h2 nx2 H2 => ?_;refine H2.store (k:=0) rfl (by decide) rfl λh3 H3 => ?_;rw [H3.load (k:=0) (i:=0) rfl rfl];simp (disch:=omega) only [jo,pu,rE,qz,fB,jf,rR,pz,fM,zY,yB,zC,zD,yL,jG,j3,jD,jH,jB,jE,gC,jS,jR,jZ,zW,yI,yJ,zH,decide_true,decide_false,Zao,Zam,jT];have ret:∀ (v:Int) h' nx' L,v=jO cells (lines.take i) l->Hp h h' nx' L->K (I v) h' nx'=.ok True:=λv h' nx' L hv H'=>by rw [hv];exact hK _ _ _ _ _ H' (zS rfl) rfl
 by_cases h0:l.length=0
 .simp only [show (l.length:Int)=0 by omega,decide_true,zC];have hl0:l=[]:=Zda h0;exact ret 12 _ _ _ (by rw [jO,if_pos hl0]) H3
 simp only [show ¬ (l.length:Int)=0 by omega,decide_false,zD];have hl0:l≠[]:=λq=>h0 (by rw [q];rfl);have hcell:yZ cells none l≠0->yZ cells none l=jO cells (lines.take i) l:=λh=>by rw [jO,if_neg hl0,if_pos h]
 rw [H3.load (k:=0) (i:=0) rfl rfl];simp (disch:=omega) only [jo,pu,rE,qz,fB,jf,rR,pz,fM,zY,yB,zC,zD,yL,jG,j3,jD,jH,jB,jE,gC,jS,jR,jZ,zW,yI,yJ,zH,decide_true,decide_false,Zao,Zam,jT];refine F89.L2 (λm z11 h' nx'=>∃ k:Nat,z11=I k/\l.length-k=m/\k<=l.length/\Hp h h' nx' [.arr x [encI l],.arr bx [I cells,uf lines]]/\yZ cells none l=yZ cells (pv l k) (l.drop k)) (m:=l.length) (by omega) ⟨0,rfl,rfl,by omega,H3,rfl⟩ ?_;rintro m z3 z5 z6 z7 z11 z12 z13 h1 nx1 R ⟨k,rfl,rfl,hk,H1,hce⟩ hR;simp (disch:=omega) only [jo,pu,rE,qz,fB,jf,rR,pz,fM,zY,yB,zC,zD,yL,jG,j3,jD,jH,jB,jE,gC,jS,jR,jZ,zW,yI,yJ,zH,decide_true,decide_false,Zao,Zam,jT];by_cases hkt:k<l.length
 case neg =>
  simp only [show ¬ (k:Int)<(l.length:Int) by omega,decide_false,zD];have hz:yZ cells none l=0:=by rw [hce,Zbi (by omega)];rfl
  rw [F89.k9,sFx,H1.load (k:=1) (i:=0+1) rfl rfl,zk7 (by omega) (by omega)];have ep:AV.lst 1 i ((lines.map encI).take i)=uf (lines.take i):=by
   rw [<- Zfv];simp [uf,Zbw (Nat.le_of_lt hlt)]
  rw [ep];refine zhu H1 (k:=0) rfl (by rw [Zai];omega) (λq hq=>hw q (Zbx hq)) ?_;refine dR _ _ _ _ _ _ ?_;rintro _ rfl _;refine ret _ _ _ _ ?_ H1;have e9:jO cells (lines.take i) l=if l∈lines.take i then 9 else 0:=by rw [jO,if_neg hl0,if_neg (by rw [hz];simp)]
  rw [e9];by_cases hin:l∈lines.take i <;> simp [hin]
 simp only [show (k:Int)<(l.length:Int) by omega,decide_true,zC];have hxk:l[k]? = some l[k]:=Zgv hkt;have hdk:l.drop k=l[k]::l.drop (k+1):=Zbb hkt;rw [cu rfl hkt,ldL (sF hxk)]
 have tail:∀ (b1 b2:Bool) (z:AV) (z':AV) (Z:AV->T Blk->Pa->Out Prop),b1=(decide (l[k]<0\/cells<=l[k]))->b2=(pv l k).any (λq=>decide (l[k]<=q)) ->
   (∀ (e:Int) h' nx',e=(if l[k]<0\/cells<=l[k] then 10 else if (pv l k).any (λq=>decide (l[k]<=q)) then 11 else 0)->Hp h h' nx' [.arr x [encI l],.arr bx [I cells,uf lines]]->Z (I e) h' nx'=.ok True) ->
   (CS Tryz.prog B).fn 88 (.of 88) [.bool b2,I 11] h1 nx1 (λv22 h23 n24=>yS 1 2 [(I 0)] [(0,1,I (if b1 then 10 else 0)),(1,1,v22)] h23 n24 λv25 h26 n27=>(CS Tryz.prog B).fn 86 (.of 86) [v25] h26 n27 Z)=.ok True:=by
  intro b1 b2 z z' Z e1 e2 hZ;refine dR _ _ _ _ _ _ ?_;rintro _ rfl _;refine H1.fq (l:=[I (if b1 then 10 else 0),I (if b2 then 11 else 0)]) rfl λid h4 nx4 H4 => ?_;refine bO (l:=[if b1 then 10 else 0,if b2 then 11 else 0]) H4 (k:=0) rfl (λB=>zci (by simp)) (λv hv=>by rw [hv];exact .int _ _) ?_;rintro _ rfl;refine hZ _ _ _ ?_ H4.drop;subst e1 e2;by_cases c1:l[k]<0\/cells<=l[k]
  .simp [c1,kL]
  .cases c2:(pv l k).any (λq=>decide (l[k]<=q)) <;> simp [c1,kL]
 have fin:∀ (e:Int) h' nx',e=(if l[k]<0\/cells<=l[k] then 10 else if (pv l k).any (λq=>decide (l[k]<=q)) then 11 else 0)->Hp h h' nx' [.arr x [encI l],.arr bx [I cells,uf lines]] ->
   (za .neq .int (I e) (I 0) λv31=>yH v31 (K (I e) h' nx') (R (F89.fr (.agg [I cells,uf lines]) (I i) (.ptr bx 0) z3 (.ptr x 0) (I k) (I l[k]) (I e) (.bool false) (encI l) (I l.length) (I ((k:Int)+1)) (.bool true) v31) h' nx'))=.ok True:=by
  intro e h' nx' he H';have hstep:yZ cells none l=if e≠0 then e else yZ cells (some l[k]) (l.drop (k+1)):=by
   rw [hce,hdk,yZ,he];by_cases c1:l[k]<0\/cells<=l[k]
   .simp [c1]
   .cases c2:(pv l k).any (λq=>decide (l[k]<=q)) <;> simp [c1]
  simp (disch:=omega) only [jo,pu,rE,qz,fB,jf,rR,pz,fM,zY,yB,zC,zD,yL,jG,j3,jD,jH,jB,jE,gC,jS,jR,jZ,zW,yI,yJ,zH,decide_true,decide_false,Zao,Zam,jT];by_cases c:e=0
  .simp only [c,decide_true,Zao,zD];refine hR _ _ _ _ _ _ _ _ _ _ (by omega) ⟨k+1,rfl,rfl,by omega,H',?_⟩;rw [hstep,if_neg (by simp [c]),mK hkt]
  .simp only [c,decide_false,Zam,zC];rw [if_pos c] at hstep;exact ret _ _ _ _ (by rw [<- hcell (by rw [hstep];exact c),hstep]) H'
 have mid:∀ b1:Bool,b1=decide (l[k]<0\/cells<=l[k]) ->
   (CS Tryz.prog B).fn 88 (.of 88) [.bool b1,I 10] h1 nx1 (λv10 h11 n12 =>
    sG (.bool (decide (0<(k:Int)))) true (λk=>zG (.ptr x 0) h11 k) λv14=>sG (.bool (decide (0<(k:Int)))) true (λq=>q (I (k:Int))) λv15=>sG (.bool (decide (0<(k:Int)))) true (λk=>za .sub .int v15 (I 1) k) λv16=>sG (.bool (decide (0<(k:Int)))) true (λk=>zJ 1 v14 v16 k) λv17=>sG (.bool (decide (0<(k:Int)))) true (λk=>zG v17 h11 k) λv18 =>
    sG (.bool (decide (0<(k:Int)))) true (λq=>q (I l[k])) λv19=>sG (.bool (decide (0<(k:Int)))) true (λk=>za .geq .int v18 v19 k) λv20=>yQ (.bool (decide (0<(k:Int)))) v20 (.bool false) λv21 =>
    (CS Tryz.prog B).fn 88 (.of 88) [v21,I 11] h11 n12 λv22 h23 n24=>yS 1 2 [(I 0)] [(0,1,v10),(1,1,v22)] h23 n24 λv25 h26 n27=>(CS Tryz.prog B).fn 86 (.of 86) [v25] h26 n27 λv28 h29 n30 =>
    za .neq .int v28 (I 0) λv31=>yH v31 (K v28 h29 n30) (R (F89.fr (.agg [I cells,uf lines]) (I i) (.ptr bx 0) z3 (.ptr x 0) (I k) (I l[k]) v28 (.bool false) (encI l) (I l.length) (I ((k:Int)+1)) (.bool true) v31) h29 n30))=.ok True:=by
  intro b1 e1;refine dR _ _ _ _ _ _ ?_;rintro _ rfl _;by_cases ck:0<k
  .obtain ⟨k,rfl⟩:∃ j,k=j+1:=⟨k-1,by omega⟩;have hk1:k<l.length:=by omega
   have hxk1:l[k]? = some l[k]:=Zgv hk1;simp only [show (0:Int)<((k+1:Nat):Int) by omega,decide_true,yL,zY];rw [H1.load (k:=0) (i:=0) rfl rfl,pu (by omega),cu (i:=k) (by omega) hk1,ldL (sF hxk1)];simp only [fM];exact tail _ _ .u .u _ e1 (by rw [mK hk1];rfl) fin
  .obtain rfl:k=0:=by omega
   simp only [show ¬ (0:Int)<((0:Nat):Int) by omega,decide_false,jD,yB];exact tail _ _ .u .u _ e1 rfl fin
 by_cases c:l[k]<0
 .simp only [jf,c,decide_true,j3,zY];exact mid true (by simp [c])
 .simp only [jf,c,decide_false,jG,sFx];rw [H1.load (k:=1) (i:=0) rfl rfl];simp only [fM,yB];exact mid _ (by simp [c])
theorem zrm {cells:Int} {lines:List (List Int)} (hw:∀ q∈lines,q.length<=1000000):Pure Tryz.prog B 18 [.agg [I cells,uf lines]] (· = I (jA cells lines)):=by
 refine zT λh nx K H0 hK=>zL zN nk 10000000 λhf => ?_;rw [F18.go];refine H0.box (l:=[I cells,uf lines]) rfl λbx h1 nx1 H1 => ?_;rw [sFx,H1.load (k:=0) (i:=0) rfl rfl,sFx,H1.load (k:=0) (i:=0+1) rfl rfl];simp only [zW,pz];refine H1.fq (l:=[I cells]) rfl λid h2 nx2 H2 => ?_;simp only [zH,zW];rw [H2.load (k:=1) (i:=0+1) rfl rfl];simp only [zH,sFx];refine zgp (args':=[I 1,I 256,encI [cells]]) (.cons (.int _ _) (.cons (.int _ _) (.cons (qc.frz (H2.own (.arr id [I cells]) (by simp)) (T.rV _ id) (Zaf _) rfl (λv hv=>by simp at hv;subst hv;rfl)) .nil))) rfl (λB=>zk8 (l:=[cells]) (by simp)) (λv hv=>by rw [hv];exact .int _ _) ?_;rintro _ rfl _;rw [H2.load (k:=1) (i:=0+1) rfl rfl];simp only [zH,zW];refine dR _ _ _ _ _ _ ?_;rintro _ rfl _;refine H2.fq (l:=[I (if [cells].any (λx=>decide (x<1)||decide (256<x)) then 3 else 0),I (if decide (128<(lines.length:Int)) then 5 else 0)]) rfl λid3 h3 nx3 H3 => ?_;refine bO (l:=[if [cells].any (λx=>decide (x<1)||decide (256<x)) then 3 else 0,if decide (128<(lines.length:Int)) then 5 else 0]) H3 (k:=0) rfl (λB=>zci (by simp)) (λv hv=>by rw [hv];exact .int _ _) ?_;rintro _ rfl;have ret:∀ (v:Int) h' nx' L,v=jA cells lines->Hp h h' nx' L->K (I v) h' nx'=.ok True:=λv h' nx' L hv H'=>by rw [hv];exact hK _ _ _ _ _ H' (zS rfl) rfl
 have ef:kL [if [cells].any (λx=>decide (x<1)||decide (256<x)) then 3 else 0,if decide (128<(lines.length:Int)) then 5 else 0]=if cells<1\/256<cells then 3 else if 128<lines.length then 5 else 0:=by
  by_cases c:cells<1\/256<cells
  .simp [kL,c]
  .by_cases c2:128<lines.length
   .have:(128:Int)<(lines.length:Int):=by omega
    simp [kL,c,c2,this]
   .have:¬ (128:Int)<(lines.length:Int):=by omega
    simp [kL,c,c2,this]
 rw [ef];simp only [fB];by_cases hc:cells<1\/256<cells
 .simp only [hc,if_true];simp only [show ¬ (3:Int)=0 by omega,decide_false,Zam,zC];exact ret 3 _ _ _ (by rw [jA,if_pos hc]) H3
 simp only [hc,if_false];by_cases hm:128<lines.length
 .simp only [hm,if_true];simp only [show ¬ (5:Int)=0 by omega,decide_false,Zam,zC];exact ret 5 _ _ _ (by rw [jA,if_neg hc,if_pos hm]) H3
 simp only [hm,if_false,decide_true,Zao,zD];rw [H3.load (k:=2) (i:=0+1) rfl rfl];simp only [zW];have hs:jA cells lines=uJ cells [] lines:=by rw [jA,if_neg hc,if_neg hm]
 refine F18.L2 (λm z8 h' nx'=>∃ i:Nat,z8=I i/\lines.length-i=m/\i<=lines.length/\Hp h h' nx' [.arr bx [I cells,uf lines]]/\jA cells lines=uJ cells (lines.take i) (lines.drop i)) (m:=lines.length) (by omega) ⟨0,rfl,rfl,by omega,H3.drop.drop,by simpa using hs⟩ ?_;rintro m z2 z4 z5 z8 z9 z10 h4 nx4 R ⟨i,rfl,rfl,hi,H4,he⟩ hR;simp (disch:=omega) only [jo,pu,rE,qz,fB,jf,rR,pz,fM,zY,yB,zC,zD,yL,jG,j3,jD,jH,jB,jE,gC,jS,jR,jZ,zW,yI,yJ,zH,decide_true,decide_false,Zao,Zam,jT];by_cases hlt:i<lines.length
 case neg =>
  simp only [show ¬ (i:Int)<(lines.length:Int) by omega,decide_false,zD];rw [F18.k9];exact ret 0 _ _ _ (by rw [he,Zbi (by omega)];rfl) H4
 simp only [show (i:Int)<(lines.length:Int) by omega,decide_true,zC];obtain ⟨l,hx⟩:∃ l,lines[i]? = some l:=⟨_,Zgv hlt⟩;have hd:lines.drop i=l::lines.drop (i+1):=by
  rw [Zbb hlt];rw [Zgv hlt] at hx;rw [Option.some.inj hx]
 have htake:lines.take (i+1)=lines.take i++[l]:=by rw [Zaq,hx];rfl
 rw [H4.zm (k:=0) (n:=2) rfl rfl];refine zt5 hx (by omega) hw _ _ _ _ ?_;rintro _ rfl _;simp only [fB];by_cases c:jO cells (lines.take i) l=0
 .simp only [c,decide_true,Zao,zD];refine hR _ _ _ _ _ _ _ _ _ (by omega) ⟨i+1,rfl,rfl,by omega,H4,?_⟩;rw [he,hd,uJ,if_neg (by rw [c];simp),htake]
 .simp only [c,decide_false,Zam,zC];exact ret _ _ _ _ (by rw [he,hd,uJ,if_pos c]) H4
end Go.Ev
namespace Go.Ev
def AscL (cells:Nat) (l:List Int):Prop:=l≠[]/\l.Pairwise (· < ·)/\∀ c∈l,0<=c/\c<(cells:Int)
end Go.Ev
namespace Go.Ev
open Go Go.Proofs
variable {B:Nat}
theorem cells_ok {cells:Int}:∀ {l:List Int} {p:Option Int},yZ cells p l=0->(∀ c∈l,0<=c/\c<cells)/\l.Pairwise (· < ·)/\∀ q,p=some q->∀ c∈l,q<c
 | [],_,_=>⟨by simp,.nil,by simp⟩
 | c::l,p,h=>by
  rw [yZ] at h;by_cases c1:c<0\/cells<=c
  .rw [if_pos c1] at h;cases h
  rw [if_neg c1] at h;cases c2:p.any (λq=>decide (c<=q)) with
  | true=>rw [c2,if_pos rfl] at h;cases h
  | false =>
   rw [c2,if_neg (by simp)] at h;obtain ⟨h1,h2,h3⟩:=cells_ok h;have h4:=h3 c rfl;refine ⟨λx hx => ?_,List.pairwise_cons.2 ⟨h4,h2⟩,λq hq x hx => ?_⟩
   .rcases Zas.1 hx with rfl | hx
    .omega
    .exact h1 x hx
   .subst hq;simp at c2;rcases Zas.1 hx with rfl | hx
    .exact c2
    .have:=h4 x hx;omega
theorem zhv {cells:Int}:∀ {ls prev:List (List Int)},uJ cells prev ls=0->∀ l∈ls,l≠[]/\yZ cells none l=0
 | [],_,_,l,h=>by simp at h
 | a::ls,prev,h,l,hl=>by
  rw [uJ] at h;by_cases c:jO cells prev a≠0
  .rw [if_pos c] at h;exact absurd h c
  rw [if_neg c] at h;rcases Zas.1 hl with rfl | hl
  .have c:jO cells prev l=0:=by simpa using c
   rw [jO] at c;by_cases c0:l=[]
   .rw [if_pos c0] at c;cases c
   rw [if_neg c0] at c;refine ⟨c0,?_⟩;by_cases c1:yZ cells none l≠0
   .rw [if_pos c1] at c;exact c
   .simpa using c1
  .exact zhv h l hl
theorem zfd {cells:Int} {lines:List (List Int)} (h:jA cells lines=0):∃ n:Nat,cells=n/\1<=n/\n<=256/\lines.length<=128/\∀ l∈lines,AscL n l:=by
 rw [jA] at h;by_cases c1:cells<1\/256<cells
 .rw [if_pos c1] at h;cases h
 rw [if_neg c1] at h;by_cases c2:128<lines.length
 .rw [if_pos c2] at h;cases h
 rw [if_neg c2] at h;refine ⟨cells.toNat,by omega,by omega,by omega,by omega,λl hl => ?_⟩;obtain ⟨h1,h2⟩:=zhv h l hl;obtain ⟨h3,h4,_⟩:=cells_ok h2;exact ⟨h1,h4,λc hc=>by have:=h3 c hc;omega⟩
end Go.Ev
namespace Go.Ev
abbrev srt (l:List Int):List Int:=l.mergeSort λx y=>decide (x<=y)
theorem zhw (l:List Int):(srt l).Perm l:=List.mergeSort_perm l _
def incr (d:List Int) (c:Int):List Int:=d.set c.toNat (d.getD c.toNat 0+1)
@[simp] theorem zws (d:List Int) (c:Int):(incr d c).length=d.length:=by simp [incr]
def Bd (d:List Int) (M:Nat):Prop:=∀ v∈d,0<=v/\v<=(M:Int)
theorem Bd.mono {d:List Int} {M N:Nat} (h:Bd d M) (hm:M<=N):Bd d N:=λv hv=>by have:=h v hv;omega
theorem Bd.srt {d:List Int} {M:Nat} (h:Bd d M):Bd (Ev.srt d) M:=λv hv=>h v ((zhw d).mem_iff.1 hv)
@[simp] theorem zyz (d:List Int):(Ev.srt d).length=d.length:=(zhw d).length_eq
end Go.Ev
namespace Go.Ev
open Go Go.Proofs
variable {B:Nat}
set_option maxRecDepth 100000
theorem Hp.aA {h0 h:T Blk} {nx:Pa} {L:List Ob} (H:Hp h0 h nx L) (e:Nat):Hp h0 h nx (.gro none e 0 []::L) :=
  ⟨H.keep,fun x hx=>by rcases Zas.1 hx with rfl | q;· exact ⟨rfl,rfl⟩
                       . exact H.own x q,λn hn=>H.off n (by simpa [Ob.names] using hn),by have:=H.nd;simpa [Ob.names] using this,H.fr⟩
end Go.Ev
namespace Go.Ev
open Go Go.Proofs
variable {B:Nat}
theorem zt6 {h0 h:T Blk} {nx:Pa} {L:List Ob} {o:Option Pa} {n k:Nat} {l l':List AV} (H:Hp h0 h nx L) (hk:L[k]? = some (.gro o 1 n l)) (hl:l'.length=l.length) (hs:l'.all qb=true) (hf:∀ (i:Nat) (v v':AV),l[i]? = some v->l'[i]? = some v'->tN h0 h v v'):tN h0 h (uw o 1 n) (.lst 1 n l'):=by
 have own:=H.own _ (Zad hk);have hoff:=H.off;cases o with
 | none =>
  obtain ⟨rfl,rfl⟩:=own;obtain rfl:l'=[]:=by simpa using hl
  exact .aX 1
 | some id =>
  obtain ⟨t,h1,h2,h3⟩:=own;refine .sl _ _ _ _ _ true _ t _ (hoff id (Zca.2 ⟨_,Zad hk,by simp [Ob.names]⟩)) trivial h1 (by omega) (by rw [hl];exact h2) hs λi v hi => ?_;have hil:i<l.length:=by rw [<- hl];exact (Zgw.1 hi).1
  have:=yN t 0 (n*1) i (by rw [<- h2];exact hil);rw [h3,Zgv hil] at this;rw [<- Option.some.inj this];exact hf i _ _ (Zgv hil) hi
end Go.Ev
namespace Go.Ev
open Go Go.Proofs
variable {B:Nat}
set_option maxRecDepth 100000
theorem Sg.q1 {q:Rat} (h:Sg q):xg 1 q:=(h.dn (Zaf 1)).nm (Zaf _) (Zaf _)
theorem vZ {Q:List Rat} {P:Rat->Prop} (h:∀ j,P (at' Q j)):∀ x∈Q,P x:=λx hx=>by
 obtain ⟨j,_,rfl⟩:=dM hx;exact h j
theorem su.fix {c:List AV} {q:List Rat} (h:su c q):∀ v∈c,rJ v=true:=λv hv=>by
 obtain ⟨m,hm⟩:=Zau.1 hv;have hl:=(Zgw.1 hm).1;rw [h.1] at hl;obtain ⟨s,w,s',w',e,h1,h2⟩:=h.2 (m / 4) _ (uE (by omega));have h3:((c.drop (m / 4*4)).take 4)[m%4]? = some v:=by
  rw [Zhe (Zds _ (by decide)),Zhf,show m / 4*4+m%4=m by omega];exact hm
 rw [e] at h3;exact h1.fix4 h2 v (Zad h3)
theorem gp4 {n:Nat} {o4 o5:Option Pa} {rs:List Pa} {cs:List (List AV)} {ps:List Nat} {T:List Ob} (P:List Ob):(P++SL n o4 o5 rs cs ps T)[P.length]? = some (.gro o4 1 rs.length (rs.map (rwV n))):=by
 rw [Zgy (Zaf _),Zcw];rfl
theorem gp5 {n:Nat} {o4 o5:Option Pa} {rs:List Pa} {cs:List (List AV)} {ps:List Nat} {T:List Ob} (P:List Ob):(P++SL n o4 o5 rs cs ps T)[P.length+1]? = some (.gro o5 1 ps.length (ps.map λp=>I ((p:Nat):Int))):=by
 rw [Zgy (by omega),Zct];rfl
theorem gpT {n:Nat} {o4 o5:Option Pa} {rs:List Pa} {cs:List (List AV)} {Q:List (List Rat)} {ps:List Nat} {b:Ob} {T:List Ob} (S:SM rs cs Q) (P:List Ob):(P++SL n o4 o5 rs cs ps (b::T))[P.length+(Q.length+2)]? = some b:=by
 rw [Zgy (by omega),Zct];show (List.zipWith Ob.arr rs cs++b::T)[Q.length]? = _;rw [Zgy (by rw [xR S];exact Zaf _),xR S,Zcw];rfl
theorem zmv {a g6 g7 b:Ob} {Z U:List Ob}:(a::g6::g7::b::(Z++U)).Perm (g6::g7::b::((Z++[a])++U)):=by
 refine (List.Perm.swap ..).trans (List.Perm.cons _ ((List.Perm.swap ..).trans (List.Perm.cons _ ((List.Perm.swap ..).trans (List.Perm.cons _ ?_)))));rw [Zcg];exact List.perm_middle.symm
def frQ (n:Nat) (ps:List Nat):List Nat:=(List.range n).filter λx => !decide (x∈ps)
theorem zhx {c:Nat} {ps:List Nat}:frQ (c+1) ps=frQ c ps++if c∈ps then [] else [c]:=by
 unfold frQ;rw [List.range_succ,List.filter_append]
 congr 1
 by_cases h:c∈ps
 .rw [if_pos h,List.filter_cons_of_neg (by simp [h])];rfl
 .rw [if_neg h,List.filter_cons_of_pos (by simp [h])];rfl
theorem vC (n:Nat) (ps:List Nat):(frQ n ps).length<=n:=by
 unfold frQ;exact Zax (Zep ..) (by rw [Zcz];exact Zaf _)
def SpcV (n:Nat) (fr:List Nat) (Bs:List (List Rat)) (v:AV):Prop:=∃ cb:List (List AV),cb.length=Bs.length/\(∀ a,a<Bs.length->su (cb.getD a []) (Bs.getD a []))/\v=.agg [.lst 1 fr.length (fr.map λp=>I ((p:Nat):Int)),.lst 1 Bs.length (cb.map λc=>.lst 4 n c)]
def zdu (n:Nat) (lines:List (List Int)) (Q:List (List Rat)) (ps:List Nat):Prop:=(∃ O,Sv n O Q ps)/\Q.length<=min 11 lines.length/\(∀ f,Mgf n lines f->∀ q∈Q,dot q f=0)/\∀ f:List Rat,f.length=n->(∀ q∈Q,dot q f=0)->Mgf n lines f
theorem qb8 (n:Nat) (lines:List (List Int)) (f:List Rat):dot (aT n lines 0) f=0:=by
 unfold aT;rw [uA _ _ _ _ rfl];grind
theorem zmw {n i:Nat} {lines:List (List Int)} {f:List Rat} (h:dot (aT n lines i) f=0):dot (sP n (lines.getD i [])) f=dot (sP n (lines.getD 0 [])) f:=by
 unfold aT at h;rw [uA _ _ _ _ (by rw [yR,yR])] at h
 grind
theorem zhy {n:Nat} {lines:List (List Int)} (hr:∀ l∈lines,∀ c∈l,0<=c/\c<(n:Int)) {i:Nat} (hi:i<lines.length):∀ c∈lines.getD i [],0<=c/\c<(n:Int):=hr _ (yF hi)
theorem zdv {n:Nat} {lines:List (List Int)} (hn:n<=256) (hl:lines.length<=12) (hll:∀ l∈lines,l.length<=256) (hr:∀ l∈lines,∀ c∈l,0<=c/\c<(n:Int)):Pure Tryz.prog B 93 [.agg [I (n:Int),uf lines]] (λv=>∃ Q ps,zdu n lines Q ps/\SpcV n (frQ n ps) ((frQ n ps).map (aN n Q ps)) v):=by
 refine zT λh nx K H0 hK=>zL zN yC 1000 λhf => ?_;rw [F93.go,F93.t113,zA,F93.zu];refine H0.box (l:=[I (n:Int),uf lines]) rfl λb1 h1 nx1 H1 => ?_;refine H1.alloc λb2 h2 nx2 H2 => ?_;rw [zA,F93.zo,sFx,H2.load (k:=1) (i:=0+0) rfl rfl,zA,F93.yw,zA,F93.vk,zA,zA,F93.ng,zI];have H2:=(H2.aA 1).aA 1
 refine F93.zzq (λm x4 x5 x6 h' nx'=>∃ (i:Nat) (o4 o5:Option Pa) (rs:List Pa) (cs:List (List AV)) (Q:List (List Rat)) (ps:List Nat) (O:List (List Rat)),x4=uw o4 1 rs.length/\x5=uw o5 1 ps.length/\x6=I (i:Int)/\m+i=lines.length+1/\1<=i/\(i<=lines.length\/i=1)/\Q.length+1<=i/\SM rs cs Q/\Sv n O Q ps/\(∀ f,Mgf n lines f->∀ q∈Q,dot q f=0)/\(∀ i',i'<i->∀ f:List Rat,f.length=n->(∀ q∈Q,dot q f=0)->dot (aT n lines i') f=0)/\Hp h h' nx' (SL n o4 o5 rs cs ps [.arr b2 [.zb,.zb],.arr b1 [I (n:Int),uf lines]])) (m:=lines.length) (by omega) ⟨1,none,none,[],[],[],[],[],rfl,rfl,rfl,rfl,by omega,.inr rfl,Zaf _,⟨rfl,rfl,λa ha=>by simp at ha⟩,Sv.nil n,by simp,λi' hi f _ _=>by
  obtain rfl:i'=0:=by omega
  exact qb8 ..,H2⟩ ?_
 rintro m z4 z5 z6 z7 z8 z9 z10 z11 z17 z18 z19 z20 z21 z22 z23 z24 z25 z26 z27 h3 nx3 R ⟨i,o4,o5,rs,cs,Q,ps,O,rfl,rfl,rfl,hm,hi1,hi2,hQi,S,hS,hdot,hcv,H3⟩ hR;obtain ⟨T,hT⟩:∃ T:List Ob,T=[.arr b2 [.zb,.zb],.arr b1 [I (n:Int),uf lines]]:=⟨_,rfl⟩;rw [<- hT] at H3;have hps:=hS.len;have tl:∀ {X:List Ob} {o4 o5:Option Pa} {rs:List Pa} {cs:List (List AV)} {ps:List Nat},(List.zipWith Ob.arr rs cs).length=Q.length->(X++SL n o4 o5 rs cs ps T)[X.length+2+Q.length+1]? = some (.arr b1 [I (n:Int),uf lines]):=λ{X o4 o5 rs cs ps} hz=>by
  rw [hT,Zgy (by omega),show X.length+2+Q.length+1-X.length=Q.length+1+2 by omega];show (List.zipWith Ob.arr rs cs++[Ob.arr b2 [.zb,.zb],Ob.arr b1 [I (n:Int),uf lines]])[Q.length+1]? = _;rw [Zgy (by omega),hz,Zct];rfl
 have l1:∀ op:AV->OP,zG (.ptr b1 (0+1)) h3 op=op (uf lines):=λop=>H3.load (i:=0+1) (tl (X:=[]) (xR S)) rfl;rw [F93.t63,zA,zA,F93.fZ,sFx,l1,zW,jf,zB,F93.v17];by_cases ci:i<lines.length
 case neg =>
  rw [Zab (by omega),zD,zX,yD,zA,F93.zzr];have hpl:ps.length<=33:=by omega
  refine H3.alloc λb3 h4 nx4 H4 => ?_;have H4:=(H4.aA 1).aA 1;rw [zA,zA,F93.zzs,zI];refine F93.zw1 (λm x29 h' nx'=>∃ (c:Nat) (o6 o7:Option Pa) (rb:List Pa) (cb:List (List AV)),x29=I (c:Int)/\m+c=n/\SM rb cb ((frQ c ps).map (aN n Q ps))/\Hp h h' nx' (.gro o6 1 (frQ c ps).length ((frQ c ps).map λp=>I ((p:Nat):Int))::.gro o7 1 rb.length (rb.map (rwV n))::.arr b3 [uw o6 1 (frQ c ps).length,uw o7 1 rb.length]::(List.zipWith Ob.arr rb cb++SL n o4 o5 rs cs ps T))) (m:=n) (by omega) ⟨0,none,none,[],[],rfl,by omega,⟨rfl,rfl,λa ha=>by simp [frQ] at ha⟩,H4⟩ ?_;rintro m2 y13 y14 y15 y16 y29 y30 y31 y32 y33 y34 y35 h5 nx5 R2 ⟨c,o6,o7,rb,cb,rfl,hmc,S2,H5⟩ hR2;have hfl:=vC c ps;have hrb:rb.length=(frQ c ps).length:=by rw [S2.lr,Zah]
  obtain ⟨P,hP⟩:∃ P:List Ob,P=.gro o6 1 (frQ c ps).length ((frQ c ps).map λp=>I ((p:Nat):Int))::.gro o7 1 rb.length (rb.map (rwV n))::.arr b3 [uw o6 1 (frQ c ps).length,uw o7 1 rb.length]::List.zipWith Ob.arr rb cb:=⟨_,rfl⟩;have eP:(.gro o6 1 (frQ c ps).length ((frQ c ps).map λp=>I ((p:Nat):Int))::.gro o7 1 rb.length (rb.map (rwV n))::.arr b3 [uw o6 1 (frQ c ps).length,uw o7 1 rb.length]::(List.zipWith Ob.arr rb cb++SL n o4 o5 rs cs ps T))=P++SL n o4 o5 rs cs ps T:=by rw [hP];rfl
  have H5p:=H5.cast eP;rw [F93.t101,zA,F93.zzt,jf,zA,zB,F93.v30];by_cases cc:c<n
  case neg =>
   obtain rfl:c=n:=by omega
   rw [Zab (by omega),zD,zX,yD,zA,F93.zw2,H5.zm (k:=2) (n:=2) rfl rfl];rw [hT] at H5p;refine H5p.jh (l2:=[uw o6 1 (frQ c ps).length,uw o7 1 rb.length]) (gpT S P) rfl rfl λh6 H6 => ?_;simp only [zF,zO];have hb2:((P++SL c o4 o5 rs cs ps [.arr b2 [.zb,.zb],.arr b1 [I (c:Int),uf lines]]).set (P.length+(Q.length+2)) (.arr b2 [uw o6 1 (frQ c ps).length,uw o7 1 rb.length]))[P.length+(Q.length+2)]? = some (.arr b2 [uw o6 1 (frQ c ps).length,uw o7 1 rb.length]):=Zhc (Zgw.1 (gpT S P)).1;rw [F93.ret,H6.zm (n:=2) hb2 rfl];have hPl:3<=P.length:=by rw [hP];simp
   have old:∀ i,i<P.length->((P++SL c o4 o5 rs cs ps [.arr b2 [.zb,.zb],.arr b1 [I (c:Int),uf lines]]).set (P.length+(Q.length+2)) (.arr b2 [uw o6 1 (frQ c ps).length,uw o7 1 rb.length]))[i]? = P[i]? := λi hi=>by
    rw [Zhd (by omega),Zhb hi]
   have F6:tN h h6 (uw o6 1 (frQ c ps).length) (.lst 1 (frQ c ps).length ((frQ c ps).map λp=>I ((p:Nat):Int))):=H6.ak (k:=0) (by rw [old 0 (by omega),hP];rfl) λv hv=>by
    obtain ⟨x,_,rfl⟩:=Zar.1 hv;rfl
   have hcl:=S2.lc;have F7:tN h h6 (uw o7 1 rb.length) (.lst 1 rb.length (cb.map λd=>.lst 4 c d)):=zt6 H6 (k:=1) (by rw [old 1 (by omega),hP];rfl) (by rw [Zah,Zah,hcl,S2.lr]) (Zaw.2 λv hv=>by obtain ⟨x,_,rfl⟩:=Zar.1 hv;rfl) λa v v' h1 h2=>by
    rw [Zgx] at h1 h2;have ha:a<rb.length:=by
     rcases Zdj a rb.length with q | q
     .exact q
     .rw [Zha q] at h1;cases h1
    have hac:a<cb.length:=by rw [hcl,<- S2.lr];exact ha
    rw [Zgv ha] at h1;rw [j7 (d:=[]) hac] at h2;obtain rfl:=Option.some.inj h1;obtain rfl:=Option.some.inj h2;have hrow:=S2.row a (by rw [<- S2.lr];exact ha);refine H6.zi0 (k:=3+a) ?_ (Zaf _) ?_ hrow.fix
    .rw [old (3+a) (by rw [hP];simp only [Zbd];rw [xR S2,<- S2.lr];omega),hP,Zdh 3 a];show (List.zipWith Ob.arr rb cb)[a]? = _;rw [Zhh,Zgv ha,j7 (d:=[]) hac]
    .rw [hrow.1,Zaa,Zgx,j7 (d:=0) (show a<(frQ c ps).length by omega)];show (aN _ _ _ _).length*4=_;rw [dL]
   refine hK _ _ _ _ (.agg [.lst 1 (frQ c ps).length ((frQ c ps).map λp=>I ((p:Nat):Int)),.lst 1 rb.length (cb.map λd=>.lst 4 c d)]) H6 (Frz.agg _ _ rfl rfl λj v v' h1 h2 => ?_) ⟨Q,ps,⟨⟨O,hS⟩,by omega,hdot,λf hf hk=>⟨hf,λl hl=>by
    obtain ⟨b,hb⟩:=Zau.1 hl;have hbl:=(Zgw.1 hb).1;have e:=zmw (hcv b (by omega) f hf hk);rw [Zaa,hb] at e;exact e⟩⟩,cb,hcl,S2.row,by rw [S2.lr]⟩
   match j,h1,h2 with
   | 0,h1,h2=>cases h1;cases h2;exact F6
   | 1,h1,h2=>cases h1;cases h2;exact F7
   | j+2,h1,h2=>simp at h1
  rw [Zac (by omega),zC,zE,zA,zI,zA,F93.zzu,zA,zA,F93.zzv];refine zt1 H5p (gp5 P) (by omega) ?_;rw [zB,F93.v31];have hfs:=zhx (c:=c) (ps:=ps);by_cases hc:c∈ps
  .rw [if_pos hc,Zba] at hfs;rw [Zac hc,zC,zX,yD,F93.zu4,jo (by omega)];exact hR2 (m2-1) _ _ _ _ _ _ _ _ _ _ _ _ _ (by omega) ⟨c+1,o6,o7,rb,cb,by congr 1,by omega,by rw [hfs];exact S2,by rw [hfs];exact H5⟩
  rw [if_neg hc] at hfs;rw [Zab hc,zD,zE,zA,F93.zzw];refine zhq H5p (by omega) λib c0 h6 nx6 hc0 H6 => ?_;rw [zA,F93.zzx];refine zhg (by unfold rF;omega) _ _ _ _ ?_;rintro _ ⟨s,w,s',w',rfl,i1,i2⟩ _;rw [rat1] at i1 i2;have hc0l:=hc0.1;rw [Zav] at hc0l;rw [oU (j:=c) rfl cc];refine H6.aR (k:=0) (off:=c*4) rfl (by omega) rfl λh7 H7 => ?_;have hc1:su (gR c0 (c*4) [s,w,s',w']) (uD n c):=hc0.put (by rw [Zav];exact cc) i1 i2;have H7:Hp h h7 nx6 ((.arr ib (gR c0 (c*4) [s,w,s',w'])::P)++SL n o4 o5 rs cs ps T):=H7;rw [zA,zA,F93.zzy,H7.zbp (gp5 (_::P)),zI];refine F93.zz4 (λm x34 h' nx'=>∃ (k:Nat) (c1:List AV),x34=I (k:Int)/\m+k=Q.length/\su c1 (eZ c ((oW Q ps).take k) (uD n c))/\Hp h h' nx' ((.arr ib c1::P)++SL n o4 o5 rs cs ps T)) (m:=Q.length) (by omega) ⟨0,_,rfl,rfl,hc1,H7⟩ ?_;rintro m3 u15 u16 u34 u35 h8 nx8 R3 ⟨k,c1,rfl,hmk,hc1,H8⟩ hR3;rw [F93.t87,zA,F93.zz0,jf,zA,zB,F93.v35];by_cases ck:k<Q.length
  .have hpk:ps[k]? = some (ps.getD k 0):=j7 (by omega);have hpn:=hS.rng _ (Zad hpk);obtain ⟨rk,hrk0,hob⟩:=S.ob (n:=n) (o4:=o4) (o5:=o5) (ps:=ps) (T:=T) ck (.arr ib c1::P);obtain ⟨id5,g5,d5⟩:=H8.zdc (j:=k) (gp5 (_::P)) (show (ps.map λp=>I ((p:Nat):Int))[k]? = some (I ((ps.getD k 0:Nat):Int)) by rw [Zgx,hpk];rfl);obtain ⟨id4,g4,d4⟩:=H8.zdc (j:=k) (gp4 (_::P)) (show (rs.map (rwV n))[k]? = some (rwV n rk) by rw [Zgx,hrk0];rfl);have hrow:=S.row k ck;have hok:=hS.row _ (yF (d:=[]) ck);obtain ⟨cs2,e1,e2,_,fv⟩:=hrow.get (uE (q:=Q.getD k []) (j:=c) (by rw [hok];exact cc));have hcl:=hc1.1;rw [bB,gV] at hcl;rw [Zac (by omega),zC,zE,zA,zI,zA,F93.zz1,g5,d5,F93.zz2,g4,d4,oU (j:=c) rfl cc,H8.ku hob e2 e1];refine zdn fv _ _ _ _ ?_;rintro _ ⟨s2,w2,s2',w2',rfl,j1,j2⟩ _;rw [oU (j:=ps.getD k 0) rfl hpn];refine H8.aR (k:=0) (off:=ps.getD k 0*4) rfl (by omega) rfl λh9 H9 => ?_;rw [F93.zz3,jo (by omega)];refine hR3 (m3-1) _ _ _ _ _ _ (by omega) ⟨k+1,_,by congr 1,by omega,?_,H9⟩;rw [zcc hS.len ck,zdr];exact hc1.put (by rw [bB,gV];exact hpn) j1 j2
  obtain rfl:k=Q.length:=by omega
  rw [Zak (by unfold oW;rw [List.length_zip];omega)] at hc1;have H8:=H8;rw [hP] at H8;have H8:Hp h h8 nx8 (.arr ib c1::.gro o6 1 (frQ c ps).length ((frQ c ps).map λp=>I ((p:Nat):Int))::.gro o7 1 rb.length (rb.map (rwV n))::.arr b3 [uw o6 1 (frQ c ps).length,uw o7 1 rb.length]::(List.zipWith Ob.arr rb cb++SL n o4 o5 rs cs ps T)):=H8;have l0:∀ op:AV->OP,zG (.ptr b3 (0+0)) h8 op=op (uw o6 1 (frQ c ps).length):=λop=>H8.load (k:=3) (i:=0+0) rfl rfl;have l1:∀ op:AV->OP,zG (.ptr b3 (0+1)) h8 op=op (uw o7 1 rb.length):=λop=>H8.load (k:=3) (i:=0+1) rfl rfl;have k1:((gL (ni 1 [(I 0)]) [(0,1,I (c:Int))]).isSome&&true)=true:=rfl;have k2:((gL (ni 1 [.zb]) [(0,1,rwV n ib)]).isSome&&true)=true:=rfl;rw [Zab (by omega),zD,zX,yD,F93.zz5];simp only [sFx,l0,l1,k1,k2,jT];refine H8.fq (l:=[I (c:Int)]) rfl λta h9 nx9 H9 => ?_;have l0:∀ op:AV->OP,zG (.ptr b3 (0+0)) h9 op=op (uw o6 1 (frQ c ps).length):=λop=>H9.load (k:=4) (i:=0+0) rfl rfl;have l1:∀ op:AV->OP,zG (.ptr b3 (0+1)) h9 op=op (uw o7 1 rb.length):=λop=>H9.load (k:=4) (i:=0+1) rfl rfl;simp only [l0,l1,zH];refine H9.appN (k:=2) (o:=o6) (c:=1) (new:=[I (c:Int)]) rfl (qc.rd (l:=[I (c:Int)]) (n:=1) (H9.own _ (Zaj ..)) rfl) rfl rfl (by decide) (by decide) (by omega) λo6' h10 nx10 _ H10 => ?_;have l0:∀ op:AV->OP,zG (.ptr b3 (0+0)) h10 op=op (uw o6 1 (frQ c ps).length):=λop=>H10.load (k:=4) (i:=0+0) rfl rfl;have l1:∀ op:AV->OP,zG (.ptr b3 (0+1)) h10 op=op (uw o7 1 rb.length):=λop=>H10.load (k:=4) (i:=0+1) rfl rfl;simp only [l0,l1,zH];refine H10.fq (l:=[rwV n ib]) rfl λtb h11 nx11 H11 => ?_;have l0:∀ op:AV->OP,zG (.ptr b3 (0+0)) h11 op=op (uw o6 1 (frQ c ps).length):=λop=>H11.load (k:=5) (i:=0+0) rfl rfl;have l1:∀ op:AV->OP,zG (.ptr b3 (0+1)) h11 op=op (uw o7 1 rb.length):=λop=>H11.load (k:=5) (i:=0+1) rfl rfl;simp only [l0,l1,zH];refine H11.appN (k:=4) (o:=o7) (c:=1) (new:=[rwV n ib]) rfl (qc.rd (l:=[rwV n ib]) (n:=1) (H11.own _ (Zaj ..)) rfl) rfl rfl (by decide) (by decide) (by omega) λo7' h12 nx12 _ H12 => ?_;refine H12.store (k:=5) rfl (by simp) (zbo _ _ _) λh13 H13 => ?_;refine H13.store (k:=5) rfl (by simp) (zbo _ _ _) λh14 H14 => ?_;have H15:Hp h h14 nx12 (.arr ib c1::.gro o6' 1 ((frQ c ps).length+1) (((frQ c ps).map λp=>I ((p:Nat):Int))++[I (c:Int)])::.gro o7' 1 (rb.length+1) (rb.map (rwV n)++[rwV n ib])::.arr b3 [uw o6' 1 ((frQ c ps).length+1),uw o7' 1 (rb.length+1)]::(List.zipWith Ob.arr rb cb++SL n o4 o5 rs cs ps T)):=H14.drop.drop;have H16:=H15.perm zmv;rw [F93.zu4,jo (by omega)];refine hR2 (m2-1) _ _ _ _ _ _ _ _ _ _ _ _ _ (by omega) ⟨c+1,o6',o7',rb++[ib],cb++[c1],by congr 1,by omega,?_,H16.cast ?_⟩
  .rw [hfs,Zbh];exact S2.add hc1
  .rw [hfs,zkw (by rw [S2.lr,S2.lc])];simp only [Zae,Zbh,Zbq,Zdu,List.map_nil]
 have hx0:lines[0]? = some (lines.getD 0 []):=j7 (by omega);have hxi:lines[i]? = some (lines.getD i []):=j7 ci;have hm1:=hll _ (yF (d:=[]) (show 0<lines.length by omega));have hmi:=hll _ (yF (d:=[]) ci);obtain ⟨t,ht,hd⟩:=hS.den (by omega);obtain ⟨M,hMe⟩:∃ M,M=HB:=⟨_,rfl⟩;rw [<- hMe] at ht hd;have hMS:M<=861979:=by rw [hMe];exact Zaf _
 obtain ⟨N,hNe⟩:∃ N,N=M+Q.length*M:=⟨_,rfl⟩;have hNS:N<=10343748:=by
  have h1:=Zbl (show Q.length<=11 by omega) hMS;omega
 have hMN:M<=N:=by rw [hNe];exact Nat.le_add_right _ _
 have hA2:2*(N*M)<=9223372036854775807:=by have:=Zbl hNS hMS;omega
 have hA3:N*N<=9223372036854775807:=by have:=Zbl hNS hNS;omega
 have hA4:M*M<=9223372036854775807:=by have:=Zbl hMS hMS;omega
 have hA5:2*(M*(M*M))<=9223372036854775807:=by have:=Zbl hMS (Zbl hMS hMS);omega
 rw [Zac (by omega),zC,zE,zA,zI,zA,F93.fU,sFx,l1,cu (i:=i) rfl ci,ldL (getT hxi)];refine mQ H3 (by omega) (by omega) (zhy hr ci) λr cr h4 nx4 hcr H4 => ?_;have l1':∀ op:AV->OP,zG (.ptr b1 (0+1)) h4 op=op (uf lines):=λop=>H4.load (i:=0+1) (tl (X:=[Ob.arr r cr]) (xR S)) rfl;rw [zA,F93.nu,sFx,l1',cu (j:=0) (i:=0) rfl (by omega),ldL (getT hx0)];refine zhg (by unfold rF;omega) _ _ _ _ ?_;rintro v1 f1 _;rw [rat1] at f1;rw [ldL (getT hx0)];simp only [zH,l1',sFx];rw [cu (j:=0) (i:=0) rfl (by omega)];simp only [zH];refine mQ H4 (by omega) (by omega) (zhy hr (by omega)) λr0 cr0 h5 nx5 hcr0 H5 => ?_;have d01:∀ (l:List Int) (j:Nat),xg 1 (at' (sP n l) j):=λl j=>Sg.q1 (by rcases wT n l j with e | e <;> rw [e];exact .inr (.inl rfl);exact .inr (.inr rfl));have q7:∀ {j:Nat} {q:Rat},Dn (t j) M q->xg M q:=λ{j q} hq=>hq.nm (ht j).1 (ht j).2
 refine ze7 (kr:=1) (ko:=0) (M:=1) (N:=1) (P:=1) (R:=1) H5 rfl rfl (by omega) hcr hcr0 (yR _ _) (yR _ _) (by omega) f1 (Sg.q1 (.inr (.inr rfl))) (vZ λj=>d01 _ j) (vZ λj=>d01 _ j) (λx hx=>by
  obtain ⟨j,_,rfl⟩:=dM hx;rw [Rat.one_mul];exact d01 _ j) (by decide) (by decide) λc1 h6 nx6 hc1 H6 => ?_
 have H6:=H6.drop;rw [zA,zA,F93.ny,H6.zbp (k:=2) rfl,zI];refine F93.znd (λm x20 h' nx'=>∃ (k:Nat) (c:List AV) (q:List Rat),x20=I (k:Int)/\m+k=Q.length/\su c q/\Rvq n t M Q ps (aT n lines i) k q/\Hp h h' nx' ([.arr r c]++SL n o4 o5 rs cs ps T)) (m:=Q.length) (by omega) ⟨0,c1,_,rfl,rfl,hc1,Rvq.zero (λj=>(ht j).2) (vS ..) (mE n lines i),H6⟩ ?_;rintro m2 y8 y9 y20 y21 h7 nx7 R2 ⟨k,c,q,rfl,hmk,hcq,hrk,H7⟩ hR2;rw [F93.t20,zA,F93.xu,jf,zA,zB,F93.v21];by_cases ck:k<Q.length
 .have hpk:ps[k]? = some (ps.getD k 0):=j7 (by omega);have hpn:=hS.rng _ (Zad hpk);obtain ⟨rk,hrk0,hob⟩:=S.ob (n:=n) (o4:=o4) (o5:=o5) (ps:=ps) (T:=T) ck [.arr r c];obtain ⟨id5,g5,d5⟩:=H7.zdc (k:=2) (j:=k) rfl (show (ps.map λp=>I ((p:Nat):Int))[k]? = some (I ((ps.getD k 0:Nat):Int)) by rw [Zgx,hpk];rfl);obtain ⟨id4,g4,d4⟩:=H7.zdc (k:=1) (j:=k) rfl (show (rs.map (rwV n))[k]? = some (rwV n rk) by rw [Zgx,hrk0];rfl);obtain ⟨cs2,e1,e2,_,fv⟩:=hcq.get (uE (q:=q) (j:=ps.getD k 0) (by rw [hrk.len];exact hpn));have hkN:M+k*M<=N:=by rw [hNe];have:=Zbj M (show k<=Q.length by omega);omega
  have hb:Sg (at' q (ps.getD k 0)):=by rw [hrk.late k (Zaf _) ck];exact mE ..
  rw [Zac (by omega),zC,zE,zA,zI,zA,F93.rP,g5,d5,F93.rG,oU (j:=ps.getD k 0) rfl hpn,H7.ku (k:=0) rfl e2 e1,g4,d4]
  refine ze7 (kr:=0) (ko:=[Ob.arr r c].length+(k+2)) (M:=1) (N:=M) (P:=N) (R:=M) H7 rfl hob (by show 1+(k+2)≠0;omega) hcq (S.row k ck) hrk.len (hS.row _ (yF ck)) (by omega) fv hb.q1 (vZ λj=>((hrk.den j).mono hkN).nm (ht j).1 (Zax (ht j).2 hMN)) (vZ λj=>q7 (hd _ (yF ck) j)) (λx hx=>by
   obtain ⟨j,_,rfl⟩:=dM hx;exact q7 (hb.mul (hd _ (yF ck) j))) (by omega) hA2 λc' h8 nx8 hc' H8 => ?_
  rw [F93.tL,jo (by omega)];exact hR2 (m2-1) _ _ _ _ _ _ (by omega) ⟨k+1,c',_,by congr 1,by omega,hc',hrk.next hS hd (mE n lines i) ck,H8⟩
 obtain rfl:k=Q.length:=by omega
 rw [Zab (by omega),zD,zX,yD,zA,F93.aV,pu (by omega),zA,zI];have hq0:∀ f,Mgf n lines f->dot q f=0:=λf hfm=>by
  rw [hrk.eq,zcd (n:=n) _ _ (λx hx => ?_) (vS ..),zra hfm ci];have hz:=Zej (Zbx hx);exact ⟨hS.row _ hz.1,hdot f hfm _ hz.1⟩
 have hqr:∀ f:List Rat,(∀ q∈Q,dot q f=0)->dot q f=dot (aT n lines i) f:=λf hf=>by
  rw [hrk.eq,zcd (n:=n) _ _ (λx hx => ?_) (vS ..)];have hz:=Zej (Zbx hx);exact ⟨hS.row _ hz.1,hf _ hz.1⟩
 refine F93.zfm (λm x10 h' nx'=>∃ z:Int,x10=I z /\ -1<=z/\z<(n:Int)/\(m:Int)=z+1/\(∀ b:Nat,z<(b:Int)->at' q b=0)/\h'=h7/\nx'=nx7) (m:=n) (by omega) ⟨(n:Int)-1,rfl,by omega,by omega,by omega,λb hb=>jV (by rw [hrk.len];omega),rfl,rfl⟩ ?_;rintro m3 w10 w22 h8 nx8 R3 ⟨z,rfl,hz1,hz2,hmz,hzb,rfl,rfl⟩ hR3;rw [F93.t30,zA,zA,F93.zfy,F93.zne,F93.zse,fM];by_cases cz:0<=z
 case neg =>
  rw [Zab (by omega)];simp only [jD,zda,zb6];rw [F93.zpx,F93.zjz];simp only [jD,yB];rw [zB,F93.v22,zD,zX,yD,zA,zA,F93.zj0,jf,Zac (by omega),zB,F93.v23,zC,zX,yD,F93.zu3,jo (by omega)];rw [hT] at H7
  exact hR (m-1) _ _ _ _ _ _ _ _ _ _ _ _ _ _ _ _ _ _ _ _ _ (by omega) ⟨i+1,o4,o5,rs,cs,Q,ps,O,rfl,rfl,by congr 1,by omega,by omega,by omega,by omega,S,hS,hdot,λi' hi f hf hk=>by
   by_cases e:i'=i
   .rw [e,<- hqr f hk];exact mZ _ _ λb=>hzb b (by omega)
   .exact hcv i' (by omega) f hf hk,H7.drop⟩
 obtain ⟨j,rfl⟩:∃ j:Nat,z=(j:Int):=⟨z.toNat,by omega⟩;have hjn:j<n:=by omega
 obtain ⟨cs2,e1,e2,_,fv⟩:=hcq.get (uE (q:=q) (j:=j) (by rw [hrk.len];exact hjn));rw [Zac (by omega)];simp only [yL,xT];rw [oU (j:=j) rfl hjn,H7.ku (k:=0) rfl e2 e1];refine bV fv _ _ _ _ ?_;rintro _ rfl _;rw [F93.zpx,F93.zjz];simp only [yL,zY,qz];rw [zB,F93.v22];by_cases hv:at' q j=0
 .rw [Zac (sH.2 (Zcr.2 hv)),zC,zE,zI,F93.om,pu (by omega)]
  exact hR3 (m3-1) _ _ _ _ (by omega) ⟨(j:Int)-1,rfl,by omega,by omega,by omega,λb hb=>by
   by_cases e:b=j
   .rw [e];exact hv
   .exact hzb b (by omega),rfl,rfl⟩
 rw [Zab (λw=>hv (Zcr.1 (sH.1 w))),zD,zX,yD,zA,zA,F93.zj0,jf,Zab (by omega),zB,F93.v23,zD,zE,zA,F93.znh,oU (j:=j) rfl hjn,H7.ku (k:=0) rfl e2 e1];have hrd:∀ b,Dn (t b) N (at' q b):=λb=>by rw [hNe];exact hrk.den b
 obtain ⟨s,s1,sN,dinv,dmul⟩:=zt4 (ht j).1 hv (hrd j);have hqs:∀ b,xg N (at' q b):=λb=>(hrd b).nm (ht b).1 (Zax (ht b).2 hMN);refine zmo fv hv _ _ _ _ ?_;rintro v2 f2 _;refine zq7 (kr:=0) (M:=N) (N:=N) H7 rfl hcq hrk.len (by omega) f2 ((dinv.mono (Zax (ht j).2 hMN)).nm s1 sN) (vZ hqs) hA3 λc2 h9 nx9 hc2 H9 => ?_;have H9:Hp h h9 nx9 ([.arr r c2]++SL n o4 o5 rs cs ps T):=H9;have hNw:Nv n Q ps j (yU (at' q j)⁻¹ q):=by
  refine ⟨by rw [u9];exact hrk.len,by rw [kE];grind,λb hb=>by rw [kE,hrk.done b hb hb,Zbz],hjn,λb hb=>by rw [kE,hzb b (by omega),Zbz]⟩
 have hqk:∀ f:List Rat,f.length=n->(∀ q∈Q,dot q f=0)->dot (aT n lines i) f=0->dot (yU (at' q j)⁻¹ q) f=0:=λf _ hf h0=>by
  rw [kY,hqr f hf,h0,Zbm]
 have hqb:∀ f:List Rat,(∀ q∈Q,dot q f=0)->dot (yU (at' q j)⁻¹ q) f=0->dot (aT n lines i) f=0:=λf hf h0=>by
  rw [kY] at h0;rw [<- hqr f hf];grind
 have hq2:∀ f,Mgf n lines f->dot (yU (at' q j)⁻¹ q) f=0:=λf hfm=>by rw [kY,hq0 f hfm,Zbm]
 obtain ⟨q2,hq2e⟩:∃ q2,q2=yU (at' q j)⁻¹ q:=⟨_,rfl⟩;rw [<- hq2e] at hc2 hNw hq2 hqk hqb;have hnl:(qD Q j q2).length=Q.length:=by unfold qD;rw [Zah]
 obtain ⟨t2,ht2,hd2⟩:=(hS.next hNw (vS ..) (mE n lines i) hqk).den (by rw [Zae,hnl,Zbq];omega);rw [<- hMe] at ht2 hd2;have hd3:∀ b,Dn (t2 b) M (at' q2 b):=λb=>hd2 q2 (by simp) b;rw [zA,zA,F93.zzl,H9.zbp (k:=1) rfl,zI];refine F93.zzo (λm x26 h' nx'=>∃ (k:Nat) (cs':List (List AV)),x26=I (k:Int)/\m+k=Q.length/\SM rs cs' ((qD Q j q2).take k++Q.drop k)/\Hp h h' nx' ([.arr r c2]++SL n o4 o5 rs cs' ps T)) (m:=Q.length) (by omega) ⟨0,cs,rfl,rfl,by rw [Zdr,Zbk,Zcq];exact S,H9⟩ ?_;rintro m4 u11 u26 u27 h10 nx10 R4 ⟨k,cs',rfl,hmk4,S',H10⟩ hR4;have hml:((qD Q j q2).take k++Q.drop k).length=Q.length:=by rw [Zae,Zai,Zcp];omega
 have hrl:=S.lr;rw [F93.t47,zA,F93.zm9,jf,zA,zB,F93.v27];by_cases ck:k<Q.length
 .have hQk:Q[k]? = some (Q.getD k []):=j7 ck;have hmk:((qD Q j q2).take k++Q.drop k)[k]? = some (Q.getD k []):=qb7 hnl hQk;have hmg:((qD Q j q2).take k++Q.drop k).getD k []=Q.getD k []:=by rw [Zaa,hmk];rfl
  have hnk:(qD Q j q2)[k]? = some (jX (at' (Q.getD k []) j) (Q.getD k []) q2):=by unfold qD;rw [Zgx,hQk];rfl
  obtain ⟨rk,hrk0,hob⟩:=S'.ob (n:=n) (o4:=o4) (o5:=o5) (ps:=ps) (T:=T) (by rw [hml];exact ck) [.arr r c2];have hrow:=S'.row k (by rw [hml];exact ck);rw [hmg] at hrow;obtain ⟨id4,g4,d4⟩:=H10.zdc (k:=1) (j:=k) rfl (show (rs.map (rwV n))[k]? = some (rwV n rk) by rw [Zgx,hrk0];rfl);have hok:=hS.row _ (yF (d:=[]) ck);obtain ⟨cs3,e3,e4,_,fo⟩:=hrow.get (uE (q:=Q.getD k []) (j:=j) (by rw [hok];exact hjn));rw [Zac (by omega),zC,zE,zA,zI,zA,F93.zzm,g4,d4,F93.zzn,oU (j:=j) rfl hjn,H10.ku hob e4 e3]
  refine ze7 (kr:=[Ob.arr r c2].length+(k+2)) (ko:=0) (M:=M) (N:=M) (P:=M) (R:=M*M) H10 hob rfl (by show 0≠1+(k+2);omega) hrow hc2 hok hNw.len (by omega) fo (q7 (hd _ (yF ck) j)) (vZ λb=>q7 (hd _ (yF ck) b)) (vZ λb=>(hd3 b).nm (ht2 b).1 (ht2 b).2) (λx hx=>by
   obtain ⟨b,_,rfl⟩:=dM hx;exact ((hd _ (yF ck) j).mul (hd3 b)).nm (Nat.mul_pos (ht j).1 (ht2 b).1) (Zbl (ht j).2 (ht2 b).2)) hA4 hA5 λc' h11 nx11 hc' H11 => ?_
  obtain ⟨S2,eL⟩:=S'.put (n:=n) (o4:=o4) (o5:=o5) (ps:=ps) (T:=T) (by rw [hml];exact ck) hrk0 hc' [.arr r c2];rw [F93.zni,jo (by omega)];exact hR4 (m4-1) _ _ _ _ _ (by omega) ⟨k+1,cs'.set k c',by congr 1,by omega,by rw [<- zq9 hnl hnk];exact S2,H11.cast eL⟩
 obtain rfl:k=Q.length:=by omega
 rw [Zak (by omega),Zbi (by omega),Zba] at S';rw [Zab (by omega),zD,zX,yD,F93.zzp];refine H10.fq (l:=[rwV n r]) rfl λtb h11 nx11 H11 => ?_;refine H11.appN (k:=2) (o:=o4) (c:=1) (new:=[rwV n r]) rfl (qc.rd (l:=[rwV n r]) (n:=1) (H11.own _ (Zaj ..)) rfl) rfl rfl (by decide) (by decide) (by omega) λo4' h12 nx12 _ H12 => ?_;refine H12.fq (l:=[I (j:Int)]) rfl λtb2 h13 nx13 H13 => ?_;refine H13.appN (k:=4) (o:=o5) (c:=1) (new:=[I (j:Int)]) rfl (qc.rd (l:=[I (j:Int)]) (n:=1) (H13.own _ (Zaj ..)) rfl) rfl rfl (by decide) (by decide) (by omega) λo5' h14 nx14 _ H14 => ?_;have H15:Hp h h14 nx14 (.arr r c2::.gro o4' 1 (rs.length+1) (rs.map (rwV n)++[rwV n r])::.gro o5' 1 (ps.length+1) ((ps.map λp=>I ((p:Nat):Int))++[I (j:Int)])::(List.zipWith Ob.arr rs cs'++T)):=H14.drop.drop;have H16:=H15.perm zq8;have eL:(.gro o4' 1 (rs.length+1) (rs.map (rwV n)++[rwV n r])::.gro o5' 1 (ps.length+1) ((ps.map λp=>I ((p:Nat):Int))++[I (j:Int)])::((List.zipWith Ob.arr rs cs'++[Ob.arr r c2])++T))=SL n o4' o5' (rs++[r]) (cs'++[c2]) (ps++[j]) T:=by
  unfold SL;rw [zkw (by rw [S'.lr,S'.lc]),Zae,Zae,Zbh,Zbh];rfl
 have H17:=H16.cast eL;rw [hT] at H17;rw [F93.zu3,jo (by omega)];refine hR (m-1) _ _ _ _ _ _ _ _ _ _ _ _ _ _ _ _ _ _ _ _ _ (by omega) ⟨i+1,o4',o5',rs++[r],cs'++[c2],qD Q j q2++[q2],ps++[j],O++[aT n lines i],by rw [Zae];rfl,by rw [Zae];rfl,by congr 1,by omega,by omega,by omega,by rw [Zae,hnl,Zbq];omega,S'.add hc2,hS.next hNw (vS ..) (mE n lines i) hqk,λf hfm q' hq' => ?_,λi' hi f hf hk => ?_,H17⟩
 .rcases Zbf.1 hq' with hq' | hq'
  .obtain ⟨o,ho,rfl⟩:=Zar.1 hq';rw [uA _ _ _ _ (by rw [hS.row o ho,hNw.len]),hdot f hfm o ho,hq2 f hfm,Zbm];grind
  .obtain rfl:=Zaz.1 hq';exact hq2 f hfm
 .have h2:=hk q2 (by simp);have h3:∀ o∈Q,dot o f=0:=λo ho=>by
   have:=hk _ (Zdd _ (List.mem_map_of_mem (f:=λo=>jX (at' o j) o q2) ho));rw [uA _ _ _ _ (by rw [hS.row o ho,hNw.len]),h2,Zbm] at this
   grind
  by_cases e:i'=i
  .rw [e];exact hqb f h3 h2
  .exact hcv i' (by omega) f hf h3
end Go.Ev
namespace Go.Ev
open Go Go.Proofs
theorem Sv.nodup {n:Nat} {O Q:List (List Rat)} {ps:List Nat} (hS:Sv n O Q ps):ps.Nodup:=by
 rw [List.nodup_iff_pairwise_ne,Zff];intro a b ha hb hab e;have ha':a<Q.length:=by have:=hS.len;omega
 have hb':b<Q.length:=by have:=hS.len;omega
 have h1:=hS.one a a ha' ha';have h2:=hS.one a b ha' hb';have e1:ps.getD a 0=ps[a]:=by rw [Zaa,Zgv ha];rfl
 have e2:ps.getD b 0=ps[b]:=by rw [Zaa,Zgv hb];rfl
 rw [if_pos rfl,e1] at h1;rw [if_neg (by omega),e2,<- e,h1] at h2;exact absurd h2 (by decide)
theorem zdw {n c i:Nat} {O Q:List (List Rat)} {ps:List Nat} (hS:Sv n O Q ps) (hi:i<Q.length):∀ k,k<=Q.length->sumA c (Q.getD i []) ((oW Q ps).take k)=if i<k then at' (Q.getD i []) c else 0
 | 0,_=>by rw [Zdr,if_neg (by omega)];rfl
 | k+1,hk=>by
  rw [zcc hS.len (by omega),zds,zdw hS hi k (by omega),hS.one i k hi (by omega)];by_cases e:i=k
  .subst e;rw [if_neg (by omega),if_pos rfl,if_pos (by omega)];grind
  .rw [if_neg e];by_cases c:i<k
   .rw [if_pos c,if_pos (by omega)];grind
   .rw [if_neg c,if_neg (by omega)];grind
theorem zt7 {n c:Nat} {O Q:List (List Rat)} {ps:List Nat} (hS:Sv n O Q ps) (hc:c<n) (hcp:c∉ps):∀ q∈Q,dot q (aN n Q ps c)=0:=λq hq=>by
 obtain ⟨i,hi⟩:=Zau.1 hq;have hil:=(Zgw.1 hi).1;have hqi:Q.getD i []=q:=by rw [Zaa,hi];rfl
 have hg:=hS.row q hq
 have h2:=zhr (c:=c) hg (oW Q ps) (uD n c) (gV n c) (by rw [zt2 hS.len];exact hS.nodup) (λx hx=>by
  have hx2:=(Zej hx).2;exact ⟨hS.rng _ hx2,ze9 λe=>hcp (e ▸ hx2)⟩)
 have h3:=zdw (c:=c) hS hil Q.length (Zaf _);have hlz:(oW Q ps).length=Q.length:=by unfold oW;rw [List.length_zip,hS.len,Nat.min_self]
 rw [Zak (by omega),hqi,if_pos hil] at h3;rw [zrd hg hc,h3] at h2;rw [gF];unfold aN
 grind
theorem zrn {n:Nat} {O Q:List (List Rat)} {ps:List Nat} (hS:Sv n O Q ps) (hQ:Q.length<=11) (c:Nat):∃ t,1<=t/\t<=HB/\∀ j,Dn t (HB) (at' (aN n Q ps c) j):=by
 obtain ⟨t,h1,h2,h3⟩:=hS.col hQ c;refine ⟨t,h1,h2,λj => ?_⟩;unfold aN;refine zkx (P:=Dn t (HB)) c j _ _ (λx hx => ?_) ?_
 .exact (h3 _ (Zej hx).1).neg
 .rcases zrc n c j with e | e <;> rw [e]
  .exact Dn.zero _ _
  .exact Sg.dn (.inr (.inr rfl)) h2
theorem zt8 {R Bd r:Nat} (hr:r<=R) (hB:(R+1) ^ R<(Bd+1)*(Bd+1)) (a:Nat->Nat->Int) (ha:∀ i j,a i j = -1\/a i j=0\/a i j=1):∃ x:Nat->Int,(∃ j,j<=r/\x j≠0)/\(∀ j,(x j).natAbs<=Bd)/\∀ i,i<r->sI (r+1) (λj=>a i j*x j)=0:=by
 obtain ⟨x,hx,⟨j,hj⟩,hs,hk⟩:=hada (n:=r+1) (B:=((r+1:Nat):Int)) (by omega) ((List.range r).map λi=>(List.range (r+1)).map (a i)) (λb hb=>by
  obtain ⟨i,_,rfl⟩:=Zar.1 hb;refine ⟨by simp,?_⟩;have:=zrh ((List.range (r+1)).map (a i)) λy hy=>by
   obtain ⟨j,_,rfl⟩:=Zar.1 hy;exact ha i j
  simpa using this) (by simp)
 have hxe:x=(List.range (r+1)).map λj=>x.getD j 0:=by
  refine Zdc (by simp [hx]) λi h1 h2 => ?_;simp [Zaa,h1]
 refine ⟨λj=>x.getD j 0,⟨j,?_,hj⟩,λj => ?_,λi hi => ?_⟩
 .refine Classical.byContradiction λc=>hj ?_;rw [Zaa,Zha (by omega)];rfl
 .have h1:=zfb x j;rw [Zah,Zcz] at hs;have h2:(r+1) ^ r<=(R+1) ^ R:=Zax (Nat.pow_le_pow_left (show r+1<=R+1 by omega) r) (Zde (by omega) hr);have h3:(((r+1:Nat):Int)) ^ r=(((r+1) ^ r:Nat):Int):=by simp
  rw [h3] at hs;show (x.getD j 0).natAbs<=Bd;refine Zea λc => ?_;have h5:=Zbl (show Bd+1<=(x.getD j 0).natAbs from c) (show Bd+1<=(x.getD j 0).natAbs from c);have h6:=Zgg (a:=x.getD j 0);omega
 .have:=hk _ (Zar.2 ⟨i,Zbe.2 hi,rfl⟩);rw [hxe,mY] at this;exact this
theorem zwt {F:Nat->Int} {Bd:Nat}:∀ {k:Nat},(∀ j,j<k->(F j).natAbs<=Bd)->(sI k F).natAbs<=k*Bd
 | 0,_=>by simp [sI]
 | k+1,h=>by
  have h1:=zwt (k:=k) λj hj=>h j (by omega);have h2:=h k (by omega);rw [sI,Zbn,Zey];have:=Zfp (sI k F) (F k);omega
theorem zwu (q:Rat) (x:Int):(sgI q*x).natAbs<=x.natAbs:=by
 rcases zri q with e | e | e <;> rw [e] <;> omega
abbrev og (k:Nat) (ps:List Nat) (j i:Nat):Nat:=if i<k then ps.getD i 0 else j
theorem qM {k i:Nat} {F x:Nat->Rat} (h:∀ b,b<k->F b=(if i=b then 1 else 0)*x b):sR k F=if i<k then x i else 0:=by
 rw [jI h,zfc]
theorem qL {k:Nat} {F:Nat->Rat} (h:∀ b,b<k->F b=0):sR k F=0:=by
 rw [qM (i:=k) (x:=F) λb hb=>by rw [h b hb,if_neg (by omega),Zbz],if_neg (Zci _)]
theorem zro {z w:Int} {q:Rat} {M:Nat} (e:q*(w:Rat)=(z:Rat)) (hz:z.natAbs<=M):Dn w.natAbs M q:=by
 by_cases s:0<w
 .exact ⟨z,by rw [show ((w.natAbs:Nat):Int)=w by omega];exact e,hz⟩
 .exact ⟨-z,by rw [show ((w.natAbs:Nat):Int) = -w by omega,Zcn,Zcn];grind,by omega⟩
end Go.Ev
namespace Go.Ev
open Go Go.Proofs
variable {B:Nat}
set_option maxRecDepth 100000
def l10 (n:Nat):Nat:=n*78913 / 262144
theorem iShr {m n:Nat} {K:AV->OP} (hn:n<=64):za .shr .int (I (m:Int)) (.int .u64 (n:Int)) K=K (I ((m / 2 ^ n:Nat):Int)):=by
 have e:za .shr .int (I (m:Int)) (.int .u64 (n:Int)) K=(bif ilt (n:Int) 0 then Out.no 5 else qx ((m:Int).fdiv (2 ^ (min (n:Int).toNat IntKind.i64.bits))) λz=>K (.int .i64 z)):=rfl;have h0:ilt (n:Int) 0=false:=rfl;rw [e,h0,cond_false,jL];have hb:IntKind.i64.bits=64:=rfl;rw [hb,Zfn,Zbw hn,Int.fdiv_eq_ediv_of_nonneg _ (Zeq (by omega))]
 congr 2
theorem zy0 {n:Nat} (hn:n<=64):Pure Tryz.prog B 329 [I (n:Int)] (· = I (l10 n:Int)):=by
 intro p h nx K hK;refine zL zN yC 100 λhf => ?_;rw [nZ.go,nZ.t3,zA,nZ.zu,zA,nZ.zo,rE (by omega),show (n:Int)*78913=((n*78913:Nat):Int) by omega,show (AV.int .u64 18)=.int .u64 ((18:Nat):Int) from rfl,iShr (by omega)];simp only [zF,zO];rw [nZ.ret];exact hK _ rfl hf
theorem zt9 {b:Bool}:Pure Tryz.prog B 330 [.bool b] (· = I (if b then 1 else 0)):=by
 intro p h nx K hK;refine zL zN yC 100 λhf => ?_;rw [mq.go,mq.t9,zA,mq.zu,zA,zA,mq.zo,zB,mq.v2];cases b with
 | true =>
  rw [zC,zA,mq.yw];simp only [zF,zO];rw [mq.ret];exact hK _ rfl hf
 | false =>
  rw [zD,zE,zA,mq.uy];simp only [zF,zO];rw [mq.ret];exact hK _ rfl hf
theorem zy1:∀ n<65,l10 n<20/\2 ^ n<=10 ^ (l10 n+1)/\(l10 n=0\/2*10 ^ (l10 n-1)<=2 ^ n):=by decide
theorem zua:∀ n<20,(layG 2)[n]? = some (10 ^ n):=by decide
def IsNd (u d:Nat):Prop:=1<=d/\d<=20/\u<10 ^ d/\10 ^ (d-1)<=u
theorem zmx {u:Nat} (h0:0<u) (hu:u<18446744073709551616):Pure Tryz.prog B 316 [U u] (λv=>∃ d:Nat,v=I (d:Int)/\IsNd u d):=by
 intro p h nx K hK;refine zL zN yC 100 λhf => ?_;rw [fQ.go,fQ.t5,zA,fQ.zu,zA,fQ.zo];refine zqp hu _ _ _ _ ?_;rintro _ ⟨n,rfl,hn64,hn1,hn2⟩ _;refine zy0 hn64 _ _ _ _ ?_;rintro _ rfl _;obtain ⟨a1,a2,a3⟩:=zy1 n (by omega);obtain ⟨l,hl⟩:∃ l,l=l10 n:=⟨_,rfl⟩;rw [<- hl] at a1 a2 a3 ⊢;have hn2:=hn2 h0;have e1:∀ K:AV->OP,zaf 1 20 (.fp (o9 2)) (I (l:Int)) K=K (.fp ((o9 2).drop (l*1))):=λK=>by
  show (bif Nat.ble (Nat.succ l) 20 then K (.fp ((o9 2).drop (l*1))) else .no 14)=_;rw [Zag (by omega)];rfl
 have e2:∀ K:AV->OP,zG (.fp ((o9 2).drop (l*1))) h K=K (U (10 ^ l)):=λK=>by
  have hg:(o9 2)[l]? = some (U (10 ^ l)):=by
   rw [o9,Zgx,zua l a1];rfl
  have hd:(o9 2).drop (l*1)=U (10 ^ l)::(o9 2).drop (l+1):=by
   rw [Zbv,List.drop_eq_getElem?_toList_append,hg];rfl
  rw [hd];rfl
 rw [zA,fQ.yw,e1,e2,uGeq];refine zt9 _ _ _ _ ?_;rintro _ rfl _;rw [jo (by split <;> omega)];simp only [zF,zO];rw [fQ.ret];by_cases c:10 ^ l<=u
 .rw [Zac c,if_pos rfl,show (l:Int)+1=((l+1:Nat):Int) by omega];exact hK _ ⟨_,rfl,by omega,by omega,by omega,by rw [Nat.add_sub_cancel];exact c⟩ hf
 .rw [Zab c,if_neg (by decide),show (l:Int)+0=((l:Nat):Int) by omega];have hl1:l≠0:=λe=>by rw [e] at c;omega
  exact hK _ ⟨_,rfl,by omega,by omega,by omega,by
   rcases a3 with q | q
   .exact absurd q hl1
   .omega⟩ hf
abbrev V (m:Nat):AV:=.int .u32 (m:Int)
theorem zk9 {m:Nat} (h:m<4294967296):IntKind.wrap .u32 (m:Int)=(m:Int):=by
 have e:IntKind.wrap .u32 (m:Int)=(m:Int)%4294967296:=by
  unfold IntKind.wrap;first | rfl | simp [IntKind.bits,IntKind.signed] | skip
 rw [e];omega
theorem vQuo {a b:Nat} {K:AV->OP} (hb:1<=b) (ha:a<4294967296):za .quo .int (V a) (V b) K=K (V (a / b)):=by
 have e:za .quo .int (V a) (V b) K=(bif ieq (b:Int) 0 then Out.no 5 else qx (IntKind.u32.wrap ((a:Int).tdiv b)) λz=>K (.int .u32 z)):=rfl;have h0:ieq (b:Int) 0=false:=by
  cases b with
  | zero=>omega
  | succ b=>rfl
 have h1:a / b<=a:=Zcl a b;rw [e,h0,cond_false,jL,show (a:Int).tdiv b=((a / b:Nat):Int) from rfl]
 generalize a / b=q at *
 rw [zk9 (by omega)]
theorem vRem {a b:Nat} {K:AV->OP} (hb:1<=b):za .rem .int (V a) (V b) K=K (V (a%b)):=by
 have e:za .rem .int (V a) (V b) K=(bif ieq (b:Int) 0 then Out.no 5 else qx ((a:Int).tmod b) λz=>K (.int .u32 z)):=rfl;have h0:ieq (b:Int) 0=false:=by
  cases b with
  | zero=>omega
  | succ b=>rfl
 rw [e,h0,cond_false,jL,show (a:Int).tmod b=((a%b:Nat):Int) from rfl]
theorem vMul {a b:Nat} {K:AV->OP} (h:a*b<4294967296):za .mul .int (V a) (V b) K=K (V (a*b)):=by
 have e:za .mul .int (V a) (V b) K=qx (IntKind.u32.wrap ((a:Int)*b)) λz=>K (.int .u32 z):=rfl;rw [e,jL,show (a:Int)*b=((a*b:Nat):Int) by rw [Zga],zk9 h]
theorem vAdd {a b:Nat} {K:AV->OP} (h:a+b<4294967296):za .add .int (V a) (V b) K=K (V (a+b)):=by
 have e:za .add .int (V a) (V b) K=qx (IntKind.u32.wrap ((a:Int)+b)) λz=>K (.int .u32 z):=rfl;rw [e,jL,show (a:Int)+b=((a+b:Nat):Int) by rw [Int.natCast_add],zk9 h]
theorem zwv {a:Nat} {K:AV->OP} (h:a<4294967296):kT .u32 (U a) K=K (V a):=by
 show qx (uV .u32 (a:Int)) (λz=>K (.int .u32 z))=_;rw [jL,uZ,zk9 h]
def SMQ:List UInt8:=[48,48,48,49,48,50,48,51,48,52,48,53,48,54,48,55,48,56,48,57,49,48,49,49,49,50,49,51,49,52,49,53,49,54,49,55,49,56,49,57,50,48,50,49,50,50,50,51,50,52,50,53,50,54,50,55,50,56,50,57,51,48,51,49,51,50,51,51,51,52,51,53,51,54,51,55,51,56,51,57,52,48,52,49,52,50,52,51,52,52,52,53,52,54,52,55,52,56,52,57,53,48,53,49,53,50,53,51,53,52,53,53,53,54,53,55,53,56,53,57,54,48,54,49,54,50,54,51,54,52,54,53,54,54,54,55,54,56,54,57,55,48,55,49,55,50,55,51,55,52,55,53,55,54,55,55,55,56,55,57,56,48,56,49,56,50,56,51,56,52,56,53,56,54,56,55,56,56,56,57,57,48,57,49,57,50,57,51,57,52,57,53,57,54,57,55,57,56,57,57]
abbrev C8 (d:Nat):AV:=.int .u8 ((48+d:Nat):Int)
theorem qb9:∀ d<100,(SMQ[d*2]?).map UInt8.toNat=some (48+d / 10)/\(SMQ[d*2+1]?).map UInt8.toNat=some (48+d%10):=by decide
theorem smIx {i c:Nat} {K:AV->OP} (h:(SMQ[i]?).map UInt8.toNat=some (48+c)):j5 (.str SMQ) (V i) K=K (C8 c):=by
 show (match SMQ[i]? with
  | some b=>pq b.toNat λn=>K (.int .u8 (.ofNat n))
  | none=>.no 16)=_
 cases hs:SMQ[i]? with
 | none=>rw [hs] at h;cases h
 | some b =>
  rw [hs] at h;have h:b.toNat=48+c:=Option.some.inj h;simp only [yM,h];rfl
theorem zcj {h0 h:T Blk} {nx:Pa} {L:List Ob} {k off n m p d:Nat} {id:Pa} {l:List AV} {c1 c2:Int} {cap:Option Nat} {K:KW3} (H:Hp h0 h nx L) (hk:L[k]? = some (.arr id l)) (ho:off+n<=l.length) (hm:p+1<n) (hn:n<=1000) (hd:d<100) (e1:(m:Int)-c1=((p+1:Nat):Int)) (e2:(m:Int)-c2=(p:Int)) (hK:∀ h',Hp h0 h' nx (L.set k (.arr id ((l.set (off+(p+1)) (C8 (d%10))).set (off+p) (C8 (d / 10)))))->K .u h' nx=.ok True) :
  (za .sub .int (I (m:Int)) (I c1) λv1=>za .sub .int (I (m:Int)) (I c2) λv2=>za .add .int (V (d*2)) (.int .u32 1) λv3=>j5 (.str SMQ) v3 λv4=>j5 (.str SMQ) (V (d*2)) λv5=>zJ 1 (.sl id off n cap 1) v1 λv6=>zV 1 v6 v4 h nx λ_ h8 n9=>(j5 (.str SMQ) (V (d*2)) λv15=>zQ v15 v5 (zQ (V (d*2)) (V (d*2)) ((za .sub .int (I (m:Int)) (I c2) λv14=>zQ v14 v2 (zQ (I (m:Int)) (I (m:Int)) (zQ (.sl id off n cap 1) (.sl id off n cap 1) (zJ 1 (.sl id off n cap 1) v2 λv10=>zV 1 v10 v5 h8 n9 K))))))))
   = .ok True:=by
 obtain ⟨s1,s2⟩:=qb9 d hd;have hkl:=(Zgw.1 hk).1;rw [pu (by omega),e1,pu (by omega),e2,show (AV.int .u32 1)=V 1 from rfl,vAdd (by omega),smIx s2,smIx s1,uR (by omega),Zbv];refine H.store hk (by omega) rfl λh1 H1 => ?_;simp only [smIx s1,zH];rw [pu (by omega),e2];simp only [zH];rw [uR (by omega),Zbv];refine H1.store (k:=k) (Zhc hkl) (by rw [Zan];omega) rfl λh2 H2 => ?_;rw [Zcx] at H2;exact hK h2 H2
structure Wr (l l':List AV) (off nd m u:Nat):Prop where
 len:l'.length=l.length
 get:∀ i,l'[i]? = if off+m<=i/\i<off+nd then some (C8 (u / 10 ^ (off+nd-1-i)%10)) else l[i]?
theorem Wr.zero (l:List AV) (off nd u:Nat):Wr l l off nd nd u:=⟨rfl,λi=>by rw [if_neg (by omega)]⟩
theorem Wr.one {l l':List AV} {off nd p u e d:Nat} (h:Wr l l' off nd (p+1) u) (ho:off+nd<=l.length) (hp:p+1<=nd) (he:nd-(p+1)=e) (hd:d=u / 10 ^ e%10):Wr l (l'.set (off+p) (C8 d)) off nd p u:=by
 refine ⟨by rw [Zan];exact h.len,λi => ?_⟩;have hl:=h.len;by_cases c:i=off+p
 .subst c;rw [Zhc (by omega),if_pos (by omega),show off+nd-1-(off+p)=e by omega,hd]
 .rw [Zhd (by omega),h.get i];by_cases c2:off+(p+1)<=i/\i<off+nd
  .rw [if_pos c2,if_pos (by omega)]
  .rw [if_neg c2,if_neg (by omega)]
theorem Wr.pair {l l':List AV} {off nd p u e d:Nat} (h:Wr l l' off nd (p+2) u) (ho:off+nd<=l.length) (hp:p+2<=nd) (he:nd-(p+2)=e) (hd:d=u / 10 ^ e%100):Wr l ((l'.set (off+(p+1)) (C8 (d%10))).set (off+p) (C8 (d / 10))) off nd p u :=
 (h.one (p:=p+1) (e:=e) (d:=d%10) ho (by omega) (by omega) (by omega)).one (e:=e+1) ho (by omega) (by omega) (by
  rw [Zdi,<- Zfu,hd];omega)
theorem dvE {u v e j:Nat} (h:v=u / 10 ^ e):u / 10 ^ (e+j)=v / 10 ^ j:=by rw [Zez,<- Zfu,h]
theorem C8v {a:Nat} {K:AV->OP} (h:a<10):kT .u8 (V (48+a)) K=K (C8 a):=by
 show qx (uV .u8 ((48+a:Nat):Int)) (λz=>K (.int .u8 z))=_;rw [jL,uZ];have e:IntKind.wrap .u8 ((48+a:Nat):Int)=((48+a:Nat):Int)%256:=by
  unfold IntKind.wrap;first | rfl | simp [IntKind.bits,IntKind.signed]
 rw [e,show ((48+a:Nat):Int)%256=((48+a:Nat):Int) by omega]
theorem zy2 {h0 h:T Blk} {nx p:Pa} {L:List Ob} {k off nd u:Nat} {id:Pa} {l:List AV} {cap:Option Nat} {K:Kw Prop} (H:Hp h0 h nx L) (hk:L[k]? = some (.arr id l)) (ho:off+nd<=l.length) (hn:nd<=100) (hu:u<10 ^ nd) (hw:u<18446744073709551616)
  (hK:∀ l' h' nx',Wr l l' off nd 0 u->Hp h0 h' nx' (L.set k (.arr id l'))->K (.tup []) h' nx'=.ok True):(CS Tryz.prog B).fn 317 p [.sl id off nd cap 1,U u] h nx K=.ok True:=by
 refine zL zN yC 1000 λhf => ?_;have hkl:=(Zgw.1 hk).1;have hid:∀ {l':List AV},(L.set k (.arr id l'))[k]? = some (.arr id l'):=Zhc hkl
 have s0:∀ (q v:Nat) (l':List AV) (h':T Blk) (nx':Pa) (x1 x3 x4 x5 x6 x7 x8 x9 x11 x12 x13 x14 x15 x16 x17 x18:AV),q<=1->q<=nd->v=u / 10 ^ (nd-q)->v<10 ^ q->Wr l l' off nd q u->Hp h0 h' nx' (L.set k (.arr id l')) ->
   IR.run zf.t55 (CS Tryz.prog B) 1000 (fnO zf.res K) (zi zf.res K) (zf.fr (.sl id off nd cap 1) x1 (I (q:Int)) x3 x4 x5 x6 x7 x8 x9 (V v) x11 x12 x13 x14 x15 x16 x17 x18) h' nx'=.ok True:=by
  intro q v l' h' nx' x1 x3 x4 x5 x6 x7 x8 x9 x11 x12 x13 x14 x15 x16 x17 x18 hq hqn hv hv10 hW H';rw [zf.t55,zA,zf.zz8,pz,zB,zf.v18];by_cases c:q=0
  .subst c;rw [Zab (by omega),zD,zE];rw [zf.ret];exact hK _ _ _ hW H'
  .obtain rfl:q=1:=by omega
   have hv10:v<10:=by omega
   rw [Zac (by omega),zC,zf.zz9,show (AV.int .u32 48)=V 48 from rfl,vAdd (by omega),C8v hv10,show (I 0)=AV.int .i64 ((0:Nat):Int) from rfl,uR (by omega),Nat.zero_mul];have hl:=hW.len;refine H'.store hid (by omega) rfl λh2 H2 => ?_;rw [Zcx] at H2;rw [zf.ret];exact hK _ _ _ (hW.one (p:=0) (e:=nd-1) ho (by omega) rfl (by rw [<- hv];omega)) H2
 have s1:∀ (q v:Nat) (l':List AV) (h':T Blk) (nx':Pa) (x1 x3 x4 x5 x6 x7 x8 x9 x11 x12 x13 x14 x15 x16 x17 x18:AV),q<=3->q<=nd->v=u / 10 ^ (nd-q)->v<10 ^ q->v<4294967296->Wr l l' off nd q u->Hp h0 h' nx' (L.set k (.arr id l')) ->
   IR.run zf.t56 (CS Tryz.prog B) 1000 (fnO zf.res K) (zi zf.res K) (zf.fr (.sl id off nd cap 1) x1 (I (q:Int)) x3 x4 x5 x6 x7 x8 x9 (V v) x11 x12 x13 x14 x15 x16 x17 x18) h' nx'=.ok True:=by
  intro q v l' h' nx' x1 x3 x4 x5 x6 x7 x8 x9 x11 x12 x13 x14 x15 x16 x17 x18 hq hqn hv hv10 hv32 hW H';rw [zf.t56,zA,zA,zf.zna,fM,zB,zf.v17];by_cases c:2<=q
  .obtain ⟨p,rfl⟩:∃ p,q=p+2:=⟨q-2,by omega⟩;have hl:=hW.len;have hp:10 ^ (p+2)=10 ^ p*100:=by rw [Zez]
   rw [Zac (by omega),zC,zA,zf.znb,show (AV.int .u32 100)=V 100 from rfl,vRem (by omega),show (AV.int .u32 2)=V 2 from rfl,vMul (by omega),zA,zf.zni,show (AV.int .u32 100)=V 100 from rfl,vQuo (by omega) hv32,zA,zf.zz7];refine zcj (p:=p) H' hid (by omega) (by omega) (by omega) (by omega) (by omega) (by omega) λh2 H2 => ?_;rw [Zcx] at H2;rw [zf.znc,pu (by omega),show ((p+2:Nat):Int)-2=(p:Int) by omega];exact s0 p (v / 100) _ _ _ _ _ _ _ _ _ _ _ _ _ _ _ _ _ _ _ (by omega) (by omega) (by rw [show nd-p=nd-(p+2)+2 by omega,dvE hv]) (by rw [hp] at hv10;exact Zew (by rw [Zby];exact hv10)) (hW.pair ho (by omega) rfl (by rw [<- hv])) H2
  .rw [Zab (by omega),zD,zE];exact s0 q v _ _ _ _ _ _ _ _ _ _ _ _ _ _ _ _ _ _ _ (by omega) hqn hv hv10 hW H'
 have hW0:=Wr.zero l off nd u;have H0:Hp h0 h nx (L.set k (.arr id l)):=by
  have e:L.set k (.arr id l)=L:=by
   refine Zbu λi => ?_;by_cases c:i=k
   .subst c;rw [Zhc hkl,hk]
   .rw [Zhd (by omega)]
  rw [e];exact H
 rw [zf.go,zf.t60,zA,zf.zu,yI,zA,zI];refine zf.znj (λm x1 x2 h' nx'=>∃ (v:Nat) (l':List AV),x1=U v/\x2=I (m:Int)/\m<=nd/\v=u / 10 ^ (nd-m)/\v<10 ^ m/\v<18446744073709551616/\Wr l l' off nd m u/\Hp h0 h' nx' (L.set k (.arr id l'))) (m:=nd) (by omega) ⟨u,l,rfl,rfl,Zaf _,by rw [Zcw,Nat.pow_zero,Nat.div_one],hu,hw,hW0,H0⟩ ?_;rintro m y1 y2 y3 y4 y5 y6 y7 y8 y9 y15 h3 nx3 R ⟨v,l',rfl,rfl,hm,hv,hv10,hvw,hW,H3⟩ hR;have hl:=hW.len;rw [zf.t24,zA,zA,zf.zo,fM,zB,zf.v15];by_cases c:8<=m
 .obtain ⟨q,rfl⟩:∃ q,m=q+8:=⟨m-8,by omega⟩;have hp:10 ^ (q+8)=10 ^ q*100000000:=by rw [Zez]
  have w100:(AV.int .u32 100)=V 100:=rfl;have w2:(AV.int .u32 2)=V 2:=rfl;have w4:(AV.int .u32 10000)=V 10000:=rfl;rw [Zac (by omega),zC,zE,zI,zA,zf.ng,show (AV.int .u64 100000000)=U 100000000 from rfl,uRem (by omega) hvw,zwv (by omega),zA,zf.fZ,show (AV.int .u64 100000000)=U 100000000 from rfl,uQuo (by omega) hvw,zA,zf.uy,w4,vQuo (by omega) (by omega),vRem (by omega),zA,zf.fF,w100,w2,vQuo (by omega) (by omega),vMul (by omega),vRem (by omega),vMul (by omega),zA,zf.fU,w100,w2,vQuo (by omega) (by omega),vMul (by omega),vRem (by omega),vMul (by omega),zA,zf.nu];refine zcj (p:=q+6) H3 hid (by omega) (by omega) (by omega) (by omega) (by omega) (by omega) λh4 H4 => ?_;rw [Zcx] at H4;have W1:=hW.pair (p:=q+6) (d:=v%100000000%10000%100) ho (by omega) rfl (by rw [<- hv];omega);rw [zA,zf.ny];refine zcj (p:=q+4) H4 hid (by rw [W1.len];omega) (by omega) (by omega) (by omega) (by omega) (by omega) λh5 H5 => ?_;rw [Zcx] at H5;have W2:=W1.pair (p:=q+4) (e:=nd-(q+8)+2) (d:=v%100000000%10000 / 100) ho (by omega) (by omega) (by rw [dvE hv];omega);rw [zA,zf.xu];refine zcj (p:=q+2) H5 hid (by rw [W2.len];omega) (by omega) (by omega) (by omega) (by omega) (by omega) λh6 H6 => ?_;rw [Zcx] at H6;have W3:=W2.pair (p:=q+2) (e:=nd-(q+8)+4) (d:=v%100000000 / 10000%100) ho (by omega) (by omega) (by rw [dvE hv];omega);rw [zA,zf.rH];refine zcj (p:=q) H6 hid (by rw [W3.len];omega) (by omega) (by omega) (by omega) (by omega) (by omega) λh7 H7 => ?_;rw [Zcx] at H7;have W4:=W3.pair (p:=q) (e:=nd-(q+8)+6) (d:=v%100000000 / 10000 / 100) ho (by omega) (by omega) (by rw [dvE hv];omega);rw [zf.rP,pu (by omega),show ((q+8:Nat):Int)-8=(q:Int) by omega];exact hR q _ _ _ _ _ _ _ _ _ _ _ _ (by omega) ⟨v / 100000000,_,rfl,rfl,by omega,by rw [show nd-q=nd-(q+8)+8 by omega,dvE hv],by rw [hp] at hv10;exact Zew (by rw [Zby];exact hv10),by omega,W4,H7⟩
 have h8:10 ^ m<=10 ^ 7:=Zde (by omega) (by omega);have hv32:v<10000000:=by omega
 rw [Zab (by omega),zD,zX,yD,zA,zf.zjy,zwv (by omega),zA,zA,zf.om,fM,zB,zf.v16];by_cases c4:4<=m
 .obtain ⟨q,rfl⟩:∃ q,m=q+4:=⟨m-4,by omega⟩;have hp:10 ^ (q+4)=10 ^ q*10000:=by rw [Zez]
  have w100:(AV.int .u32 100)=V 100:=rfl;have w2:(AV.int .u32 2)=V 2:=rfl;have w4:(AV.int .u32 10000)=V 10000:=rfl;rw [Zac (by omega),zC,zA,zf.znk,w4,vRem (by omega),zA,zf.zj1,w4,vQuo (by omega) (by omega),zA,zf.znl,w100,w2,vQuo (by omega) (by omega),vMul (by omega),vRem (by omega),vMul (by omega),zA,zf.zz6];refine zcj (p:=q+2) H3 hid (by omega) (by omega) (by omega) (by omega) (by omega) (by omega) λh4 H4 => ?_;rw [Zcx] at H4;have W1:=hW.pair (p:=q+2) (d:=v%10000%100) ho (by omega) rfl (by rw [<- hv];omega);rw [zA,zf.zj0];refine zcj (p:=q) H4 hid (by rw [W1.len];omega) (by omega) (by omega) (by omega) (by omega) (by omega) λh5 H5 => ?_;rw [Zcx] at H5;have W2:=W1.pair (p:=q) (e:=nd-(q+4)+2) (d:=v%10000 / 100) ho (by omega) (by omega) (by rw [dvE hv];omega);rw [zf.zfn,pu (by omega),show ((q+4:Nat):Int)-4=(q:Int) by omega];exact s1 q (v / 10000) _ _ _ _ _ _ _ _ _ _ _ _ _ _ _ _ _ _ _ (by omega) (by omega) (by rw [show nd-q=nd-(q+4)+4 by omega,dvE hv]) (by rw [hp] at hv10;exact Zew (by rw [Zby];exact hv10)) (by omega) W2 H5
 .rw [Zab (by omega),zD,zE];exact s1 m v _ _ _ _ _ _ _ _ _ _ _ _ _ _ _ _ _ _ _ (by omega) hm hv hv10 (by omega) hW H3
def tV (d u:Nat):List UInt8:=(List.range d).map λi=>UInt8.ofNat (48+u / 10 ^ (d-1-i)%10)
def NdOk (u d:Nat):Prop:=IsNd u d\/u=0/\d=1
def sgT (z:Int):List UInt8:=if z<0 then [45] else []
theorem sSsN {s:List UInt8} {a b:Nat} {K:AV->OP} (hab:a<=b) (hb:b<=s.length):gI (.str s) (some (I (a:Int))) (some (I (b:Int))) K=K (.str ((s.drop a).take (b-a))):=by
 show (match bnd (some (I (b:Int))) s.length s.length with
   | none=>Out.no 18
   | some h=>match bnd (some (I (a:Int))) h 0 with
    | none=>.no 18
    | some l=>K (.str ((s.drop l).take (h-l))))=_
 rw [qG hb]
 dsimp only
 rw [qG hab]
def DG:List UInt8:=[48,49,50,51,52,53,54,55,56,57,97,98,99,100,101,102,103,104,105,106,107,108,109,110,111,112,113,114,115,116,117,118,119,120,121,122]
theorem zy3:∀ n<10,(DG.drop n).take 1=tV 1 n:=by decide +kernel
theorem zy4:∀ n<100,(SMQ.drop (n*2)).take 2=tV 2 n:=by decide +kernel
theorem zrp {n:Nat} (h:n<100):Pure Tryz.prog B 315 [I (n:Int)] (λv=>∃ d,NdOk n d/\v=.str (tV d n)):=by
 intro p h' nx K hK;refine zL zN yC 10 λhf => ?_;rw [bf.go,bf.t9,zA,bf.zu,zA,zA,bf.zo,jf,zB,bf.v2];by_cases c:n<10
 .rw [Zac (by omega),zC,zA,bf.yw,jo (by omega),show (n:Int)+1=((n+1:Nat):Int) by omega];refine Eq.trans (sSsN (s:=DG) (by omega) (by show _<=36;omega)) ?_;simp only [zF,zO];rw [bf.ret,show n+1-n=1 by omega,zy3 n c];refine hK _ ⟨1,?_,rfl⟩ hf;by_cases c0:n=0
  .exact .inr ⟨c0,rfl⟩
  .exact .inl ⟨by omega,by omega,by omega,by omega⟩
 .rw [Zab (by omega),zD,zE,zA,bf.uy,rE (by omega),show (n:Int)*2=((n*2:Nat):Int) by omega,rE (by omega),show (n:Int)*2=((n*2:Nat):Int) by omega,jo (by omega),show ((n*2:Nat):Int)+2=((n*2+2:Nat):Int) by omega];refine Eq.trans (sSsN (s:=SMQ) (by omega) (by show _<=200;omega)) ?_;simp only [zF,zO];rw [bf.ret,show n*2+2-n*2=2 by omega,zy4 n h];exact hK _ ⟨2,.inl ⟨by omega,by omega,by omega,by omega⟩,rfl⟩ hf
theorem zla:∀ l:List Nat,aS (l.map C8)=some (l.map λd=>UInt8.ofNat (48+d))
 | []=>rfl
 | d::l=>by
  show (match aS (l.map C8) with
   | some s=>some (UInt8.ofNat (48+d)::s)
   | none=>none)=_
  rw [zla l];rfl
theorem Hp.b2s {h0 h:T Blk} {nx:Pa} {L:List Ob} {k n off:Nat} {id:Pa} {cap:Option Nat} {l:List AV} {s:List UInt8} {op:AV->OP} (H:Hp h0 h nx L) (hk:L[k]? = some (.arr id l)) (hle:off+n<=l.length) (he:aS ((l.drop off).take n)=some s):sB2s (.sl id off n cap 1) h op=op (.str s):=by
  obtain ⟨o,t,h1,h2⟩:=H.own _ (Zad hk)
  show qm (T.get .no id h) (λ_ m t=>bif Nat.ble (off+n) m then (match aS (yY t off n) with
          | some s=>op (.str s)
          | none=>.no 21) else .no 21) (.no 21)=_
  rw [h1]
  show (bif Nat.ble (off+n) l.length then (match aS (yY t off n) with
          | some s=>op (.str s)
          | none=>.no 21) else .no 21)=_
  rw [Zag hle,cond_true,pK h2 hle,he]
theorem Wr.text {l l':List AV} {off nd u:Nat} (h:Wr l l' off nd 0 u) (ho:off+nd<=l.length):(l'.drop off).take nd=((List.range nd).map λi=>u / 10 ^ (nd-1-i)%10).map C8:=by
 refine Zbu λi => ?_;by_cases c:i<nd
 .rw [Zhe c,Zhf,h.get,if_pos (by omega),Zgx,Zgx,Zhs c,show off+nd-1-(off+i)=nd-1-i by omega];rfl
 .rw [Zha (by rw [Zai];omega),Zha (by rw [Zah,Zah,Zcz];omega)]
theorem zrq (d u:Nat):((List.range d).map λi=>u / 10 ^ (d-1-i)%10).map (λd=>UInt8.ofNat (48+d))=tV d u:=by
 unfold tV;rw [List.map_map];rfl
theorem zlb {id:Pa} {d:Nat} {K:AV->OP} (hd:d<=20):dV 1 24 (.ptr id 0) (some (I 1)) (some (I ((1+d:Nat):Int))) none K=K (.sl id 1 d (some 23) 1):=by
 have e1:gS (I ((1+d:Nat):Int)) 24=some (1+d):=by
  show (bif Nat.ble (1+d) 24 then some (1+d) else none)=_;rw [Zag (by omega)];rfl
 have e2:gS (I 1) (1+d)=some 1:=by
  show (bif Nat.ble 1 (1+d) then some 1 else none)=_;rw [Zag (by omega)];rfl
 show (match gS (I ((1+d:Nat):Int)) 24 with
  | none=>Out.no 17
  | some h=>match gS (I 1) h with
   | none=>.no 17
   | some l=>bif Nat.beq 24 l then K (.sl id 0 (h-l) (some 0) 1)
    else pq (0+l*1) λoff=>pq (h-l) λh=>pq (24-l) λm=>K (.sl id off h (some m) 1))=_
 rw [e1];dsimp only;rw [e2];dsimp only;rw [show Nat.beq 24 1=false from rfl,cond_false,yM,yM,yM,show 1+d-1=d by omega]
theorem zue {id:Pa} {d:Nat} {K:AV->OP} (hd:d<=20):dV 1 24 (.ptr id 0) none (some (I ((1+d:Nat):Int))) none K=K (.sl id 0 (1+d) (some 24) 1):=by
 have e1:gS (I ((1+d:Nat):Int)) 24=some (1+d):=by
  show (bif Nat.ble (1+d) 24 then some (1+d) else none)=_;rw [Zag (by omega)];rfl
 show (match gS (I ((1+d:Nat):Int)) 24 with
  | none=>Out.no 17
  | some h=>bif Nat.beq 24 0 then K (.sl id 0 (h-0) (some 0) 1)
    else pq (0+0*1) λoff=>pq (h-0) λh=>pq (24-0) λm=>K (.sl id off h (some m) 1))=_
 rw [e1];dsimp only;rw [show Nat.beq 24 0=false from rfl,cond_false,yM,yM,yM];rfl
theorem qca {z:Int} {K:AV->OP} (h : -9223372036854775808<=z/\z<0):sNeg (U (z+18446744073709551616).toNat) K=K (U z.natAbs):=by
 show qx (uV .u64 (0-(((z+18446744073709551616).toNat:Nat):Int))) (λz=>K (.int .u64 z))=_;rw [jL,uZ,zql,show (0-(((z+18446744073709551616).toNat:Nat):Int))%18446744073709551616=(z.natAbs:Int) by omega]
theorem zy5 {z:Int} (hz : -9223372036854775808<=z/\z<=9223372036854775807):Pure Tryz.prog B 314 [I z,I 10] (λv=>∃ d,NdOk z.natAbs d/\v=.str (sgT z++tV d z.natAbs)):=by
 refine zT λh nx K H0 hK=>zL zN yC 1000 λhf => ?_;have ret:∀ {d:Nat} {h1 nx1 L},Hp h h1 nx1 L->NdOk z.natAbs d->K (.str (sgT z++tV d z.natAbs)) h1 nx1=.ok True:=λH hd=>hK _ _ _ _ _ H (zS rfl) ⟨_,hd,rfl⟩
 have rest:∀ (b:Pa) (l:List AV) (h1:T Blk) (nx1:Pa) (x5 x6 x7 x8 x9 x10:AV),l.length=24->z≠0->Hp h h1 nx1 [.arr b l] ->
   IR.run yg.t26 (CS Tryz.prog B) 1000 (fnO yg.res K) (zi yg.res K) (yg.fr (I z) (I 10) (.str []) (.ptr b 0) (U z.natAbs) x5 x6 x7 x8 x9 x10) h1 nx1=.ok True:=by
  intro b l h1 nx1 x5 x6 x7 x8 x9 x10 hl hz0 H1;rw [yg.t26,zA,yg.rP];refine zmx (by omega) (by omega) _ _ _ _ ?_;rintro _ ⟨d,rfl,hd⟩ _;obtain ⟨d1,d2,d3,d4⟩:=hd;rw [zA,yg.rG,jo (by omega),show (1:Int)+(d:Int)=((1+d:Nat):Int) by omega,zlb d2];refine zy2 (k:=0) H1 rfl (by omega) (by omega) d3 (by omega) λl' h2 nx2 hW H2 => ?_;have hl':=hW.len;have htx:=hW.text (by omega);have hb:aS ((l'.drop 1).take d)=some (tV d z.natAbs):=by rw [htx,zla,zrq]
  rw [zA,zA,yg.ol,jf,zB,yg.v10];by_cases c:z<0
  .rw [Zac (by omega),zC,zA,yg.sw,show ∀ K:AV->OP,zaf 1 24 (.ptr b 0) (I 0) K=K (.ptr b 0) from λK=>nr rfl];refine H2.store (k:=0) rfl (by omega) rfl λh3 H3 => ?_;rw [zA,yg.tL,jo (by omega),show (1:Int)+(d:Int)=((1+d:Nat):Int) by omega,zue d2];have e:aS (((l'.set 0 (.int .u8 45)).drop 0).take (1+d))=some (45::tV d z.natAbs):=by
    cases l' with
    | nil=>simp at hl';omega
    | cons a l2 =>
     rw [Zfh,Zcq,Zdh,List.take_succ_cons]
     show (match aS (l2.take d) with
      | some s=>some (UInt8.ofNat 45::s)
      | none=>none)=_
     rw [show l2.take d=((a::l2).drop 1).take d from rfl,hb];rfl
   rw [H3.b2s (k:=0) rfl (by rw [Zan];omega) e];simp only [zF,zO];rw [yg.ret];have er:sgT z++tV d z.natAbs=45::tV d z.natAbs:=by unfold sgT;rw [if_pos c];rfl
   rw [<- er];exact ret H3 (.inl ⟨d1,d2,d3,d4⟩)
  .rw [Zab (by omega),zD,zE,zA,yg.tO,jo (by omega),show (1:Int)+(d:Int)=((1+d:Nat):Int) by omega,zlb d2,H2.b2s (k:=0) rfl (by omega) hb];simp only [zF,zO];rw [yg.ret];have er:sgT z++tV d z.natAbs=tV d z.natAbs:=by unfold sgT;rw [if_neg c];rfl
   rw [<- er];exact ret H2 (.inl ⟨d1,d2,d3,d4⟩)
 have big:∀ (x3 x4 x5 x6 x7 x8 x9 x10:AV),z≠0->IR.run yg.t29 (CS Tryz.prog B) 1000 (fnO yg.res K) (zi yg.res K) (yg.fr (I z) (I 10) (.str []) x3 x4 x5 x6 x7 x8 x9 x10) h nx=.ok True:=by
  intro x3 x4 x5 x6 x7 x8 x9 x10 hz0;rw [yg.t29,zA,yg.fF];refine H0.alloc λb h1 nx1 H1 => ?_;by_cases c:z<0
  .rw [zA,yg.fU,zqn ⟨hz.1,c⟩,zA,zA,yg.nu,jf,zB,yg.v9,Zac (by omega),zC,yg.ny,qca ⟨hz.1,c⟩];exact rest b _ _ _ _ _ _ _ _ _ rfl hz0 H1
  .rw [zA,yg.fU,zqm (m:=z.natAbs) (by omega) (by omega),zA,zA,yg.nu,jf,zB,yg.v9,Zab (by omega),zD,zE];exact rest b _ _ _ _ _ _ _ _ _ rfl hz0 H1
 rw [yg.go,yg.t38,zA,yg.zu,zA,zA,yg.zo,qz,Zac rfl,zB,yg.v7,zC,zA,zA,yg.yw,rR];by_cases c:0<=z
 .rw [Zac c];simp only [yL];rw [jf];simp only [zY];rw [zB,yg.v8];by_cases c2:z<100
  .rw [Zac c2,zC,zA,yg.vk,show z=((z.toNat:Nat):Int) by omega];refine zrp (by omega) _ _ _ _ ?_;rintro _ ⟨d,hd,rfl⟩ _;simp only [zF,zO];rw [yg.ret];have en:z.toNat=z.natAbs:=by omega
   have er:sgT z++tV d z.natAbs=tV d z.natAbs:=by unfold sgT;rw [if_neg (by omega)];rfl
   rw [en] at hd ⊢;rw [<- er];exact ret H0 hd
  .rw [Zab c2,zD,zE];exact big _ _ _ _ _ _ _ _ (by omega)
 .rw [Zab c];simp only [jD,yB];rw [zB,yg.v8,zD,zE];exact big _ _ _ _ _ _ _ _ (by omega)
theorem zuf {z:Int} (hz : -9223372036854775808<=z/\z<=9223372036854775807):Pure Tryz.prog B 248 [I z] (λv=>∃ d,NdOk z.natAbs d/\v=.str (sgT z++tV d z.natAbs)):=by
 intro p h nx K hK;refine zL zN yC 10 λhf => ?_;rw [ru.go,ru.t3,zA,ru.zu,zA,ru.zo];refine gT (p:=.of 287) (K:=λv1 h2 n3=>K v1 h2 n3) (zL zN yC 10 λhf => ?_) λ_ _ _ _ q=>by
  simp only [zF,zO];rw [ru.ret];exact q
 rw [rq.go,rq.t3,zA,rq.zu,zA,rq.zo];refine zy5 hz _ _ _ _ ?_;rintro v hv hf2;simp only [zF,zO];rw [rq.ret];exact hK v hv hf2
theorem zy6:∀ x<10,UInt8.ofNat (48+x)=dch x:=by decide +kernel
theorem zmy (d u:Nat):tV (d+1) u=tV d (u / 10)++[dch (u%10)]:=by
 unfold tV;rw [List.range_succ,Zbh]
 congr 1
 .refine Zee λi hi => ?_;have:=Zbe.1 hi;rw [show d+1-1-i=d-1-i+1 by omega,Zdi,Zby,<- Zfu]
 .rw [List.map_singleton,show d+1-1-d=0 by omega,Nat.pow_zero,Nat.div_one,zy6 _ (Zds _ (by decide))]
theorem zrr:∀ (d u:Nat),u<10 ^ d->(d=0\/10 ^ (d-1)<=u)->tV d u=xk u 0
 | 0,u,h,_=>by
  obtain rfl:u=0:=by simpa using h
  unfold xk;rw [zdj];rfl
 | d+1,u,h,h2=>by
  have h3:10 ^ d<=u:=by rcases h2 with q | q;omega;simpa using q
  have h4:0<10 ^ d:=Zgj (by decide);rw [Zdi] at h
  rw [zmy,zrr d (u / 10) (Zew (by rw [Zby];exact h)) (by
   cases d with
   | zero=>exact .inl rfl
   | succ d =>
    right
    rw [Zdi] at h3;exact (Nat.le_div_iff_mul_le (by decide)).2 h3)]
  unfold xk;rw [zdi (y:=u) (.inl (by omega)),Zgt,Zbh];rfl
theorem zrs {u d:Nat} (h:NdOk u d):tV d u=xk u 1:=by
 rcases h with ⟨h1,h2,h3,h4⟩ | ⟨rfl,rfl⟩
 .have hu:u≠0:=λe=>by
   have:0<10 ^ (d-1):=Zgj (by decide);omega
  rw [zrr d u h3 (.inr h4)];unfold xk;rw [mL hu];unfold rT;rw [Nat.zero_sub,List.replicate_zero,Zba]
 .rw [cA];rfl
theorem qcb {z:Int} (hz : -9223372036854775808<=z/\z<=9223372036854775807):Pure Tryz.prog B 248 [I z] (· = .str (fC z)):=by
 intro p h nx K hK;refine zuf hz _ _ _ _ ?_;rintro _ ⟨d,hd,rfl⟩ hf;rw [zrs hd];exact hK _ rfl hf
theorem zfe {v:AV} {z:Int} (hv:wz v z) (hz:z.natAbs<9223372036854775808):Pure Tryz.prog B 188 [v] (· = .str (fC z)):=by
 obtain ⟨s,w,rfl,rfl,rfl,hv⟩:=hv;refine zT λh nx K H0 hK=>zL zN yC 1000 λhf => ?_;rw [fI.go,fI.t60,zA,fI.zu];refine H0.box (l:=[I z,.zb]) rfl λpa h1 nx1 H1 => ?_;rw [zA,zA,fI.zo,sFx,H1.load (k:=0) (i:=0+1) rfl rfl];rw [kI,zB,fI.v12,zC,zA,fI.yw,sFx,H1.load (k:=0) (i:=0+0) rfl rfl];unfold rF at hv;refine qcb (by omega) _ _ _ _ ?_;rintro _ rfl _;simp only [zF,zO];rw [fI.ret];exact hK _ _ _ _ _ H1 (zS rfl) rfl
theorem zdx {z:Int} (hz:z.natAbs<9223372036854775808):(fC z).length<=100:=by
 have h:=dG (n:=z.natAbs) (k:=3) (by omega);unfold fC;split <;> simp <;> omega
theorem zrt {v:AV} {q:Rat} (hv:jP v q) (hn:q.num.natAbs<9223372036854775808) (hd:q.den<9223372036854775808):Pure Tryz.prog B 97 [v] (· = .str (ql q)):=by
 obtain ⟨s,w,s',w',rfl,i1,i2⟩:=hv;refine zT λh nx K H0 hK=>zL zN yC 1000 λhf => ?_;rw [F97.go,F97.t9,zA,F97.zu];refine H0.box (l:=[s,w,s',w']) rfl λpa h1 nx1 H1 => ?_;have l1:∀ op:AV->OP,zK 2 (.ptr pa (0+0)) h1 op=op (.agg [s,w]):=λop=>H1.ku (k:=0) (off:=0+0) rfl (by simp) rfl;have l2:∀ op:AV->OP,zK 2 (.ptr pa (0+2)) h1 op=op (.agg [s',w']):=λop=>H1.ku (k:=0) (off:=0+2) rfl (by simp) rfl;rw [zA,zA,F97.zo,H1.zm (k:=0) (n:=4) rfl rfl];refine dD ⟨_,_,_,_,rfl,i1,i2⟩ _ _ _ _ ?_;rintro _ rfl _;rw [zB,F97.v3];by_cases c:q.den=1
 .rw [Zac c,zC,zA,F97.yw,sFx,l1];refine zfe ⟨_,_,rfl,i1⟩ hn _ _ _ _ ?_;rintro _ rfl _;simp only [zF,zO];rw [F97.ret];exact hK _ _ _ _ _ H1 (zS rfl) (by unfold ql;rw [if_pos c,Zba])
 .rw [Zab c,zD,zE,zA,F97.uy,sFx,l1,sFx,l2];refine zfe ⟨_,_,rfl,i1⟩ hn _ _ _ _ ?_;rintro _ rfl _;have t1:=zdx hn;have t2:=zdx (z:=(q.den:Int)) (by omega);have a1:∀ K:AV->OP,za .add .str (.str (fC q.num)) (.str [47]) K=K (.str (fC q.num++[47])):=λK=>tCat (by simp;omega);simp only [l2,zH,sFx,a1];refine zfe ⟨_,_,rfl,i2⟩ (by omega) _ _ _ _ ?_;rintro _ rfl _;rw [tCat (by simp;omega)];simp only [zF,zO];rw [F97.ret];exact hK _ _ _ _ _ H1 (zS rfl) (by unfold ql;rw [if_neg c,Zcg];rfl)
theorem zru {n:Nat} {l:List AV} {h:T Blk} {op:AV->OP} (hl:n<=l.length):zK n (.fp l) h op=op (.agg (l.take n)):=by
 show (bif Nat.ble n l.length then op (.agg (l.take n)) else .no 8)=_;rw [Zag hl];rfl
def Sml (q:Rat):Prop:=q.num.natAbs<9223372036854775808/\q.den<9223372036854775808
abbrev vM (q:List Rat):List AV:=q.map λx=>.str (ql x)
theorem zrv {n:Nat} {c:List AV} {q:List Rat} (hc:su c q) (hn:q.length=n) (hn1:n<=1000) (hs:∀ x∈q,Sml x):Pure Tryz.prog B 181 [.lst 4 n c] (· = .lst 1 n (vM q)):=by
 refine zT λh nx K H0 hK=>zL zN yC 2000 λhf => ?_;rw [jm.go,jm.t20,zA,jm.zu,zA,jm.zo,zW];refine H0.mkN (n:=n) (c:=n) rfl rfl (Zaf _) (by omega) (by omega) λid h1 nx1 H1 => ?_;have hle:(vM q).length=(ni n [AV.str []]).length:=by rw [Zah,mG,hn];simp
 rw [zA,zA,jm.yw,zW,zI];refine jm.zfx (λm x7 h' nx'=>∃ k:Nat,x7=I (k:Int)/\m+k=n/\Hp h h' nx' [.arr id ((vM q).take k++(ni n [AV.str []]).drop k)]) (m:=n) (by omega) ⟨0,rfl,rfl,by rw [Zdr,Zbk,Zcq];exact H1⟩ ?_;rintro m z3 z4 z7 z8 h3 nx3 R ⟨k,rfl,hm,H3⟩ hR;rw [jm.t12,zA,jm.vk,jf,zA,zB,jm.v8];by_cases ck:k<n
 .obtain ⟨cs,e1,e2,_,fv⟩:=hc.get (uE (q:=q) (j:=k) (by omega));have hx:(vM q)[k]? = some (.str (ql (at' q k))):=by rw [Zgx,uE (by omega)];rfl
  have sm:=hs (at' q k) (Zad (uE (q:=q) (j:=k) (by omega)));have hlen:((vM q).take k++(ni n [AV.str []]).drop k).length=n:=by
   rw [Zae,Zai,Zcp,Zah,mG];simp;omega
  rw [Zac (by omega),zC,zE,zA,zI,zA,jm.fZ,zwp (j:=k) rfl ck,zru (by rw [Zcp];omega),e1];refine H3.alloc λb h4 nx4 H4 => ?_;have hcl:∃ a b' c' d',cs=[a,b',c',d']:=by
   obtain ⟨s,w,s',w',e,_⟩:=fv;exact ⟨s,w,s',w',AV.agg.inj e⟩
  obtain ⟨a1,a2,a3,a4,rfl⟩:=hcl;refine H4.jh (l2:=[a1,a2,a3,a4]) (k:=0) rfl rfl rfl λh5 H5 => ?_;rw [jm.uy,H5.zm (k:=0) (n:=4) rfl rfl];refine zrt fv sm.1 sm.2 _ _ _ _ ?_;rintro _ rfl _;rw [uR ck,Zbv];refine H5.store (k:=1) rfl (by rw [Zbg,hlen];exact ck) rfl λh6 H6 => ?_;rw [Zbg] at H6;have H6:Hp h h6 nx4 (.arr b [a1,a2,a3,a4]::[.arr id (((vM q).take k++(ni n [AV.str []]).drop k).set k (.str (ql (at' q k))))]):=H6;rw [zq9 hle hx] at H6;rw [jm.nu,jo (by omega)];exact hR (m-1) _ _ _ _ _ _ (by omega) ⟨k+1,by congr 1,by omega,H6.drop⟩
 .obtain rfl:k=n:=by omega
  rw [Zak (by rw [Zah];omega),Zbi (by rw [mG];simp),Zba] at H3;rw [Zab (by omega),zD,zX,yD,zA,jm.sw];simp only [zF,zO];rw [jm.ret];exact hK _ _ _ _ _ H3 (H3.zi0 (k:=0) rfl (Zaf _) (by rw [Zah];omega) (λv hv=>by obtain ⟨x,_,rfl⟩:=Zar.1 hv;rfl)) rfl
theorem zjo {v:AV} {z:Int} (hv:wz v z):Pure Tryz.prog B 249 [v] (· = .tup [.bool (decide (z<0)),encW (if z=0 then [] else [z.natAbs])]):=by
 obtain ⟨s,w,rfl,rfl,rfl,hv⟩:=hv;unfold rF at hv;refine zT λh nx K H0 hK=>zL zN yC 100 λhf => ?_;rw [wm.go,wm.t15,zA,wm.zu];refine H0.box (l:=[I z,.zb]) rfl λpa h1 nx1 H1 => ?_;rw [zA,zI,zA,wm.zo,sFx,H1.load (k:=0) (i:=0+1) rfl rfl,zqx,zB,wm.v4,zD,zA,wm.ng,sFx,H1.load (k:=0) (i:=0+0) rfl rfl,qz,zB,wm.v5];by_cases c:z=0
 .rw [Zac c,zC,zA,wm.fZ];simp only [zF,vI,zO];rw [wm.ret];refine hK _ _ _ _ _ H1 (j4 (zS rfl) (.aX 1)) ?_;subst c;rfl
 rw [Zab c,zD,zE];rw [zA,wm.rH,sFx,H1.load (k:=0) (i:=0+0) rfl rfl,jf,sFx,H1.load (k:=0) (i:=0+0) rfl rfl];refine ze0 (by omega) _ _ _ _ ?_;rintro _ rfl _;simp only [jf,zH,sFx,H1.load (k:=0) (i:=0+0) rfl rfl];refine H1.fq (l:=[U z.natAbs]) rfl λtb h2 nx2 H2 => ?_;simp only [jf,zH,sFx,H2.load (k:=1) (i:=0+0) rfl rfl];simp only [zF,vI,zO];rw [wm.ret];refine hK _ _ _ _ _ H2 (j4 (zS rfl) (H2.zi0 (k:=0) (cap:=some 1) (n:=1) (e:=1) rfl (Zaf _) rfl (λv hv=>by rw [Zaz.1 hv];rfl))) ?_;rw [if_neg c];rfl
theorem zmz {v:AV} {z:Int} (hv:wz v z):Pure Tryz.prog B 285 [v] (λv=>∃ n:Nat,v=I (n:Int)/\n<=64):=by
 have hv0:=hv;obtain ⟨s,w,rfl,rfl,rfl,hv⟩:=hv;unfold rF at hv;refine zT λh nx K H0 hK=>zL zN yC 100 λhf => ?_;rw [ug.go,ug.t11,zA,ug.zu];refine H0.box (l:=[I z,.zb]) rfl λpa h1 nx1 H1 => ?_;rw [zA,ug.zo,H1.zm (k:=0) (n:=2) rfl rfl];refine zjo hv0 _ _ _ _ ?_;rintro _ rfl _;rw [jB,jE,zA,zA,ug.yw,uLen,qz,zB,ug.v4];by_cases c:z=0
 .rw [if_pos c,Zac (by rfl),zC,zA,ug.vk];simp only [zF,zO];rw [ug.ret];exact hK _ _ _ _ _ H1 (zS rfl) ⟨0,rfl,by omega⟩
 .rw [if_neg c,Zab (by simp),zD,zE,zA,ug.fF,ug.r4_0,ug.zd4,uLen,pu (by simp),rE (by simp),uLen,pu (by simp),ug.r4_1,ug.zd5,uIx (i:=0) (by simp) (by simp),uLd (x:=z.natAbs) rfl];refine zqp (by omega) _ _ _ _ ?_;rintro _ ⟨n,rfl,hn⟩ _;have hn64:n<=64:=hn.1;rw [ug.r4_2,ug.zw3,jo (by simp;omega)];simp only [zF,zO];rw [ug.ret];exact hK _ _ _ _ _ H1 (zS rfl) ⟨n,by congr 1;simp,hn64⟩
theorem cW (op:KW3->OP) (h:T Blk) (nx:Pa) (k:KW3):sGW (.bool false) false op h nx k=op k:=nr rfl
theorem zdy {v:AV} {z:Int} (hv:wz v z):Pure Tryz.prog B 246 [v] (· = .bool false):=by
 have hv0:=hv;obtain ⟨s,w,rfl,hv⟩:=hv;refine zT λh nx K H0 hK=>zL zN yC 100 λhf => ?_;rw [kg.go,kg.t3,zA,kg.zu];refine H0.box (l:=[s,w]) rfl λpa h1 nx1 H1 => ?_;rw [zA,kg.zo,kg.tJ,kg.tK,H1.zm (k:=0) (n:=2) rfl rfl];refine zmz hv0 _ _ _ _ ?_;rintro _ ⟨n,rfl,hn⟩ _;rw [kg.aH,kg.sQ,pz,Zab (by omega)];simp only [jD];rw [zb6,kg.r1_2,kg.zd6,zb6,kg.r1_3,kg.zah];simp only [jD,yB];simp only [zF,zO];rw [kg.ret];exact hK _ _ _ _ _ H1 (zS rfl) rfl
theorem zjq {v:AV} {q:Rat} (hv:jP v q):Pure Tryz.prog B 180 [v] (· = .bool false):=by
 obtain ⟨s,w,s',w',rfl,h1,h2⟩:=hv;refine zT λh nx K H0 hK=>zL zN yC 100 λhf => ?_;rw [rA.go,rA.t3,zA,rA.zu];refine H0.box (l:=[s,w,s',w']) rfl λpa h1' nx1 H1 => ?_;rw [zA,rA.zo,sFx,H1.ku (k:=0) (l2:=[s,w]) rfl (by simp) rfl];refine zdy ⟨_,_,rfl,h1⟩ _ _ _ _ ?_;rintro _ rfl _;simp only [jG];rw [sFx];rw [H1.ku (k:=0) (l2:=[s',w']) rfl (by simp) rfl,cW];refine zdy ⟨_,_,rfl,h2⟩ _ _ _ _ ?_;rintro _ rfl _;simp only [yB];simp only [zF,zO];rw [rA.ret];exact hK _ _ _ _ _ H1 (zS rfl) rfl
theorem zug {n:Nat} {c:List AV} {q:List Rat} (hc:su c q) (hn:q.length=n) (hn1:n<=1000) (hs:∀ x∈q,Sml x):Pure Tryz.prog B 108 [.lst 4 n c,.fn 180 (.of 180) []] (· = I (-1)):=by
 refine zT λh nx K H0 hK=>zL zN yC 2000 λhf => ?_;rw [gy.go,gy.t22,zA,gy.zu,zA,zA,gy.zo,zW,zI];refine gy.zab (λm x5 h' nx'=>∃ k:Nat,x5=I (k:Int)/\m+k=n/\Hp h h' nx' []) (m:=n) (by omega) ⟨0,rfl,rfl,H0⟩ ?_;rintro m z2 z3 z5 z6 z7 h3 nx3 R ⟨k,rfl,hm,H3⟩ hR;rw [gy.t15,zA,gy.yw,jf,zA,zB,gy.v6];by_cases ck:k<n
 .obtain ⟨cs,e1,e2,_,fv⟩:=hc.get (uE (q:=q) (j:=k) (by omega));rw [Zac (by omega),zC,zE,zA,zI,zA,gy.ng,zA,gy.fZ,zwp (j:=k) rfl ck,zru (by rw [Zcp];omega),e1,mC];refine zjq fv _ _ _ _ ?_;rintro _ rfl _;rw [zB,gy.v7,zD,zE,gy.rH,jo (by omega)];exact hR (m-1) _ _ _ _ _ _ _ (by omega) ⟨k+1,by congr 1,by omega,H3⟩
 .rw [Zab (by omega),zD,zX,yD,zA,gy.sJ];simp only [zF,zO];rw [gy.ret];exact hK _ _ _ _ _ H3 (zS rfl) rfl
theorem zuh {n:Nat} {c:List AV} {q:List Rat} (hc:su c q) (hn:q.length=n) (hn1:n<=1000) (hs:∀ x∈q,Sml x):Pure Tryz.prog B 179 [.lst 4 n c,.fn 180 (.of 180) []] (· = .bool false):=by
 intro p h nx K hK;refine zL zN yC 10 λhf => ?_;rw [rC.go,rC.t3,zA,rC.zu,zA,rC.zo];refine zug hc hn hn1 hs _ _ _ _ ?_;rintro _ rfl hf2;rw [fM,Zab (by decide)];simp only [zF,zO];rw [rC.ret];exact hK _ rfl hf2
abbrev zdz (n:Nat) (Bs:List (List Rat)):List AV:=Bs.map λb=>.lst 1 n (vM b)
theorem zui {n:Nat} {cb:List (List AV)} {Bs:List (List Rat)} (hl:cb.length=Bs.length) (hr:∀ a,a<Bs.length->su (cb.getD a []) (Bs.getD a [])) (hn:∀ b∈Bs,b.length=n) (hn1:n<=1000) (hB:Bs.length<=1000) (hs:∀ b∈Bs,∀ x∈b,Sml x):Pure Tryz.prog B 92 [.lst 1 Bs.length (cb.map λc=>.lst 4 n c)] (· = .tup [.lst 1 Bs.length (zdz n Bs),I 0]):=by
 refine zT λh nx K H0 hK=>zL zN yC 2000 λhf => ?_;have H0:=H0.aA 1;rw [F92.go,F92.t26,zA,F92.zu,zA,F92.zo,zA,zA,F92.yw,zW,zI];refine F92.zfu (λm x3 x7 h' nx'=>∃ (k:Nat) (o:Option Pa),x3=uw o 1 k/\x7=I (k:Int)/\m+k=Bs.length/\Hp h h' nx' [.gro o 1 k ((zdz n Bs).take k)]) (m:=Bs.length) (by omega) ⟨0,none,rfl,rfl,rfl,H0⟩ ?_;rintro m z1 z2 z3 z4 z7 z8 z9 h3 nx3 R ⟨k,o,rfl,rfl,hm,H3⟩ hR;rw [F92.t18,zA,F92.vk,jf,zA,zB,F92.v8];by_cases ck:k<Bs.length
 .have hb:=yF (d:=[]) ck;have hca:cb[k]? = some (cb.getD k []):=j7 (by omega);have hba:Bs[k]? = some (Bs.getD k []):=j7 ck;have hx:(zdz n Bs)[k]? = some (.lst 1 n (vM (Bs.getD k []))):=by rw [Zgx,hba];rfl
  rw [Zac (by omega),zC,zE,zA,zI,zA,F92.fZ,cu (i:=k) rfl ck,ldL (show (cb.map λc=>AV.lst 4 n c)[k]? = some (.lst 4 n (cb.getD k [])) by rw [Zgx,hca];rfl),zA,zA,F92.uy];refine zuh (hr k ck) (hn _ hb) hn1 (hs _ hb) _ _ _ _ ?_;rintro _ rfl _;rw [zB,F92.v9,zD,zE,F92.xu];refine zrv (hr k ck) (hn _ hb) hn1 (hs _ hb) _ _ _ _ ?_;rintro _ rfl _;refine H3.fq (l:=[.lst 1 n (vM (Bs.getD k []))]) rfl λtb h4 nx4 H4 => ?_;refine H4.appN (k:=1) (o:=o) (c:=1) (new:=[.lst 1 n (vM (Bs.getD k []))]) rfl (qc.rd (l:=[.lst 1 n (vM (Bs.getD k []))]) (n:=1) (H4.own _ (Zaj ..)) rfl) rfl rfl (by decide) (by decide) (by omega) λo' h5 nx5 _ H5 => ?_;have H6:Hp h h5 nx5 [.gro o' 1 (k+1) ((zdz n Bs).take k++[.lst 1 n (vM (Bs.getD k []))])]:=H5.drop;rw [F92.ol,jo (by omega)];refine hR (m-1) _ _ _ _ _ _ _ _ _ (by omega) ⟨k+1,o',rfl,by congr 1,by omega,?_⟩;rw [Zaq,hx,Zcm];exact H6
 .obtain rfl:k=Bs.length:=by omega
  rw [Zak (by rw [Zah];exact Zaf _)] at H3;rw [Zab (by omega),zD,zX,yD,zA,F92.tO];simp only [zF,zO];rw [F92.ret];refine hK _ _ _ _ _ H3 (j4 (H3.ak (k:=0) rfl λv hv => ?_) (zS rfl)) rfl;obtain ⟨x,_,rfl⟩:=Zar.1 hv;exact qE λv hv=>by obtain ⟨x,_,rfl⟩:=Zar.1 hv;rfl
theorem qc.zuj {N:Pa->Prop} {O:AV->Prop} {h:T Blk} {id:Pa} {l:List AV} {cap:Option Nat} {n e:Nat} (H:qc h id l) (hid:N id) (hcap:zkg n cap) (hn:n*e<=l.length) (hf:∀ v∈l,rJ v=true):Frz True N O h (.sl id 0 n cap e) (.lst e n (l.take (n*e))):=by
 obtain ⟨op,t,h1,h2⟩:=H;refine .sl _ _ _ _ _ op _ t _ hid hcap h1 (by omega) (by rw [Zai];omega) (Zaw.2 λv hv=>rJ.qb (hf v (Zbx hv))) λi v hi => ?_;rw [Zhk] at hi;split at hi
 .have:=yN t 0 l.length i (Zgw.1 hi).1;rw [h2,hi] at this;rw [<- Option.some.inj this];exact zS (hf v (Zad hi))
 .cases hi
theorem zrw {M:List (List Rat)} {tid p:Pa} {rs:List Pa} {L:List Ob} {w:Nat} {h0 h:T Blk} {nx:Pa} {K:Kw Prop} (H:PM h0 h nx tid rs w L M) (hM:1<=M.length) (hK:K (I (w:Int)) h nx=.ok True):(CS Tryz.prog B).fn 196 p [.sl tid 0 M.length none 1] h nx K=.ok True:=by
 refine zL zN yC 100 λhf => ?_;obtain ⟨r,hr,ht⟩:=H.tab (y:=0) (by omega);have ix0:∀ op:AV->OP,zJ 1 (.sl tid 0 M.length none 1) (I 0) op=op (.ptr tid 0):=λop=>by
  show zJ 1 _ (I ((0:Nat):Int)) op=_;rw [uR (show 0<M.length by omega)]
 rw [ve.go,ve.t9,zA,ve.zu,zA,zA,ve.zo,yI,qz,Zab (by omega),zB,ve.v2,zD,zE,zA,ve.uy,ix0,ht,rv9,yI];simp only [zF,zO];rw [ve.ret];exact hK
theorem zff {M:List (List Rat)} {tid:Pa} {rs:List Pa} {L:List Ob} {w k:Nat} {h0 h hX:T Blk} {nx:Pa} (H:PM h0 h nx tid rs w L M) (hk:k<=M.length) (hX1:T.get .no tid hX=.no) (hX2:∀ r∈rs,T.get .no r hX=.no):tN hX h (.sl tid 0 k none 1) (jK (M.take k)):=by
 obtain ⟨h1,h2,h3⟩:=H;obtain ⟨op,t,e1,e2⟩:=h3.own _ (Zaj ..);have hl:((M.take k).map gU).length=k:=by rw [Zah,Zai];omega
 have hrl:(rs.map (rv9 w)).length=M.length:=by rw [Zah];exact h1
 have:jK (M.take k)=.lst 1 k ((M.take k).map gU):=by
  show AV.lst 1 (M.take k).length _=_;rw [Zai,Zbw hk]
 rw [this];refine .sl _ _ _ _ _ op _ t _ hX1 trivial e1 (by omega) (by omega) (Zaw.2 λv hv=>by obtain ⟨x,_,rfl⟩:=Zar.1 hv;rfl) λi v hi => ?_;have hik:=(Zgw.1 hi).1;have hiM:i<M.length:=by omega
 have hMi:M[i]? = some M[i]:=Zgv hiM;obtain ⟨ri,hri⟩:∃ ri,rs[i]? = some ri:=⟨_,Zgv (show i<rs.length by omega)⟩;rw [Zgx,Zhe (by omega),hMi] at hi;obtain rfl:=Option.some.inj hi;have hc:=yN t 0 (rs.map (rv9 w)).length i (by omega);rw [e2,Zgx,hri] at hc;rw [<- Option.some.inj hc];have hob:=pE (b:=L) (kA hri hMi);have hown:=h3.own _ (Zap _ (Zad hob));have hlw:=h2 _ (Zat hiM);have:=qc.zuj (N:=λid=>T.get .no id hX=.no) (O:=λv=>(∃ id off,v=.ptr id off/\T.get .no id hX≠.no)\/(∃ id,v=.yld id/\T.get .no id hX≠.no)\/(∃ id,v=.map id/\T.get .no id hX≠.no)\/(∃ id off ln cap esz,v=.sl id off ln cap esz/\T.get .no id hX≠.no)) (n:=w) (e:=1) (cap:=none) hown (hX2 _ (Zad hri)) trivial (by rw [Zah];omega) λv hv=>by obtain ⟨x,_,rfl⟩:=Zar.1 hv;rfl
 rw [Zak (by rw [Zah];omega)] at this;show Frz _ _ _ _ (.sl _ 0 w none 1) (.lst 1 M[i].length (M[i].map T9));rw [hlw];exact this
theorem PM.frz {M:List (List Rat)} {tid:Pa} {rs:List Pa} {L:List Ob} {w k:Nat} {h0 h:T Blk} {nx:Pa} (H:PM h0 h nx tid rs w L M) (hk:k<=M.length):tN h0 h (.sl tid 0 k none 1) (jK (M.take k)) :=
 zff H hk (H.2.2.off tid (Zca.2 ⟨_,Zaj ..,by simp [Ob.names]⟩)) λr hr=>by
  obtain ⟨i,hi⟩:=Zau.1 hr;have hil:=(Zgw.1 hi).1;have hMi:M[i]? = some (M[i]'(by rw [<- H.1];exact hil)):=Zgv _;exact H.2.2.off r (Zca.2 ⟨Ob.arr r _,Zap _ (Zad (pE (kA hi hMi))),by simp [Ob.names]⟩)
theorem zlc {h0:T Blk} {nx:Pa} {L:List Ob}:∀ (rs:List Pa) (M:List (List Rat)) (h:T Blk),rs.length=M.length->Hp h0 h nx (jU rs M++L)->∃ h',kS h' h/\(∀ r∈rs,T.get .no r h'=.no)/\Hp h0 h' nx L
 | [],[],h,_,H=>⟨h,λ_ _=>rfl,by simp,H⟩
 | r::rs,l::M,h,hl,H=>by
  have H1:Hp h0 h nx (.arr r (l.map T9)::(jU rs M++L)):=H;obtain ⟨h',k1,k2,k3⟩:=zlc rs M _ (by simpa using hl) H1.zqo;have nr:T.get .no r (T.set .no .no r h)=.no:=T.get_set_same _ _ _ _;refine ⟨h',λj hj => ?_,λx hx => ?_,k3⟩
  .have e:=k1 j hj;have hne:j≠r:=λq=>by rw [<- e,q,nr] at hj;exact hj rfl
   rw [<- e,T.zx _ _ _ _ _ hne]
  .rcases Zas.1 hx with rfl | hx
   .refine Classical.byContradiction λc=>c ?_;rw [<- k1 _ c];exact nr
   .exact k2 x hx
 | [],_::_,_,h,_=>by simp at h
 | _::_,[],_,h,_=>by simp at h
theorem PM.zww {M:List (List Rat)} {tid:Pa} {rs:List Pa} {L:List Ob} {w:Nat} {h0 h:T Blk} {nx:Pa} (H:PM h0 h nx tid rs w L M):∃ h',kS h' h/\Hp h0 h' nx L/\T.get .no tid h'=.no/\∀ r∈rs,T.get .no r h'=.no:=by
 obtain ⟨h',k1,k2,k3⟩:=zlc rs M _ H.1 H.2.2.zqo;have nr:T.get .no tid (T.set .no .no tid h)=.no:=T.get_set_same _ _ _ _;refine ⟨h',λj hj => ?_,k3,Classical.byContradiction λc=>c ?_,k2⟩
 .have e:=k1 j hj;have hne:j≠tid:=λq=>by rw [<- e,q,nr] at hj;exact hj rfl
  rw [<- e,T.zx _ _ _ _ _ hne]
 .rw [<- k1 _ c];exact nr
def zrx (j i:Nat) (li lr:List Rat) (M:List (List Rat)) (r:Nat):Prop :=
 Qd (li.getD j 0)⁻¹/\(∀ q∈li.map (· * (li.getD j 0)⁻¹),Qd q)/\∀ l∈((M.set i lr).set r li).set r (li.map (· * (li.getD j 0)⁻¹)),∀ q∈li.map (· * (li.getD j 0)⁻¹),Qd (l.getD j 0*q)
theorem bN {M0:List (List Rat)} {w:Nat} (Good:Nat->List (List Rat)->List Nat->Prop) (hw1:1<=w) (hw:w<=1000) (hM1:1<=M0.length) (hM:M0.length<=1000) (hrow:∀ l∈M0,l.length=w) (g0:Good 0 M0 [])
  (sz:∀ j M P,Good j M P->j<w->P.length<M.length->M.length=M0.length->∀ l∈M,∀ q∈l,Qd q)
  (step0:∀ j M P,Good j M P->j<w->P.length<M.length->M.length=M0.length->(∀ i' l,P.length<=i'->M[i']? = some l->l.getD j 0=0)->Good (j+1) M P)
  (step1:∀ j M P i li lr,Good j M P->j<w->P.length<M.length->P.length<=i->M.length=M0.length->M[i]? = some li->M[P.length]? = some lr->li.getD j 0≠0->Good (j+1) (rX i P.length j li lr M) (P++[j])/\zrx j i li lr M P.length) :
  Pure Tryz.prog B 190 [jK M0] (λv=>∃ j M P,Good j M P/\M.length=M0.length/\P.length<=M.length/\(j=w\/P.length=M.length)/\v=.tup [jK (M.take P.length),.lst 1 P.length (P.map D)]):=by
 refine zT λh nx K H0 hK=>zL zN yC 100010 λhf => ?_;rw [ze.go,ze.t84,zA,ze.zu,zA,ze.zo];refine zq4 H0 hw1 (by omega) hrow (by omega) λo rs h1 nx1 hrs H1 => ?_;obtain ⟨tid,rfl⟩:∃ id,o=some id:=by
  cases o with
  | none=>obtain ⟨_,hz⟩:=H1.own _ (Zaj ..);omega
  | some id=>exact ⟨id,rfl⟩
 have H2:=H1.oQ.ax 1;have H3:=H2.perm ((List.Perm.swap _ _ _).trans ((Zdk _ _).symm.cons _));have hP0:PM h h1 nx1 tid rs w [.gro none 1 0 []] M0:=⟨hrs,hrow,H3⟩;rw [show uw (some tid) 1 M0.length=.sl tid 0 M0.length none 1 from rfl,zA,ze.yw,zA,zA,ze.vk,zI];refine ze.zu0 (λm x3 x4 h' nx'=>∃ (j:Nat) (M:List (List Rat)) (P:List Nat) (o:Option Pa) (rs:List Pa),x3=uw o 1 P.length/\x4=I (j:Int)/\m+j=w/\M.length=M0.length/\P.length<=M.length/\Good j M P/\PM h h' nx' tid rs w [.gro o 1 P.length (P.map D)] M) (m:=w) (by omega) ⟨0,M0,[],none,rs,rfl,rfl,rfl,rfl,Zdx _,g0,hP0⟩ ?_;rintro m z3 z4 z5 z6 z7 z8 z9 z10 z11 z12 z13 z14 z15 z16 z17 z18 h3 nx3 R ⟨j,M,P,o,rs,rfl,rfl,hm,hMl,hPl,hg,H⟩ hR;have hlen:∀ KK:AV->OP,sLen (uw o 1 P.length) KK=KK (I (P.length:Int)):=λKK=>by
  cases o with
  | some id=>exact yI ..
  | none =>
   obtain ⟨_,e⟩:P.map D=[]/\P.length=0:=H.2.2.own (.gro none 1 P.length (P.map D)) (by simp);rw [e];exact yJ ..
 have stop:(j=w\/P.length=M.length)->∀ {y12:AV},y12=.bool false->IR.run ze.t5 (CS Tryz.prog B) 100010 ((fnO ze.res K).blk 0 (IR.run ze.t80 (CS Tryz.prog B) 100010 (fnO ze.res K) (zi ze.res K))) (IR.run ze.t74 (CS Tryz.prog B) 100010 ((fnO ze.res K).blk 0 (IR.run ze.t80 (CS Tryz.prog B) 100010 (fnO ze.res K) (zi ze.res K))) R) (ze.fr (.sl tid 0 M0.length none 1) .zb .zb (uw o 1 P.length) (I (j:Int)) z5 z6 z7 z8 z9 z10 z11 y12 z13 z14 z15 z16 z17 z18) h3 nx3=.ok True:=by
  rintro he _ rfl;rw [ze.t5,zB,ze.v12,zD,zX,yD,ze.t80,zA,ze.zu1,hlen,qb0 (by omega)];simp only [zF,zO];rw [ze.ret];refine hK _ _ _ _ _ H.2.2 (j4 (H.frz hPl) (H.2.2.ak (k:=1+M.length) ?_ λv hv=>by obtain ⟨x,_,rfl⟩:=Zar.1 hv;rfl)) ⟨j,M,P,hg,hMl,hPl,he,rfl⟩;have hrl:(jU rs M).length=M.length:=by unfold jU;rw [Zdo,H.1,Nat.min_self]
  rw [Zdh,Zhl,Zgy (by omega),hrl,Zcw];rfl
 rw [ze.t75,zA,zA,ze.ng,ze.r4_0,ze.zd4,<- hMl];refine zrw H (by omega) ?_;rw [ze.r4_1,ze.zd5,jf];by_cases cj:j<w
 case neg =>
  rw [Zab (by omega)];simp only [jD];rw [yB,hMl];exact stop (.inl (by omega)) rfl
 rw [Zac (by omega)];simp only [yL];rw [hlen,yI,jf,zY];by_cases cP:P.length<M.length
 case neg =>
  rw [Zab (by omega),hMl];exact stop (.inr (by omega)) rfl
 rw [Zac (by omega),ze.t5,zB,ze.v12,zC,zE,ze.t74,zA,zI,zA,ze.fF,hlen,zA,zI];refine zt0 H hPl cj (by omega) (Zaf _) λi x13 hri hiM hz hnz => ?_;by_cases ci:i<M.length
 case neg =>
  obtain rfl:i=M.length:=by omega
  rw [ze.t69,zA,zA,ze.sw,yI,qz,Zac rfl,zB,ze.v14,zC,zX,yD,ze.zuz,jo (by omega),hMl];exact hR (m-1) _ _ _ _ _ _ _ _ _ _ _ _ _ _ _ _ _ _ (by omega) ⟨j+1,M,P,o,rs,rfl,by congr 1,by omega,hMl,hPl,step0 j M P hg cj cP hMl λi' l h1 h2=>hz i' l h1 (Zgw.1 h2).1 h2,H⟩
 have hli:M[i]? = some M[i]:=Zgv ci;have hlr:M[P.length]? = some M[P.length]:=Zgv cP;obtain ⟨hg2,hs1,hs2,hs3⟩:=step1 j M P i _ _ hg cj cP hri hMl hli hlr (hnz _ hli);refine zyx H hli hlr (hnz _ hli) cj (by omega) (by omega) (Zaf _) (sz j M P hg cj cP hMl) hs1 hs2 hs3 (by omega) λo' rs' h4 nx4 x5 x6 x7 x8 x9 x10 x11 x12 x13 x14 x15 x16 x17 x18 H4 => ?_;rw [ze.zuz,jo (by omega),hMl];have hml:(rX i P.length j M[i] M[P.length] M).length=M.length:=by unfold rX ay;rw [Zdl,Zan,Zan,Zan]
 exact hR (m-1) _ _ _ _ _ _ _ _ _ _ _ _ _ _ _ _ _ _ (by omega) ⟨j+1,_,P++[j],o',rs',by rw [Zae];rfl,by congr 1,by omega,by rw [hml,hMl],by rw [Zae,Zbq,hml];exact cP,hg2,by rw [Zae];exact H4⟩
end Go.Ev
namespace Go.Ev
open Go Go.Proofs
def Od (x:Int):Prop:=x = -1\/x=1
def hfI:List Int->List Int->List Int
 | x::a,y::b=>(x-y) / 2::hfI a b
 | _,_=>[]
theorem zck:∀ (a b:List Int) w s,a.length=b.length->(∀ x∈a,Od x)->(∀ x∈b,Od x)->wdg a w s=2*wdg (hfI a b) w s+wdg b w s
 | [],[],_,_,_,_,_=>by simp only [wdg,hfI];rfl
 | x::a,y::b,_,[],_,_,_=>by simp only [wdg,hfI];rfl
 | x::a,y::b,w,false::s,h,ha,hb=>zck a b (λt=>w (false::t)) s (by simpa using h) (λz hz=>ha z (Zap _ hz)) λz hz=>hb z (Zap _ hz)
 | x::a,y::b,w,true::s,h,ha,hb=>by
  have ih:=zck a b (λt=>w (true::t)) s (by simpa using h) (λz hz=>ha z (Zap _ hz)) λz hz=>hb z (Zap _ hz);have e:2*((x-y) / 2)=x-y:=by
   rcases ha x (Zaj ..) with rfl | rfl <;> rcases hb y (Zaj ..) with rfl | rfl <;> decide
  show x*w (false::s)-wdg a (λt=>w (true::t)) s=2*((x-y) / 2*w (false::s)-wdg (hfI a b) (λt=>w (true::t)) s)+(y*w (false::s)-wdg b (λt=>w (true::t)) s);rw [ih];have e2:2*((x-y) / 2*w (false::s))=(x-y)*w (false::s):=by rw [<- Int.mul_assoc,e]
  grind
 | [],_::_,_,_,h,_,_=>by simp at h
 | _::_,[],_,_,h,_,_=>by simp at h
theorem zfg:∀ n (v w:List Bool->Int),(∀ s:List Bool,s.length=n->v s=2*w s)->ipf n v v=4*ipf n w w
 | 0,v,w,h=>by simp only [ipf];rw [h [] rfl];grind
 | n+1,v,w,h=>by
  simp only [ipf];rw [zfg n (λt=>v (false::t)) (λt=>w (false::t)) λs hs=>h _ (by simp [hs]),zfg n (λt=>v (true::t)) (λt=>w (true::t)) λs hs=>h _ (by simp [hs])]
  grind
theorem zuk (b:List Int) (v w:List Bool->Int) (s:List Bool) (h:∀ t:List Bool,t.length=s.length->v t=2*w t):wdg b v s=2*wdg b w s:=by
 have e:=p8 2 b w v s;rw [vQ b _ s λt ht=>by rw [h t ht];omega] at e;omega
theorem zjr:∀ l:List Int,(∀ x∈l,Od x)->sqV l=(l.length:Int)
 | [],_=>rfl
 | x::l,h=>by
  have:=zjr l λy hy=>h y (Zap _ hy);rw [sqV,Zbd,this];rcases h x (Zaj ..) with rfl | rfl <;> omega
theorem zld {n:Nat} (hn:4<=n) {b0:List Int} (h0:b0.length=n) (o0:∀ x∈b0,Od x):∀ L:List (List Int),(∀ a∈L,a.length=n/\∀ x∈a,Od x)->∃ w:List Bool->Int,(∃ s:List Bool,s.length=n/\w s≠0)/\(∀ s:List Bool,s.length=n->w s≠0->s.count true<=L.length+1)/\ipf n w w*4 ^ L.length<=(n:Int) ^ (L.length+1)/\∀ a,a=b0\/a∈L->∀ s:List Bool,s.length=n->wdg a w s=0
 | [],_=>by
  obtain ⟨w,h1,h2,h3,h4⟩:=zjm (n:=n) (B:=(n:Int)) (by omega) [b0] λa ha=>by
   rw [Zaz.1 ha,zjr b0 o0,h0];exact ⟨rfl,Zgk _⟩
  refine ⟨w,h1,h2,?_,λa ha=>h4 a ?_⟩
  .show ipf n w w*1<=_;rw [Int.mul_one];exact h3
  .rcases ha with rfl | ha
   .exact Zaz.2 rfl
   .cases ha
 | a::L,h=>by
  obtain ⟨w,⟨s0,hs0,hw0⟩,hd,hi,hk⟩:=zld hn h0 o0 L λb hb=>h b (Zap _ hb);obtain ⟨hal,hao⟩:=h a (Zaj ..);have hlen:∀ b,b=b0\/b∈L->b.length=n:=λb hb=>hb.elim (λe=>e ▸ h0) λhb=>(h b (Zap _ hb)).1;have p4:(4:Int) ^ (a::L).length=4 ^ L.length*4:=Int.pow_succ ..;have pn:(n:Int) ^ ((a::L).length+1)=(n:Int) ^ (L.length+1)*(n:Int):=Int.pow_succ ..;have pp:0<=(n:Int) ^ (L.length+1):=Zeq (by omega);by_cases c:∀ s:List Bool,s.length=n->wdg a w s=0
  .refine ⟨w,⟨s0,hs0,hw0⟩,λs hs e=>Zgs (hd s hs e),?_,λb hb => ?_⟩
   .rw [p4,pn,<- Int.mul_assoc];have h1:=Zco hi (show (0:Int)<=4 by decide);have h2:=Zdn (show (4:Int)<=(n:Int) by omega) pp;omega
   .rcases hb with rfl | hb
    .exact hk b (.inl rfl)
    .rcases Zas.1 hb with rfl | hb
     .exact c
     .exact hk b (.inr hb)
  .obtain ⟨s1,h1,hw1⟩:∃ s:List Bool,s.length=n/\wdg a w s≠0:=by
    refine Classical.byContradiction λe=>c λs hs=>Classical.byContradiction λq=>e ⟨s,hs,q⟩
   have hf:∀ s:List Bool,s.length=n->wdg a w s=2*wdg (hfI a b0) w s:=λs hs=>by
    rw [zck a b0 w s (by rw [hal,h0]) hao o0,hk b0 (.inl rfl) s hs];omega
   refine ⟨wdg (hfI a b0) w,⟨s1,h1,λe=>hw1 (by rw [hf s1 h1,e];rfl)⟩,λs hs e => ?_,?_,λb hb s hs => ?_⟩
   .obtain ⟨t,t1,t2,t3⟩:=cU (hfI a b0) w s e;have:=hd t (by rw [t1];exact hs) t2;rw [Zbd];omega
   .have e1:=zre a w;rw [hal,zjr a hao,hal,zfg n _ _ hf] at e1;rw [p4,pn];have q4:(0:Int)<=4 ^ L.length:=Zeq (by decide);have h1:=Zco e1 q4;have h2:=Zdn hi (show (0:Int)<=(n:Int) by omega);have e2:4*ipf n (wdg (hfI a b0) w) (wdg (hfI a b0) w)*4 ^ L.length=ipf n (wdg (hfI a b0) w) (wdg (hfI a b0) w)*(4 ^ L.length*4):=by grind
    have e3:(n:Int)*ipf n w w*4 ^ L.length=(n:Int)*(ipf n w w*4 ^ L.length):=Int.mul_assoc ..;have e4:(n:Int)*(n:Int) ^ (L.length+1)=(n:Int) ^ (L.length+1)*(n:Int):=Int.mul_comm ..;omega
   .have hb2:wdg b (wdg a w) s=0:=by
     have old:b=b0\/b∈L->wdg b (wdg a w) s=0:=λhb=>by
      rw [xD b a w s (by rw [hlen b hb,hal]),vQ a _ s λt ht=>hk b hb t (by rw [ht];exact hs)];rfl
     rcases hb with hb | hb
     .exact old (.inl hb)
     .rcases Zas.1 hb with rfl | hb
      .have:=xD b b w s rfl;omega
      .exact old (.inr hb)
    have:=zuk b (wdg a w) (wdg (hfI a b0) w) s λt ht=>hf t (by rw [ht];exact hs);omega
theorem hadO {n:Nat} (hn:4<=n) {b0:List Int} (h0:b0.length=n) (o0:∀ x∈b0,Od x) (L:List (List Int)) (h:∀ a∈L,a.length=n/\∀ x∈a,Od x) (hL:L.length+1<n):∃ x:List Int,x.length=n/\(∃ j,x.getD j 0≠0)/\sqV x*4 ^ L.length<=(n:Int) ^ (L.length+1)/\∀ a,a=b0\/a∈L->dtI a x=0:=by
 obtain ⟨w,⟨s,hs,hw⟩,hd,hi,hk⟩:=zld hn h0 o0 L h;obtain ⟨S,hS,hj⟩:=zrg s w hw (by have:=hd s hs hw;omega);have hSn:S.length=n:=by rw [hS,hs]
 refine ⟨xvL S w,by rw [cT];exact hSn,hj,?_,λa ha => ?_⟩
 .have e:=zk1 S w;rw [hSn] at e;have:=Zco e (show (0:Int)<=4 ^ L.length from Zeq (by decide));omega
 .have hal:a.length=n:=ha.elim (λe=>e ▸ h0) λha=>(h a ha).1;rw [<- zfa a w S (by rw [hSn,hal])];exact hk a ha S hSn
def ZB:Nat:=2356
theorem zy7:∀ r<12,(r+2) ^ (r+1)<=5555448*4 ^ r:=by decide
theorem zry (F G:Nat->Int):∀ k,sI k (λj=>F j+G j)=sI k F+sI k G
 | 0=>rfl
 | k+1=>by rw [sI,sI,sI,zry F G k];omega
theorem zle (c:Int) (F:Nat->Int):∀ k,sI k (λj=>c*F j)=c*sI k F
 | 0=>by simp [sI]
 | k+1=>by rw [sI,sI,zle c F k];grind
theorem zlf {F:Nat->Int}:∀ {k:Nat},(∀ j,j<k->F j=0)->sI k F=0
 | 0,_=>rfl
 | k+1,h=>by rw [sI,zlf λj hj=>h j (by omega),h k (by omega)];rfl
theorem qcc {r:Nat} (hr:r<12) (hr2:2<=r) (f0:Nat->Int) (c0:Int) (ho:(∀ j,Od (f0 j))/\Od c0) (f:Nat->Nat->Int) (hf:∀ i j,Od (f i j)):∃ (x:Nat->Int) (z:Int),((∃ j,j<=r/\x j≠0)\/z≠0)/\(∀ j,(x j).natAbs<=ZB)/\sI (r+1) (λj=>f0 j*x j)+c0*z=0/\∀ i,i<r->sI (r+1) (λj=>f i j*x j)+1*z=0:=by
 have hro:∀ (g:Nat->Int) (c:Int),(∀ j,Od (g j))->Od c->((List.range (r+1)).map g++[c]).length=r+2/\∀ x∈(List.range (r+1)).map g++[c],Od x:=λg c h1 h2=>by
  refine ⟨by simp,λx hx => ?_⟩;rcases Zbf.1 hx with q | q
  .obtain ⟨j,_,rfl⟩:=Zar.1 q;exact h1 j
  .rw [Zaz.1 q];exact h2
 obtain ⟨X,hX,⟨j,hj⟩,hs,hk⟩:=hadO (n:=r+2) (by omega) (hro f0 c0 ho.1 ho.2).1 (hro f0 c0 ho.1 ho.2).2 ((List.range r).map λi=>(List.range (r+1)).map (f i)++[1]) (λa ha=>by
  obtain ⟨i,_,rfl⟩:=Zar.1 ha;exact hro (f i) 1 (hf i) (.inr rfl)) (by simp)
 have hxe:X=(List.range (r+1)).map (λj=>X.getD j 0)++[X.getD (r+1) 0]:=by
  refine Zdc (by simp [hX]) λi h1 h2 => ?_;by_cases e:i<r+1
  .rw [List.getElem_append_left (by simpa using e)];simp [Zaa,h1]
  .obtain rfl:i=r+1:=by omega
   rw [List.getElem_append_right (by simp)];simp [Zaa,h1]
 have dt:∀ (g:Nat->Int) (c:Int),dtI ((List.range (r+1)).map g++[c]) X=sI (r+1) (λj=>g j*X.getD j 0)+c*X.getD (r+1) 0:=λg c=>by
  conv=>lhs;rw [hxe]
  rw [zcg _ _ _ _ (by simp),mY]
 refine ⟨λj=>X.getD j 0,X.getD (r+1) 0,?_,λj => ?_,?_,λi hi => ?_⟩
 .by_cases e:j<=r
  .exact .inl ⟨j,e,hj⟩
  .by_cases e2:j=r+1
   .exact .inr (e2 ▸ hj)
   .exact absurd (by rw [Zaa,Zha (by omega)];rfl) hj
 .have h1:=zfb X j;rw [Zah,Zcz] at hs;have h2:=zy7 r hr;have h3:(((r+2:Nat):Int)) ^ (r+1)=(((r+2) ^ (r+1):Nat):Int):=by simp
  have h4:(4:Int) ^ r=((4 ^ r:Nat):Int):=by simp
  rw [h3,h4] at hs;have hp:0<4 ^ r:=Zgj (by decide);have h5:sqV X<=5555448:=by
   refine Int.not_lt.1 λc => ?_;have:=Zco (show (5555449:Int)<=sqV X by omega) (show (0:Int)<=((4 ^ r:Nat):Int) by omega);omega
  show (X.getD j 0).natAbs<=2356;refine Zea λc => ?_;have h6:=Zbl (show 2357<=(X.getD j 0).natAbs from c) (show 2357<=(X.getD j 0).natAbs from c);have h7:=Zgg (a:=X.getD j 0);omega
 .rw [<- dt];exact hk _ (.inl rfl)
 .rw [<- dt];exact hk _ (.inr (Zar.2 ⟨i,Zbe.2 hi,rfl⟩))
theorem zul {r:Nat} (hr:r<=11) (l0:Nat->Int) (h0:∀ j,l0 j=0\/l0 j=1) (l:Nat->Nat->Int) (hl:∀ i j,l i j=0\/l i j=1):∃ x:Nat->Int,(∃ j,j<=r/\x j≠0)/\(∀ j,(x j).natAbs<=ZB)/\∀ i,i<r->sI (r+1) (λj=>(l i j-l0 j)*x j)=0:=by
 by_cases h2:2<=r
 case neg =>
  exact zt8 (R:=1) (Bd:=ZB) (by omega) (by decide) (λi j=>l i j-l0 j) λi j=>by
   rcases hl i j with e | e <;> rcases h0 j with f | f <;> rw [e,f] <;> decide
 have od:∀ {x:Int},x=0\/x=1->Od (2*x-1):=λh=>by
  rcases h with e | e <;> rw [e]
  .exact .inl rfl
  .exact .inr rfl
 obtain ⟨x,z,h1,h3,h4,h5⟩:=qcc (by omega) h2 (λj=>2*l0 j-1) 1 ⟨λj=>od (h0 j),.inr rfl⟩ (λi j=>2*l i j-1) λi j=>od (hl i j);refine ⟨x,?_,h3,λi hi => ?_⟩
 .rcases h1 with h1 | h1
  .exact h1
  .refine Classical.byContradiction λc=>h1 ?_;have:sI (r+1) (λj=>(2*l0 j-1)*x j)=0:=zlf λj hj=>by
    have:x j=0:=Classical.byContradiction λq=>c ⟨j,by omega,q⟩;rw [this,Int.mul_zero]
   omega
 .have e:=h5 i hi;have e2:sI (r+1) (λj=>(2*l i j-1)*x j)=2*sI (r+1) (λj=>(l i j-l0 j)*x j)+sI (r+1) (λj=>(2*l0 j-1)*x j):=by
   rw [<- zle,<- zry];exact zhs λj _=>by grind
  omega
theorem zlg:∀ (a c b d:List Rat),a.length=c.length->dot (a++b) (c++d)=dot a c+dot b d
 | [],[],b,d,_=>by show dot b d=dot [] []+dot b d;rw [show dot [] []=0 from rfl];grind
 | x::a,y::c,b,d,h=>by
  have:=zlg a c b d (by simpa using h);rw [Zbt,Zbt,dot,dot,this];grind
 | [],_::_,_,_,h=>by simp at h
 | _::_,[],_,_,h=>by simp at h
theorem cV (m i j:Nat):at' (uD m i) j=if i=j/\j<m then 1 else 0:=by
 unfold uD;by_cases e:i=j
 .subst e;by_cases h:i<m
  .rw [if_pos ⟨rfl,h⟩,at',Zaa,Zhc (by rw [Zav];exact h)];rfl
  .rw [if_neg (by omega),jV (by rw [Zan,Zav];omega)]
 .rw [if_neg (by omega),at',Zaa,Zhd e,<- Zaa];exact ze8 m j
theorem zrz:∀ (a b:List Rat),a.length=b.length->dot a b=sR a.length λj=>at' a j*at' b j:=by
 intro a b h;have key:∀ k,k<=a.length->dot (a.take k) (b.take k)=sR k λj=>at' a j*at' b j:=by
  intro k
  induction k with
  | zero=>intro _;rfl
  | succ k ih =>
   intro hk;rw [Zaq,Zaq,uE (q:=a) (by omega),uE (q:=b) (by omega),Zcm,Zcm,zlg _ _ _ _ (by rw [Zai,Zai];omega),ih (by omega),sR];show _+(at' a k*at' b k+dot [] [])=_;rw [show dot [] []=0 from rfl];grind
 have:=key a.length (Zaf _);rw [Zcu,h,Zcu,<- h] at this;exact this
theorem qU {n c:Nat} {q:List Rat} (hq:q.length=n) (hc:c<n):dot q (uD n c)=at' q c:=by
 rw [zrz _ _ (by rw [hq,gV]),hq,qM (i:=c) (x:=λj=>at' q j) λb hb => ?_,if_pos hc];rw [cV];by_cases e:c=b
 .rw [if_pos ⟨e,hb⟩,if_pos e];grind
 .rw [if_neg (by omega),if_neg e];grind
abbrev liQ (n:Nat) (lines:List (List Int)) (i:Nat):List Rat:=sP n (lines.getD i [])
theorem zjs {fr:List Nat} {f:Nat->List Rat} {b:Nat} (h:b<fr.length):(fr.map f).getD b []=f (fr.getD b 0):=by
 rw [Zaa,Zgx,j7 (d:=0) h];rfl
def SmP (M0:List (List Rat)):Prop:=∀ (O:List (List Rat)) (c:Nat->Nat),(∀ o∈O,o∈M0)->O.length<=11->∃ x:Nat->Int,(∃ j,j<=O.length/\x j≠0)/\(∀ j,(x j).natAbs<=ZB)/\∀ o∈O,sR (O.length+1) (λj=>at' o (c j)*(x j:Rat))=0
structure Gd (w:Nat) (M0:List (List Rat)) (j:Nat) (M:List (List Rat)) (P:List Nat):Prop where
 jw:j<=w
 row:∀ l∈M,l.length=w
 pl:P.length<=j
 pm:P.length<=M.length
 rng:∀ p∈P,p<j
 asc:P.Pairwise (· < ·)
 one:∀ a b,a<P.length->b<P.length->at' (M.getD a []) (P.getD b 0)=if a=b then 1 else 0
 zer:∀ a,P.length<=a->∀ c,c<j->at' (M.getD a []) c=0
 lead:∀ a,a<P.length->∀ c,c<P.getD a 0->at' (M.getD a []) c=0
 org:∃ O:List (List Rat),O.length=P.length/\(∀ o∈O,o∈M0)/\(∀ f:List Rat,f.length=w->(∀ o∈O,dot o f=0)->∀ a,a<P.length->dot (M.getD a []) f=0)/\∀ a,P.length<=a->a<M.length->∃ o∈M0,∀ f:List Rat,f.length=w->(∀ o∈O,dot o f=0)->dot (M.getD a []) f=dot o f
 full:∀ f:List Rat,f.length=w->(∀ l∈M,dot l f=0)->∀ o∈M0,dot o f=0
theorem Gd.start {w:Nat} {M0:List (List Rat)} (h:∀ l∈M0,l.length=w):Gd w M0 0 M0 [] :=
 ⟨Zdx _,h,Zaf _,Zdx _,by simp,by simp,λa b h=>by simp at h,λa _ c h=>by omega,λa h=>by simp at h,⟨[],rfl,by simp,λf _ _ a h=>by simp at h,λa _ ha=>⟨_,yF ha,λ_ _ _=>rfl⟩⟩,λf _ hz o ho=>hz o ho⟩
theorem Gd.skip {w j:Nat} {M0 M:List (List Rat)} {P:List Nat} (h:Gd w M0 j M P) (hj:j<w) (hz:∀ i' l,P.length<=i'->M[i']? = some l->l.getD j 0=0):Gd w M0 (j+1) M P :=
 ⟨hj,h.row,Zgs h.pl,h.pm,λp hp=>Zfr (h.rng p hp),h.asc,h.one,λa ha c hc=>by
  by_cases e:c=j
  .subst e;by_cases ha2:a<M.length
   .exact hz a _ ha (j7 ha2)
   .rw [Zaa,Zha (by omega)];exact jV (Zdx _)
  .exact h.zer a ha c (by omega),h.lead,h.org,h.full⟩
theorem Gd.col {w j:Nat} {M0 M:List (List Rat)} {P:List Nat} (h:Gd w M0 j M P) (hS:SmP M0) (hsg:∀ o∈M0,o.length=w/\∀ c,Sg (at' o c)) (hP:P.length<=11) (c:Nat):∃ t,1<=t/\t<=ZB/\(∀ a,a<P.length->Dn t ZB (at' (M.getD a []) c))/\∀ a,P.length<=a->a<M.length->Dn t (12*ZB) (at' (M.getD a []) c):=by
 obtain ⟨O,hol,hom,hker,hrest⟩:=h.org;have hln:∀ a,a<M.length->(M.getD a []).length=w:=λa ha=>h.row _ (yF ha);have hpm:=h.pm;rcases Zdj c w with hc | hc
 case inr =>
  refine ⟨1,Zaf _,by decide,λa ha => ?_,λa _ ha => ?_⟩
  .rw [jV (by rw [hln a (by omega)];exact hc)];exact Dn.zero _ _
  .rw [jV (by rw [hln a ha];exact hc)];exact Dn.zero _ _
 obtain ⟨x,⟨b,hb,hb0⟩,hx,hz⟩:=hS O (og P.length P c) hom (by omega);have hcR:∀ i,og P.length P c i<w:=λi=>by
  unfold og;by_cases q:i<P.length
  .rw [if_pos q];exact Zck (h.rng _ (yF q)) h.jw
  .rw [if_neg q];exact hc
 have hpl:∀ v:List Rat,v.length=w->dot v (plF w (og P.length P c) (λi=>(x i:Rat)) (P.length+1))=sR P.length (λb=>at' v (P.getD b 0)*(x b:Rat))+at' v c*(x P.length:Rat):=λv hv=>by
  rw [qP hv _ λi _=>hcR i,sR]
  congr 1
  .exact jI λb hb=>by rw [og,if_pos hb]
  .rw [og,if_neg (Zci _)]
 have hO:∀ o∈O,dot o (plF w (og P.length P c) (λi=>(x i:Rat)) (P.length+1))=0:=λo ho=>by
  rw [qP (hsg o (hom o ho)).1 _ λi _=>hcR i,<- hol];have:=hz o ho;rw [hol] at this ⊢;exact this
 have e1:∀ a,a<P.length->(x a:Rat)+at' (M.getD a []) c*(x P.length:Rat)=0:=λa ha=>by
  have e:=hker _ (kH _) hO a ha;rw [hpl _ (hln a (by omega)),qM (i:=a) (x:=λb=>(x b:Rat)) λb hb=>by rw [h.one a b ha hb],if_pos ha] at e;exact e
 have hxk:x P.length≠0:=λe=>by
  rcases Zdj b P.length with q | q
  .have:=e1 b q;rw [e,show ((0:Int):Rat)=0 from rfl,Zbm,Rat.add_zero] at this;exact dH hb0 this
  .obtain rfl:b=P.length:=by omega
   exact hb0 e
 refine ⟨(x P.length).natAbs,by omega,hx _,λa ha => ?_,λa ha ham => ?_⟩
 .exact zro (z := -x a) (by have:=e1 a ha;rw [Zcn];grind) (by rw [Zdz];exact hx a)
 .obtain ⟨o,ho,hof⟩:=hrest a ha ham;have e:=hof _ (kH _) hO;obtain ⟨hol2,hos⟩:=hsg o ho;rw [hpl _ (hln a ham),hpl _ hol2,qL λb hb=>by rw [h.zer a ha _ (h.rng _ (yF hb)),Zbz],Rat.zero_add] at e;refine zro (z:=sI P.length (λb=>sgI (at' o (P.getD b 0))*x b)+sgI (at' o c)*x P.length) ?_ ?_
  .rw [e,Zgc,<- cX,Zei,(hos c).int]
   congr 1
   exact jI λb _=>by rw [Zei,(hos _).int]
  .have h1:=zwt (F:=λb=>sgI (at' o (P.getD b 0))*x b) (k:=P.length) λb _=>Zax (zwu _ _) (hx b);have h2:=Zax (zwu (at' o c) (x P.length)) (hx _);have:=Zfp (sI P.length (λb=>sgI (at' o (P.getD b 0))*x b)) (sgI (at' o c)*x P.length);have h3:=Zbj ZB hP;omega
theorem Gd.sz {w j:Nat} {M0 M:List (List Rat)} {P:List Nat} (h:Gd w M0 j M P) (hS:SmP M0) (hsg:∀ o∈M0,o.length=w/\∀ c,Sg (at' o c)) (hP:P.length<=11):∀ l∈M,∀ q∈l,xg (12*ZB) q:=λl hl q hq=>by
 obtain ⟨a,ha⟩:=Zau.1 hl;have ham:=(Zgw.1 ha).1;have hla:M.getD a []=l:=by rw [Zaa,ha];rfl
 obtain ⟨c,_,rfl⟩:=dM hq;obtain ⟨t,t1,t2,t3,t4⟩:=h.col hS hsg hP c;rw [<- hla];by_cases e:a<P.length
 .exact ((t3 a e).mono (by decide)).nm t1 (Zax t2 (by decide))
 .exact (t4 a (by omega) ham).nm t1 (Zax t2 (by decide))
def swR (i k:Nat) (lr row:List Rat) (M:List (List Rat)) (a:Nat):List Rat:=if a=k then row else if a=i then lr else M.getD a []
theorem xH {i k j:Nat} {li lr:List Rat} {M:List (List Rat)} {a:Nat} (ha:a<M.length):(rX i k j li lr M).getD a []=if a=k then yU (at' li j)⁻¹ li else jX (at' (swR i k lr (yU (at' li j)⁻¹ li) M a) j) (swR i k lr (yU (at' li j)⁻¹ li) M a) (yU (at' li j)⁻¹ li):=by
 have e:(((M.set i lr).set k li).set k (yU (at' li j)⁻¹ li))[a]? = some (swR i k lr (yU (at' li j)⁻¹ li) M a):=by
  unfold swR;by_cases h1:a=k
  .subst h1;rw [if_pos rfl,Zhc (by rw [Zan,Zan];exact ha)]
  .rw [if_neg h1,Zhd (Ne.symm h1),Zhd (Ne.symm h1)];by_cases h2:a=i
   .subst h2;rw [if_pos rfl,Zhc ha]
   .rw [if_neg h2,Zhd (Ne.symm h2),j7 (d:=[]) ha]
 have e2:=zcb (r:=k) (j:=j) (lr:=yU (at' li j)⁻¹ li) e;show (ay k j (yU (at' li j)⁻¹ li) (((M.set i lr).set k li).set k (yU (at' li j)⁻¹ li))).getD a []=_;rw [Zaa,e2];show vE k j (yU (at' li j)⁻¹ li) a (swR i k lr (yU (at' li j)⁻¹ li) M a)=_;unfold vE;by_cases h1:a=k
 .rw [if_pos h1,if_pos h1,swR,if_pos h1]
 .rw [if_neg h1,if_neg h1];rfl
theorem Gd.piv {w j i:Nat} {M0 M:List (List Rat)} {P:List Nat} {li lr:List Rat} (h:Gd w M0 j M P) (hj:j<w) (hi:P.length<=i) (hli:M[i]? = some li) (hlr:M[P.length]? = some lr) (hv:li.getD j 0≠0):Gd w M0 (j+1) (rX i P.length j li lr M) (P++[j]):=by
 have him:=(Zgw.1 hli).1;have hkm:=(Zgw.1 hlr).1;have gi:M.getD i []=li:=by rw [Zaa,hli];rfl
 have gk:M.getD P.length []=lr:=by rw [Zaa,hlr];rfl
 have hlil:=h.row _ (Zad hli);obtain ⟨row,hrow⟩:∃ row,row=yU (at' li j)⁻¹ li:=⟨_,rfl⟩;have hrl:row.length=w:=by rw [hrow,u9];exact hlil
 have hv':at' li j≠0:=hv;have rz:∀ c,c<j->at' row c=0:=λc hc=>by
  rw [hrow,kE,<- gi,h.zer i hi c hc,Zbz]
 have rj:at' row j=1:=by rw [hrow,kE];grind
 have hml:(rX i P.length j li lr M).length=M.length:=by unfold rX ay;rw [Zdl,Zan,Zan,Zan]
 have get:∀ a,a<M.length->(rX i P.length j li lr M).getD a []=if a=P.length then row else jX (at' (swR i P.length lr row M a) j) (swR i P.length lr row M a) row:=λa ha=>by
  rw [xH ha,hrow]
 have zlh:∀ a,a<P.length->swR i P.length lr row M a=M.getD a []:=λa ha=>by
  unfold swR;rw [if_neg (by omega),if_neg (by omega)]
 have swhi:∀ a,P.length<a->a<M.length->∃ a',P.length<=a'/\a'<M.length/\swR i P.length lr row M a=M.getD a' []:=λa ha ham=>by
  unfold swR;rw [if_neg (by omega)];by_cases e:a=i
  .rw [if_pos e];exact ⟨P.length,Zaf _,hkm,gk.symm⟩
  .rw [if_neg e];exact ⟨a,by omega,ham,rfl⟩
 have swl:∀ a,a<M.length->a≠P.length->(swR i P.length lr row M a).length=row.length:=λa ha hne=>by
  rw [hrl];rcases Zdj a P.length with q | q
  .rw [zlh a q];exact h.row _ (yF ha)
  .obtain ⟨a',_,h2,h3⟩:=swhi a (by omega) ha;rw [h3];exact h.row _ (yF h2)
 have at1:∀ a,a<M.length->a≠P.length->∀ c,at' ((rX i P.length j li lr M).getD a []) c=at' (swR i P.length lr row M a) c-at' (swR i P.length lr row M a) j*at' row c:=λa ha hne c=>by
  rw [get a ha,if_neg hne,gZ (swl a ha hne)]
 have at2:∀ c,at' ((rX i P.length j li lr M).getD P.length []) c=at' row c:=λc=>by rw [get _ hkm,if_pos rfl]
 have dt1:∀ f a,a<M.length->a≠P.length->dot row f=0->dot ((rX i P.length j li lr M).getD a []) f=dot (swR i P.length lr row M a) f:=λf a ha hne hr=>by
  rw [get a ha,if_neg hne,uA _ _ _ _ (swl a ha hne),hr,Zbm];grind
 have dt2:∀ f,dot ((rX i P.length j li lr M).getD P.length []) f=dot row f:=λf=>by rw [get _ hkm,if_pos rfl]
 have drow:∀ f,dot row f=(at' li j)⁻¹*dot li f:=λf=>by rw [hrow,kY]
 have pA:∀ b,b<P.length->(P++[j]).getD b 0=P.getD b 0:=λb hb=>by
  rw [Zaa,Zhb hb,<- Zaa]
 have pB:(P++[j]).getD P.length 0=j:=by
  rw [Zaa,Zgy (Zaf _),Zcw];rfl
 have plen:(P++[j]).length=P.length+1:=by rw [Zae,Zbq]
 have hPj:=h.pl;obtain ⟨O,hol,hom,hker,hrest⟩:=h.org;obtain ⟨oi,hoi,hoif⟩:=hrest i hi him;rw [gi] at hoif;refine ⟨hj,λl hl => ?_,by rw [plen];omega,by rw [plen,hml];exact hkm,λp hp => ?_,?_,λa b ha hb => ?_,λa ha c hc => ?_,λa ha c hc => ?_,⟨O++[oi],by rw [Zae,hol,plen];rfl,λo ho => ?_,λf hf hz a ha => ?_,λa ha ham => ?_⟩,λf hf hz => ?_⟩
 .obtain ⟨a,ha⟩:=Zau.1 hl;have ham:=(Zgw.1 ha).1;rw [hml] at ham;have hla:(rX i P.length j li lr M).getD a []=l:=by rw [Zaa,ha];rfl
  rw [<- hla,get a ham];by_cases e:a=P.length
  .rw [if_pos e];exact hrl
  .rw [if_neg e,gB (swl a ham e),swl a ham e,hrl]
 .rcases Zbf.1 hp with q | q
  .exact Zfr (h.rng p q)
  .rw [Zaz.1 q];exact Nat.lt_succ_self j
 .refine List.pairwise_append.2 ⟨h.asc,List.pairwise_singleton _ _,λa ha b hb => ?_⟩;rw [Zaz.1 hb];exact h.rng a ha
 .rw [plen] at ha hb;by_cases ea:a=P.length
  .subst ea;rw [at2];by_cases eb:b=P.length
   .rw [eb,pB,rj,if_pos rfl]
   .rw [pA b (by omega),rz _ (h.rng _ (yF (by omega))),if_neg (by omega)]
  .rw [at1 a (by omega) ea,zlh a (by omega)];by_cases eb:b=P.length
   .rw [eb,pB,rj,if_neg ea];grind
   .rw [pA b (by omega),rz _ (h.rng _ (yF (by omega))),h.one a b (by omega) (by omega)];grind
 .rw [plen] at ha;by_cases ham:a<M.length
  .obtain ⟨a',h1,h2,h3⟩:=swhi a (by omega) ham;rw [at1 a ham (by omega),h3];by_cases e:c=j
   .rw [e,rj];grind
   .rw [h.zer a' h1 c (by omega),rz c (by omega)];grind
  .rw [Zaa,Zha (by rw [hml];omega)];exact jV (Zdx _)
 .rw [plen] at ha;by_cases ea:a=P.length
  .rw [ea,pB] at hc;rw [ea,at2];exact rz c hc
  .rw [pA a (by omega)] at hc;have hpa:=h.rng _ (yF (l:=P) (i:=a) (d:=0) (by omega));rw [at1 a (by omega) ea,zlh a (by omega),h.lead a (by omega) c hc,rz c (by omega)];grind
 .rcases Zbf.1 ho with q | q
  .exact hom o q
  .rw [Zaz.1 q];exact hoi
 .rw [plen] at ha;have hO:∀ o∈O,dot o f=0:=λo ho=>hz o (Zdd _ ho);have hr:dot row f=0:=by rw [drow,hoif f hf hO,hz oi (Zdt _ (Zaz.2 rfl)),Zbm]
  by_cases ea:a=P.length
  .rw [ea,dt2];exact hr
  .rw [dt1 f a (by omega) ea hr,zlh a (by omega)];exact hker f hf hO a (by omega)
 .rw [plen] at ha;rw [hml] at ham;obtain ⟨a',h1,h2,h3⟩:=swhi a (by omega) ham;obtain ⟨o,ho,hof⟩:=hrest a' h1 h2;refine ⟨o,ho,λf hf hz => ?_⟩;have hO:∀ o∈O,dot o f=0:=λo ho=>hz o (Zdd _ ho);have hr:dot row f=0:=by rw [drow,hoif f hf hO,hz oi (Zdt _ (Zaz.2 rfl)),Zbm]
  rw [dt1 f a ham (by omega) hr,h3];exact hof f hf hO
 .refine h.full f hf λl hl => ?_;have hz':∀ a,a<M.length->dot ((rX i P.length j li lr M).getD a []) f=0:=λa ha=>hz _ (yF (by rw [hml];exact ha));have hr:dot row f=0:=by rw [<- dt2];exact hz' _ hkm
  have hlf:dot li f=0:=by
   have e:=drow f;rw [hr] at e
   grind
  obtain ⟨a,ha⟩:=Zau.1 hl;have ham:=(Zgw.1 ha).1;have hla:M.getD a []=l:=by rw [Zaa,ha];rfl
  by_cases e1:a=i
  .rw [<- hla,e1,gi];exact hlf
  .by_cases e2:a=P.length
   .have:=dt1 f i him (by omega) hr;rw [hz' i him,swR,if_neg (by omega),if_pos rfl] at this;rw [<- hla,e2,gk];exact this.symm
   .have:=dt1 f a ham e2 hr;rw [hz' a ham,swR,if_neg e2,if_neg e1,hla] at this;exact this.symm
end Go.Ev
