import Derived.Test.YtfgpjkchdelphaaGreatDoorWordsa
import Derived.Test.YtfgpjkchdelphaaGreatDoorCodea
import Derived.Test.YtfgpjkchdelphaaGreatDoorEvD
import Derived.Test.YtfgpjkchdelphaaGreatDoorCodeb
import GoSem.Core.Next
import Derived.Sort.Grow
import Derived.Sort.Row
import Derived.IntWalk
set_option linter.unusedSimpArgs false
set_option linter.unusedVariables false
namespace Go.Ev
open Go Go.Proofs
variable {B:Nat}
set_option maxRecDepth 100000
theorem zkr {s:List UInt8} (hl:s.length<=100000) (hs:∀ c∈s,48<=c.toNat/\c.toNat<=57):Pure Tryz.prog B 267 [.str s] (· = .bool true):=by
 refine zX λh nx K H0 hK=>zM zO yD 100010 λhf => ?_;rw [jc.go,jc.t20,zA,jc.zx,zA,zA,jc.zu,zJ];refine jc.zk5 (λm x2 h' nx'=>∃ i:Nat,x2=I (i:Int)/\m+i=s.length/\h'=h/\nx'=nx) (m:=s.length) (by omega) ⟨0,rfl,rfl,rfl,rfl⟩ ?_;rintro m z1 z2 z3 z4 h3 nx3 R ⟨i,rfl,hm,rfl,rfl⟩ hR;rw [jc.t13,zA,zA,jc.je,rM,ji,zB,jc.v3];by_cases c:i<s.length
 .have ec:=List.getElem?_eq_getElem c;obtain ⟨b1,b2⟩:=hs _ (Zbb c);rw [Zac (by omega),zD,zE,zA,zJ,zA,jc.mg,jc.r3_0,jc.zuk,aG (i:=i) rfl ec,ji,Zab (by omega)];simp only [yJ];rw [aG (i:=i) rfl ec,jc.r3_1,jc.zul];simp only [yJ];rw [qm,Zab (by omega)];simp only [zW];rw [zB,jc.v4,zC,zE,jc.mh,gq (by omega)];exact hR (m-1) _ _ _ _ _ _ (by omega) ⟨i+1,by congr 1,by omega,rfl,rfl⟩
 .rw [Zab (by omega),zC,yA,yF,zA,jc.nV];simp only [zH,zP];rw [jc.ret];exact hK _ _ _ _ _ H0 (zY rfl) rfl
theorem zks {n:Nat} (h:(kg n 1)[0]? = some 48):n=0:=by
 rcases Zdy n with e | e
 .exact e
 .exfalso
  have hne:dg 10 n≠[]:=λq=>by
   have:=kE (b:=10) (z:=n) (by decide) (by omega);rw [q] at this;cases this
  unfold kg at h;rw [pS (by omega)] at h;rw [List.getElem?_map,List.getElem?_reverse (by have:=List.length_pos_iff.2 hne;omega)] at h;have hl:=List.length_pos_iff.2 hne;rw [show (dg 10 n).length-1-0=(dg 10 n).length-1 by omega,List.getElem?_eq_getElem (by omega)] at h;obtain ⟨_,hdg,hnm⟩:=xO (b:=10) (by decide) n;have hlast:(dg 10 n)[(dg 10 n).length-1]≠0:=by
   exact λe=>hnm (by rw [List.getLast?_eq_getElem?,List.getElem?_eq_getElem (by omega),e])
  have hlt:=hdg _ (Zbb (l:=dg 10 n) (n:=(dg 10 n).length-1) (by omega));have:∀ n<10,n≠0->dch n≠48:=by decide +kernel
  exact this _ hlt hlast (by simpa using h)
theorem zrz {x:Nat} (h:x<10):48<=(dch x).toNat/\(dch x).toNat<=57:=by
 have:∀ n<10,48<=(dch n).toNat/\(dch n).toNat<=57:=by decide +kernel
 exact this x h
theorem zpr {n:Nat}:∀ c∈kg n 1,48<=c.toNat/\c.toNat<=57:=λc hc=>by
 unfold kg at hc;obtain ⟨x,hx,rfl⟩:=List.mem_map.1 hc;exact zrz (vX _ _ x (by simpa using hx))
theorem zi7 {n:Nat} (hl:(kg n 1).length<=10000):Pure Tryz.prog B 207 [.str (kg n 1)] (· = .bool true):=by
 refine zX λh nx K H0 hK=>zM zO yD 100 λhf => ?_;have hp:=qY n;have ec:=List.getElem?_eq_getElem (l:=kg n 1) (i:=0) (by omega);rw [ug.go,ug.t9,zA,ug.zx,zA,zA,ug.zu,ug.nR,ug.nS,rM,vw,Zab (by omega)];simp only [yJ];rw [rM,qm];have fin:∀ x2:AV,x2=.bool false->ug.t4.run (CS Tryz.prog B) 100 (fnO ug.res K) (ug.t7.run (CS Tryz.prog B) 100 (fnO ug.res K) (zi ug.res K)) (ug.fr (.str (kg n 1)) (.bool false) x2) h nx=.ok True:=by
  rintro _ rfl;rw [ug.t4,zB,ug.v2,zC,zE,ug.t7,zA,ug.qj];refine zkr (by omega) zpr _ _ _ _ ?_;rintro _ rfl _;simp only [zH,zP];rw [ug.ret];exact hK _ _ _ _ _ H0 (zY rfl) rfl
 by_cases c:1<((kg n 1).length:Int)
 .rw [Zac c,ug.rO,ug.fT];simp only [yL,yJ,zZ,zW];rw [aG (i:=0) (x:=0) rfl ec,vw];have hne:¬ (((kg n 1)[0].toNat:Int)=48):=λq=>by
   have e:(48:UInt8).toNat=48:=rfl;have h48:(kg n 1)[0]=48:=UInt8.toNat_inj.1 (by omega);have:=zks (n:=n) (by rw [ec,h48]);subst this;rw [dE] at c;exact absurd c (by decide)
  rw [Zab hne];exact fin _ rfl
 .rw [Zab c,ug.rO,ug.fT];simp only [yZ,yJ,dM,zZ,zW];exact fin _ rfl
theorem zr0 {n:Nat} (h:kg n 1=[49]):n=1:=by
 have hlt:=ziv (n:=n) (k:=1) (by rw [h];simp);rcases Zdy n with e | e
 .subst e;rw [dE] at h;cases h
 .have hd:dg 10 n=[n]:=by
   rw [kE (by decide) (by omega),show n / 10=0 by omega,gJ,show n%10=n by omega]
  unfold kg at h;rw [pS (by omega),hd] at h;have:∀ n<10,dch n=49->n=1:=by decide +kernel
  exact this n (by omega) (by simpa using h)
theorem zps (q:Rat):∃ r:Rat,qp r=fU q/\r.num.natAbs=q.num.natAbs/\r.den=q.den:=by
 by_cases d:q.num<0
 .exact ⟨-q,by rw [(pP (q := -q) (by rw [Zft];omega)).1,zpg],by rw [Zft,Zei],Rat.neg_den q⟩
 .exact ⟨q,(pP d).1,rfl,rfl⟩
theorem zpt {q:Rat} (hq:Sml q) (hqN:q.den<1000000000):Pure Tryz.prog B 126 [.str (qp q)] (· = I 0):=by
 refine zX λh nx K H0 hK=>zM zO yD 100 λhf => ?_;have l1:=zkn q;have n1:=qY q.num.natAbs;have d1:=qY q.den;have n2:=vE (n:=q.num.natAbs) (k:=3) (Nat.lt_trans hq.1 (by decide));have d2:=vE (n:=q.den) (k:=3) (Nat.lt_trans hq.2 (by decide));obtain ⟨r,hr1,hr2,hr3⟩:=zps q;have hrd:qp r=kg q.num.natAbs 1++(if q.den=1 then [] else 47::kg q.den 1):=by rw [hr1,fU]
 have main:∀ x3 x4 x5 x6 x7 x8 x9 x10 x11 x12,ze.t40.run (CS Tryz.prog B) 100 (fnO ze.res K) (zi ze.res K) (ze.fr (.str (qp q)) (I 0) (.str (qp r)) x3 x4 x5 x6 x7 x8 x9 x10 x11 x12) h nx=.ok True:=by
  intro x3 x4 x5 x6 x7 x8 x9 x10 x11 x12;obtain ⟨j,hj⟩:∃ j,j=(kg q.num.natAbs 1).length:=⟨_,rfl⟩;have hlen:(qp r).length=j+if q.den=1 then 0 else (kg q.den 1).length+1:=by
   rw [hrd,Zae,hj];split <;> simp
  have hll:(qp r).length<=100:=by rw [hlen];split <;> omega
  have hjl:j<=(qp r).length:=by omega
  have ht:(qp r).take j=kg q.num.natAbs 1:=by rw [hrd,Zdr hj.symm]
  have hdr:q.den≠1->(qp r).drop (j+1)=kg q.den 1:=λc=>by
   rw [hrd,if_neg c,<- Zeg,Zes hj.symm];rfl
  have zt7:∀ x4 x5 x6 x7 x8 x10 x11 x12,ze.t15.run (CS Tryz.prog B) 100 (fnO ze.res K) (ze.t37.run (CS Tryz.prog B) 100 (fnO ze.res K) (zi ze.res K)) (ze.fr (.str (qp q)) (I 0) (.str (qp r)) (I (j:Int)) x4 x5 x6 x7 x8 (.bool false) x10 x11 x12) h nx=.ok True:=by
   intro x4 x5 x6 x7 x8 x10 x11 x12;rw [ze.t15,zB,ze.v9,zC,zE,ze.t37,zA,zA,ze.nV,ze.r9_0,ze.zun,qm,Zab (by omega)];simp only [yJ];rw [rM,wz (by omega),wz (by omega),ze.r9_1,ze.zuo];simp only [yJ];rw [qm,Zab (by omega)];simp only [zW];rw [zB,ze.v10,zC,zE,zA,zA,ze.sZ,rM,ji];by_cases c:q.den=1
   .rw [if_pos c] at hlen;rw [Zab (by omega),zB,ze.v11,zC,zE,zA,ze.af];simp only [zH,zP];rw [ze.ret];exact hK _ _ _ _ _ H0 (zY rfl) rfl
   .rw [if_neg c] at hlen;rw [Zac (by omega),zB,ze.v11,zD,zA,ze.zdu];have z1:Z9 3 r.num:=by unfold Z9;rw [hr2];exact Nat.lt_trans hq.1 (by decide)
    have z2:Z9 3 (r.den:Int):=by unfold Z9;rw [hr3,Zbr];exact Nat.lt_trans hq.2 (by decide)
    refine zo9 (k:=3) (by decide) z1 z2 _ _ _ _ ?_;rintro _ rfl _;rw [jK,jJ];refine H0.alloc λp1 h1 nx1 H1 => ?_;refine H1.alloc λp2 h2 nx2 H2 => ?_;refine H2.yx (l2:=[.bool (decide (r.num<0)),mq (dg 1000000000 r.num.natAbs)]) (k:=1) rfl rfl rfl λh3 H3 => ?_;refine H3.yx (l2:=[.bool (decide ((r.den:Int)<0)),mq (dg 1000000000 (r.den:Int).natAbs)]) (k:=0) rfl rfl rfl λh4 H4 => ?_;rw [zA,ze.aQ,sFx,H4.load (k:=1) (i:=0+1) rfl rfl,sFx,H4.load (k:=0) (i:=0+1) rfl rfl];refine zkj (by rw [hr3,Zbr];exact hqN) (show S9 _ from Zas z1.len (by decide)) (show S9 _ from Zas z2.len (by decide)) _ _ _ _ ?_;rintro _ rfl _;have hg:Nat.gcd r.num.natAbs (r.den:Int).natAbs=1:=by rw [Zbr];exact r.reduced
    have he:mq (dg 1000000000 1)=.lst 1 1 [I 1]:=by rw [kE (by decide) (by decide),gJ];rfl
    rw [hg,he,zA,ze.zlf,ze.zlg,ze.zp9,zV,di,Zac (show ((1:Nat):Int)=1 from rfl),Zaj];simp only [yJ];rw [bR (j:=0) (i:=0) rfl (by decide),ldL (i:=0) rfl,di,Zac rfl,Zaj,ze.ztj,ze.zqa];simp only [zW];rw [zB,ze.v12,zC,zE,zA,ze.af];simp only [zH,zP];rw [ze.ret];exact hK _ _ _ _ _ H4 (zY rfl) rfl
  have rest:∀ x4 x5 x6 x7 x9 x10 x11 x12,ze.t10.run (CS Tryz.prog B) 100 (fnO ze.res K) (ze.t38.run (CS Tryz.prog B) 100 (fnO ze.res K) (zi ze.res K)) (ze.fr (.str (qp q)) (I 0) (.str (qp r)) (I (j:Int)) x4 x5 x6 x7 (.bool false) x9 x10 x11 x12) h nx=.ok True:=by
   intro x4 x5 x6 x7 x9 x10 x11 x12;rw [ze.t10,zB,ze.v8,zC,zE,ze.t38,zA,zA,ze.fB,ze.r7_0,ze.zum,rM,ji];by_cases c:q.den=1
   .rw [if_pos c] at hlen;rw [Zab (by omega)];simp only [yZ];rw [ze.r7_1,ze.zlc];simp only [yZ,dT];rw [ze.r7_2,ze.zld];simp only [yZ,dM];rw [ze.r7_3,ze.zle];simp only [yZ,dM,zW];exact zt7 ..
   .rw [if_neg c] at hlen;rw [Zac (by omega)];simp only [yL];rw [gq (by omega),ze.r7_1,ze.zlc];simp only [yL,zar];rw [dL (a:=j+1) (by omega) (by omega),hdr c];refine zi7 (by omega) _ _ _ _ ?_;rintro _ rfl _;have k48:¬ kg q.den 1=[48]:=λe=>absurd (zdc e) q.den_nz;have k49:¬ kg q.den 1=[49]:=λe=>c (zr0 e);rw [ze.r7_2,ze.zld];simp only [yL,jF,Zaj,yJ];rw [gq (by omega),dL (a:=j+1) (by omega) (by omega),hdr c,ziz,Zab k48];simp only [zW];rw [ze.r7_3,ze.zle];simp only [yL,yJ];rw [gq (by omega),dL (a:=j+1) (by omega) (by omega),hdr c,ziz,Zab k49];simp only [zW,zZ];exact zt7 ..
  rw [ze.t40,zA,ze.qj];refine pG (j:=j) (by omega) hjl (λi c' hi hc => ?_) ?_ _ _ _ _ ?_
  .rw [hrd,List.getElem?_append_left (by omega)] at hc;exact (dF (Zad hc)).1
  .by_cases c:q.den=1
   .rw [if_pos c] at hlen;exact .inl (by omega)
   .refine .inr ?_;rw [hrd,if_neg c,List.getElem?_append_right (by omega),hj,Zcd];rfl
  rintro _ rfl _;rw [zA,zA,ze.nk,ze.r5_0,ze.zf2,tTo (b:=j) rfl hjl,ht];refine zi7 (by omega) _ _ _ _ ?_;rintro _ rfl _;rw [ze.r5_1,ze.zf3,jF,Zaj];simp only [yJ];by_cases d:q.num<0
  .have e0:(qp q)[0]? = some 45:=by rw [zas d];rfl
   rw [aG (i:=0) (x:=0) rfl e0,vw,show decide (((45:UInt8).toNat:Int)=45)=true from rfl];simp only [yL];rw [ze.r5_2,ze.zlb];simp only [yL];rw [tTo (b:=j) rfl hjl,ht,ziz,Zab (λe=>by have:=zdc e;omega)];simp only [yJ,zZ,zW];exact rest ..
  .obtain ⟨ec,c',e0,hne⟩:=pP d
   have hne2:¬ ((c'.toNat:Int)=45):=λh=>hne (by
    have e:(45:UInt8).toNat=45:=rfl;have:c'.toNat=(45:UInt8).toNat:=by omega
    exact UInt8.toNat_inj.1 this)
   rw [aG (i:=0) (x:=0) rfl e0,vw,Zab hne2];simp only [yZ];rw [ze.r5_2,ze.zlb];simp only [yZ,dM,yJ,zW];exact rest ..
 rw [ze.go,ze.t43,zA,ze.zx,zA,ze.zu,zA,zA,ze.je,rM,qm,Zac (by omega)];simp only [yL];by_cases d:q.num<0
 .have e0:(qp q)[0]? = some 45:=by rw [zas d];rfl
  rw [aG (i:=0) (x:=0) rfl e0,vw];simp only [zZ];rw [show decide (((45:UInt8).toNat:Int)=45)=true from rfl,zB,ze.v7,zD,ze.bq,dL (a:=1) (x:=1) rfl l1];have e:(qp q).drop 1=qp r:=by rw [hr1,zas d];rfl
  rw [e];exact main ..
 .obtain ⟨ec,c',e0,hne⟩:=pP d
  have hne2:¬ ((c'.toNat:Int)=45):=λh=>hne (by
   have e:(45:UInt8).toNat=45:=rfl;have:c'.toNat=(45:UInt8).toNat:=by omega
   exact UInt8.toNat_inj.1 this)
  rw [aG (i:=0) (x:=0) rfl e0,vw];simp only [zZ];rw [Zab hne2,zB,ze.v7,zC,zE,ec,<- hr1];have:=main;rw [<- hr1] at ec;rw [ec] at this;exact this ..
end Go.Ev
namespace Go.Ev
open Go Go.Proofs
def wdg:List Int->(List Bool->Int)->List Bool->Int
 | _::a,w,false::s=>wdg a (λt=>w (false::t)) s
 | x::a,w,true::s=>x*w (false::s)-wdg a (λt=>w (true::t)) s
 | _,_,_=>0
def ctr:List Int->(List Bool->Int)->List Bool->Int
 | x::a,w,false::s=>ctr a (λt=>w (false::t)) s+x*w (true::s)
 | _::a,w,true::s => -ctr a (λt=>w (true::t)) s
 | _,_,_=>0
def ipf:Nat->(List Bool->Int)->(List Bool->Int)->Int
 | 0,v,w=>v []*w []
 | n+1,v,w=>ipf n (λt=>v (false::t)) (λt=>w (false::t))+ipf n (λt=>v (true::t)) (λt=>w (true::t))
def sqV:List Int->Int
 | []=>0
 | x::a=>x*x+sqV a
def dtI:List Int->List Int->Int
 | x::a,y::b=>x*y+dtI a b
 | _,_=>0
theorem kC:∀ n v w,ipf n v w=ipf n w v
 | 0,_,_=>Int.mul_comm ..
 | n+1,v,w=>by rw [ipf,ipf,kC n,kC n (λt=>v (true::t))]
theorem bK (c:Int):∀ n u v w,ipf n u (λs=>c*v s-w s)=c*ipf n u v-ipf n u w
 | 0,_,_,_=>by simp only [ipf];grind
 | n+1,u,v,w=>by
  simp only [ipf];rw [bK c n _ (λt=>v (false::t)) (λt=>w (false::t)),bK c n _ (λt=>v (true::t)) (λt=>w (true::t))];grind
theorem pW (c:Int):∀ n u v w,ipf n (λs=>v s+c*w s) u=ipf n v u+c*ipf n w u
 | 0,_,_,_=>by simp only [ipf];grind
 | n+1,u,v,w=>by
  simp only [ipf];rw [pW c n _ (λt=>v (false::t)) (λt=>w (false::t)),pW c n _ (λt=>v (true::t)) (λt=>w (true::t))];grind
theorem bJ:∀ n u v,ipf n (λs => -v s) u = -ipf n v u
 | 0,_,_=>by simp only [ipf];grind
 | n+1,u,v=>by
  simp only [ipf];rw [bJ n _ (λt=>v (false::t)),bJ n _ (λt=>v (true::t))];grind
theorem zaw:∀ n w,ipf n (λ_=>0) w=0
 | 0,_=>Int.zero_mul _
 | n+1,w=>by rw [ipf,zaw n,zaw n];rfl
theorem wC:∀ n w,0<=ipf n w w
 | 0,w=>by
  rcases Int.le_total 0 (w []) with h | h
  .exact Int.mul_nonneg h h
  .exact Zdt h h
 | n+1,w=>Int.add_nonneg (wC n _) (wC n _)
theorem zi8 (x:Int):0<=x*x:=by
 rcases Int.le_total 0 x with h | h
 .exact Int.mul_nonneg h h
 .exact Zdt h h
theorem zhk:∀ (a:List Int) (v w),ipf a.length v (wdg a w)=ipf a.length (ctr a v) w
 | [],v,w=>by simp only [ipf,wdg,ctr,Zeq];grind
 | x::a,v,w=>by
  show ipf a.length (λt=>v (false::t)) (wdg a λt=>w (false::t))+ipf a.length (λt=>v (true::t)) (λs=>x*w (false::s)-wdg a (λt=>w (true::t)) s)=ipf a.length (λs=>ctr a (λt=>v (false::t)) s+x*v (true::s)) (λt=>w (false::t))+ipf a.length (λs => -ctr a (λt=>v (true::t)) s) (λt=>w (true::t));rw [zhk a,bK x _ _ (λs=>w (false::s)) (λs=>wdg a (λt=>w (true::t)) s),pW x _ _ (λs=>ctr a (λt=>v (false::t)) s) (λs=>v (true::s)),bJ,show (λs=>wdg a (λt=>w (true::t)) s)=wdg a λt=>w (true::t) from rfl,zhk a]
  grind
theorem zax:∀ (a:List Int) w,ipf a.length (wdg a w) (wdg a w)+ipf a.length (ctr a w) (ctr a w)=sqV a*ipf a.length w w
 | [],w=>by simp only [ipf,wdg,ctr,sqV,Zeq];grind
 | x::a,w=>by
  have e1:=zax a λt=>w (false::t);have e2:=zax a λt=>w (true::t);have e3:=zhk a (λt=>w (false::t)) (λt=>w (true::t));show ipf a.length (wdg a λt=>w (false::t)) (wdg a λt=>w (false::t))+ipf a.length (λs=>x*w (false::s)-wdg a (λt=>w (true::t)) s) (λs=>x*w (false::s)-wdg a (λt=>w (true::t)) s)+(ipf a.length (λs=>ctr a (λt=>w (false::t)) s+x*w (true::s)) (λs=>ctr a (λt=>w (false::t)) s+x*w (true::s))+ipf a.length (λs => -ctr a (λt=>w (true::t)) s) (λs => -ctr a (λt=>w (true::t)) s))=(x*x+sqV a)*(ipf a.length (λt=>w (false::t)) (λt=>w (false::t))+ipf a.length (λt=>w (true::t)) (λt=>w (true::t)));have c1:∀ u,ipf a.length u (λs=>x*w (false::s)-wdg a (λt=>w (true::t)) s)=x*ipf a.length u (λs=>w (false::s))-ipf a.length u (wdg a λt=>w (true::t)):=λu=>bK x _ _ (λs=>w (false::s)) (λs=>wdg a (λt=>w (true::t)) s);have c2:∀ u,ipf a.length (λs=>ctr a (λt=>w (false::t)) s+x*w (true::s)) u=ipf a.length (ctr a λt=>w (false::t)) u+x*ipf a.length (λs=>w (true::s)) u:=λu=>pW x _ _ (λs=>ctr a (λt=>w (false::t)) s) (λs=>w (true::s));have c3:∀ u,ipf a.length (λs => -ctr a (λt=>w (true::t)) s) u = -ipf a.length (ctr a λt=>w (true::t)) u:=λu=>bJ ..;rw [c1,kC _ (λs=>x*w (false::s)-wdg a (λt=>w (true::t)) s),c1,kC _ (λs=>x*w (false::s)-wdg a (λt=>w (true::t)) s),c1,c2,c3,kC _ _ (λs => -ctr a (λt=>w (true::t)) s),c3,kC _ _ (λs=>ctr a (λt=>w (false::t)) s+x*w (true::s)),c2,kC _ _ (λs=>ctr a (λt=>w (false::t)) s+x*w (true::s)),c2];rw [kC _ (wdg a λt=>w (true::t)) (λs=>w (false::s)),kC _ (λs=>w (true::s)) (ctr a λt=>w (false::t)),e3]
  grind
theorem zwi (a:List Int) (w):ipf a.length (wdg a w) (wdg a w)<=sqV a*ipf a.length w w:=by
 have:=zax a w;have:=wC a.length (ctr a w);omega
theorem bG (c:Int):∀ (a:List Int) v w s,wdg a (λt=>c*v t-w t) s=c*wdg a v s-wdg a w s
 | [],_,_,_=>by simp only [wdg];grind
 | _::_,_,_,[]=>by simp only [wdg];grind
 | x::a,v,w,false::s=>bG c a (λt=>v (false::t)) (λt=>w (false::t)) s
 | x::a,v,w,true::s=>by
  have:=bG c a (λt=>v (true::t)) (λt=>w (true::t)) s;simp only [wdg] at this ⊢;rw [this];grind
theorem pD:∀ (a b:List Int) w s,a.length=b.length->wdg a (wdg b w) s = -wdg b (wdg a w) s
 | [],[],_,_,_=>by simp only [wdg];rfl
 | _::_,_::_,_,[],_=>by simp only [wdg];rfl
 | x::a,y::b,w,false::s,h=>pD a b (λt=>w (false::t)) s (by simpa using h)
 | x::a,y::b,w,true::s,h=>by
  have ih:=pD a b (λt=>w (true::t)) s (by simpa using h);show x*wdg b (λt=>w (false::t)) s-wdg a (λt=>y*w (false::t)-wdg b (λt=>w (true::t)) t) s = -(y*wdg a (λt=>w (false::t)) s-wdg b (λt=>x*w (false::t)-wdg a (λt=>w (true::t)) t) s);rw [bG y a (λt=>w (false::t)) (wdg b λt=>w (true::t)),bG x b (λt=>w (false::t)) (wdg a λt=>w (true::t)),ih]
  grind
 | [],_::_,_,_,h=>by simp at h
 | _::_,[],_,_,h=>by simp at h
theorem zay:∀ (a:List Int) w s,(∀ t:List Bool,t.length=s.length->w t=0)->wdg a w s=0
 | [],_,_,_=>by simp only [wdg]
 | _::_,_,[],_=>by simp only [wdg]
 | x::a,w,false::s,h=>zay a _ s λt ht=>h _ (by simpa using ht)
 | x::a,w,true::s,h=>by
  simp only [wdg];rw [h (false::s) rfl,zay a _ s λt ht=>h _ (by simpa using ht)];grind
theorem zdf:∀ (a:List Int) w s,wdg a w s≠0->∃ t:List Bool,t.length=s.length/\w t≠0/\t.count true+1=s.count true
 | [],_,_,h=>absurd (by simp only [wdg]) h
 | _::_,_,[],h=>absurd (by simp only [wdg]) h
 | x::a,w,false::s,h=>by
  obtain ⟨t,h1,h2,h3⟩:=zdf a (λt=>w (false::t)) s h;exact ⟨false::t,by simp [h1],h2,by simpa using h3⟩
 | x::a,w,true::s,h=>by
  by_cases c:w (false::s)=0
  .obtain ⟨t,h1,h2,h3⟩:=zdf a (λt=>w (true::t)) s λe=>h (by simp only [wdg];rw [c,e];grind);exact ⟨true::t,by simp [h1],h2,by simpa using h3⟩
  .exact ⟨false::s,rfl,c,by simp⟩
def xvL:List Bool->(List Bool->Int)->List Int
 | [],_=>[]
 | false::s,w=>0::xvL s λt=>w (false::t)
 | true::s,w=>w (false::s)::(xvL s λt=>w (true::t)).map λx => -x
theorem zdg:∀ s w,(xvL s w).length=s.length
 | [],_=>rfl
 | false::s,_=>congrArg (· + 1) (zdg s _)
 | true::s,_=>congrArg (· + 1) (by rw [Zai];exact zdg s _)
theorem zi9:∀ a b:List Int,dtI a (b.map λx => -x) = -dtI a b
 | [],_=>by simp only [dtI];rfl
 | _::_,[]=>rfl
 | x::a,y::b=>by rw [Zds,dtI,dtI,zi9 a b];grind
theorem zja:∀ b:List Int,sqV (b.map λx => -x)=sqV b
 | []=>rfl
 | y::b=>by rw [Zds,sqV,sqV,zja b];grind
theorem zhl:∀ (a:List Int) w s,s.length=a.length->wdg a w s=dtI a (xvL s w)
 | [],_,[],_=>rfl
 | x::a,w,false::s,h=>by
  show wdg a (λt=>w (false::t)) s=x*0+dtI a _;rw [zhl a _ s (by simpa using h)];grind
 | x::a,w,true::s,h=>by
  show x*w (false::s)-wdg a (λt=>w (true::t)) s=x*w (false::s)+dtI a _;rw [zhl a _ s (by simpa using h),zi9];grind
 | [],_,_::_,h=>by simp at h
 | _::_,_,[],h=>by simp at h
theorem zpu:∀ s w,w s*w s<=ipf s.length w w
 | [],_=>Int.le_refl _
 | false::s,w=>by
  have:=zpu s λt=>w (false::t);have:=wC s.length λt=>w (true::t);show _<=ipf s.length (λt=>w (false::t)) (λt=>w (false::t))+ipf s.length (λt=>w (true::t)) (λt=>w (true::t));omega
 | true::s,w=>by
  have:=zpu s λt=>w (true::t);have:=wC s.length λt=>w (false::t);show _<=ipf s.length (λt=>w (false::t)) (λt=>w (false::t))+ipf s.length (λt=>w (true::t)) (λt=>w (true::t));omega
theorem zpv:∀ s w,sqV (xvL s w)<=ipf s.length w w
 | [],w=>wC 0 w
 | false::s,w=>by
  have:=zpv s λt=>w (false::t);have:=wC s.length λt=>w (true::t);show 0*0+sqV (xvL s λt=>w (false::t))<=ipf s.length (λt=>w (false::t)) (λt=>w (false::t))+ipf s.length (λt=>w (true::t)) (λt=>w (true::t));omega
 | true::s,w=>by
  have:=zpv s λt=>w (true::t);have:=zpu s λt=>w (false::t);show w (false::s)*w (false::s)+sqV ((xvL s λt=>w (true::t)).map λx => -x)<=ipf s.length (λt=>w (false::t)) (λt=>w (false::t))+ipf s.length (λt=>w (true::t)) (λt=>w (true::t));rw [zja];omega
theorem zt8:∀ (s:List Bool) w,w s≠0->s.count true<s.length->∃ S:List Bool,S.length=s.length/\∃ j,(xvL S w).getD j 0≠0
 | [],_,_,h=>by simp at h
 | false::s,w,h,_=>⟨true::s,rfl,0,h⟩
 | true::s,w,h,hc=>by
  obtain ⟨S,h1,j,hj⟩:=zt8 s (λt=>w (true::t)) h (by simpa using hc);refine ⟨true::S,by simp [h1],j+1,?_⟩;show ((xvL S λt=>w (true::t)).map λx => -x).getD j 0≠0;rw [Zaa] at hj ⊢;rw [List.getElem?_map];cases e:(xvL S λt=>w (true::t))[j]? with
  | none=>rw [e] at hj;exact absurd rfl hj
  | some y=>rw [e] at hj;show -y≠0;have:y≠0:=hj;omega
def oneF:List Bool->Int
 | []=>1
 | false::s=>oneF s
 | true::_=>0
theorem zjb:∀ n,ipf n oneF oneF=1
 | 0=>rfl
 | n+1=>by
  show ipf n oneF oneF+ipf n (λ_=>0) (λ_=>0)=1;rw [zjb n,zaw];rfl
theorem zjc:∀ n,oneF (List.replicate n false)≠0
 | 0=>by decide
 | n+1=>by rw [Zfr];exact zjc n
theorem zjd:∀ s,oneF s≠0->s.count true<=0
 | [],_=>by simp
 | false::s,h=>by simpa using zjd s h
 | true::_,h=>absurd rfl h
theorem zpw {n:Nat} {B:Int} (hB:1<=B):∀ L:List (List Int),(∀ a∈L,a.length=n/\sqV a<=B)->∃ w:List Bool->Int,(∃ s:List Bool,s.length=n/\w s≠0)/\(∀ s:List Bool,s.length=n->w s≠0->s.count true<=L.length)/\ipf n w w<=B ^ L.length/\∀ a∈L,∀ s:List Bool,s.length=n->wdg a w s=0
 | [],_=>⟨oneF,⟨_,Zav,zjc n⟩,λs _ h=>zjd s h,by rw [zjb];simp,by simp⟩
 | a::L,h=>by
  obtain ⟨w,⟨s0,hs0,hw0⟩,hd,hi,hk⟩:=zpw hB L λb hb=>h b (Zar _ hb);obtain ⟨hal,haB⟩:=h a (Zak ..);have hp:(0:Int)<=B ^ L.length:=Int.pow_nonneg (by omega);have hpow:B ^ (L.length+1)=B*B ^ L.length:=by rw [Int.pow_succ,Int.mul_comm]
  by_cases c:∀ s:List Bool,s.length=n->wdg a w s=0
  .refine ⟨w,⟨s0,hs0,hw0⟩,λs hs e=>Nat.le_succ_of_le (hd s hs e),?_,λb hb => ?_⟩
   .rw [Zba,hpow];have:=Int.mul_le_mul_of_nonneg_right hB hp;omega
   .rcases List.mem_cons.1 hb with rfl | hb
    .exact c
    .exact hk b hb
  .obtain ⟨s1,h1,hw1⟩:∃ s:List Bool,s.length=n/\wdg a w s≠0:=by
    refine Classical.byContradiction λe=>c λs hs=>Classical.byContradiction λq=>e ⟨s,hs,q⟩
   refine ⟨wdg a w,⟨s1,h1,hw1⟩,λs hs e => ?_,?_,λb hb s hs => ?_⟩
   .obtain ⟨t,t1,t2,t3⟩:=zdf a w s e;have:=hd t (by rw [t1];exact hs) t2;rw [Zba];omega
   .rw [Zba,hpow];have e1:=zwi a w;rw [hal] at e1;have e2:=Int.mul_le_mul_of_nonneg_right haB (wC n w);have e3:=Int.mul_le_mul_of_nonneg_left hi (show (0:Int)<=B by omega);omega
   .rcases List.mem_cons.1 hb with rfl | hb
    .have:=pD b b w s rfl;omega
    .rw [pD b a w s (by rw [(h b (Zar _ hb)).1,hal]),zay a _ s λt ht=>hk b hb t (by rw [ht];exact hs)]
     rfl
theorem hada {n:Nat} {B:Int} (hB:1<=B) (L:List (List Int)) (h:∀ a∈L,a.length=n/\sqV a<=B) (hn:L.length<n):∃ x:List Int,x.length=n/\(∃ j,x.getD j 0≠0)/\sqV x<=B ^ L.length/\∀ a∈L,dtI a x=0:=by
 obtain ⟨w,⟨s,hs,hw⟩,hd,hi,hk⟩:=zpw hB L h;obtain ⟨S,hS,hj⟩:=zt8 s w hw (by have:=hd s hs hw;omega);have hSn:S.length=n:=by rw [hS,hs]
 refine ⟨xvL S w,by rw [zdg];exact hSn,hj,?_,λa ha => ?_⟩
 .have:=zpv S w;rw [hSn] at this;omega
 .rw [<- zhl a w S (by rw [hSn,(h a ha).1])];exact hk a ha S hSn
def sI:Nat->(Nat->Int)->Int
 | 0,_=>0
 | k+1,F=>sI k F+F k
theorem zfr (x y:Int):∀ a b:List Int,a.length=b.length->dtI (a++[x]) (b++[y])=dtI a b+x*y
 | [],[],_=>by simp only [Zbv,dtI];omega
 | u::a,v::b,h=>by
  rw [Zbp,Zbp,dtI,dtI,zfr x y a b (by simpa using h)];omega
 | [],_::_,h=>by simp at h
 | _::_,[],h=>by simp at h
theorem zaz (f g:Nat->Int):∀ k,dtI ((List.range k).map f) ((List.range k).map g)=sI k λj=>f j*g j
 | 0=>rfl
 | k+1=>by
  rw [List.range_succ,Zbe,Zbe];show dtI (_++[f k]) (_++[g k])=_;rw [zfr _ _ _ _ (by simp),zaz f g k,sI]
theorem zpx:∀ l:List Int,(∀ x∈l,x = -1\/x=0\/x=1)->sqV l<=(l.length:Int)
 | [],_=>Int.le_refl _
 | x::l,h=>by
  have:=zpx l λy hy=>h y (Zar _ hy);rw [sqV,Zba];rcases h x (Zak ..) with rfl | rfl | rfl <;> omega
theorem zje:∀ l:List Int,0<=sqV l
 | []=>Int.le_refl _
 | x::l=>Int.add_nonneg (zi8 x) (zje l)
theorem zhm:∀ (l:List Int) (j:Nat),l.getD j 0*l.getD j 0<=sqV l
 | [],_=>Int.le_refl _
 | x::l,0=>by
  have:=zje l;show x*x<=x*x+sqV l;omega
 | x::l,j+1=>by
  have:=zhm l j;have:=zi8 x;show l.getD j 0*l.getD j 0<=x*x+sqV l;omega
def HB:Nat:=861979
theorem zr1 (r:Nat) (hr:r<=11) (a:Nat->Nat->Int) (ha:∀ i j,a i j = -1\/a i j=0\/a i j=1):∃ x:Nat->Int,(∃ j,j<=r/\x j≠0)/\(∀ j,(x j).natAbs<=HB)/\∀ i,i<r->sI (r+1) (λj=>a i j*x j)=0:=by
 obtain ⟨x,hx,⟨j,hj⟩,hs,hk⟩:=hada (n:=r+1) (B:=((r+1:Nat):Int)) (by omega) ((List.range r).map λi=>(List.range (r+1)).map (a i)) (λb hb=>by
  obtain ⟨i,_,rfl⟩:=List.mem_map.1 hb;refine ⟨by simp,?_⟩;have:=zpx ((List.range (r+1)).map (a i)) λy hy=>by
   obtain ⟨j,_,rfl⟩:=List.mem_map.1 hy;exact ha i j
  simpa using this) (by simp)
 have hxe:x=(List.range (r+1)).map λj=>x.getD j 0:=by
  refine List.ext_getElem (by simp [hx]) λi h1 h2 => ?_;simp [Zaa,h1]
 refine ⟨λj=>x.getD j 0,⟨j,?_,hj⟩,λj => ?_,λi hi => ?_⟩
 .refine Classical.byContradiction λc=>hj ?_;rw [Zaa,List.getElem?_eq_none (by omega)];rfl
 .have h1:=zhm x j;rw [Zai,Zdm] at hs;have h2:(r+1) ^ r<=12 ^ 11:=Zas (Nat.pow_le_pow_left (show r+1<=12 by omega) r) (Zcr (by decide) hr);have h3:(((r+1:Nat):Int)) ^ r=(((r+1) ^ r:Nat):Int):=by simp
  rw [h3] at hs;have h4:(12:Nat) ^ 11=743008370688:=by decide
  rw [h4] at h2;show (x.getD j 0).natAbs<=861979;refine Zfd λc => ?_;have h5:=Zbg (show 861980<=(x.getD j 0).natAbs from c) (show 861980<=(x.getD j 0).natAbs from c);have h6:=Int.natAbs_mul_self (a:=x.getD j 0);omega
 .have:=hk _ (List.mem_map.2 ⟨i,List.mem_range.2 hi,rfl⟩);rw [hxe,zaz] at this;exact this
def sR:Nat->(Nat->Rat)->Rat
 | 0,_=>0
 | k+1,F=>sR k F+F k
theorem uV {F G:Nat->Rat}:∀ {k:Nat},(∀ j,j<k->F j=G j)->sR k F=sR k G
 | 0,_=>rfl
 | k+1,h=>by rw [sR,sR,uV (k:=k) λj hj=>h j (by omega),h k (by omega)]
theorem vP (F:Nat->Int):∀ k,sR k (λj=>(F j:Rat))=((sI k F:Int):Rat)
 | 0=>rfl
 | k+1=>by rw [sR,sI,vP F k,Zfm]
theorem zhn (x:Nat->Rat) (i:Nat):∀ k,sR k (λb=>(if i=b then 1 else 0)*x b)=if i<k then x i else 0
 | 0=>by rw [if_neg (by omega)];rfl
 | k+1=>by
  rw [sR,zhn x i k];by_cases e:i=k
  .subst e;rw [if_neg (by omega),if_pos rfl,if_pos (by omega)];grind
  .rw [if_neg e];by_cases c:i<k
   .rw [if_pos c,if_pos (by omega)];grind
   .rw [if_neg c,if_neg (by omega)];grind
theorem zfs (y:Rat):∀ (o f:List Rat) (c:Nat),o.length=f.length->c<f.length->dot o (f.set c (at' f c+y))=dot o f+at' o c*y
 | [],[],c,_,h=>by simp at h
 | a::o,b::f,0,_,_=>by
  show dot (a::o) ((b+y)::f)=dot (a::o) (b::f)+a*y;rw [dot,dot];grind
 | a::o,b::f,c+1,h,hc=>by
  have ih:=zfs y o f c (by simpa using h) (by simpa using hc);show dot (a::o) (b::f.set c (at' f c+y))=dot (a::o) (b::f)+at' o c*y;rw [dot,dot,ih];grind
 | [],_::_,_,h,_=>by simp at h
 | _::_,[],_,h,_=>by simp at h
theorem dZ:∀ (o:List Rat) (n:Nat),dot o (List.replicate n 0)=0
 | [],_=>by cases ‹Nat› <;> rfl
 | a::o,0=>rfl
 | a::o,n+1=>by rw [Zfr,dot,dZ o n];grind
def plF (n:Nat) (c:Nat->Nat) (x:Nat->Rat):Nat->List Rat
 | 0=>List.replicate n 0
 | k+1=>(plF n c x k).set (c k) (at' (plF n c x k) (c k)+x k)
theorem qD {n:Nat} {c:Nat->Nat} {x:Nat->Rat}:∀ k,(plF n c x k).length=n
 | 0=>Zav
 | k+1=>by rw [plF,Zbc];exact qD k
theorem xH {n:Nat} {c:Nat->Nat} {x:Nat->Rat} {o:List Rat} (ho:o.length=n):∀ k,(∀ i,i<k->c i<n)->dot o (plF n c x k)=sR k λi=>at' o (c i)*x i
 | 0,_=>dZ ..
 | k+1,h=>by rw [plF,zfs _ _ _ _ (by rw [qD];exact ho) (by rw [qD];exact h k (by omega)),xH ho k λi hi=>h i (by omega),sR]
structure Sv (n:Nat) (O Q:List (List Rat)) (ps:List Nat):Prop where
 len:ps.length=Q.length
 olen:O.length=Q.length
 row:∀ q∈Q,q.length=n
 orow:∀ o∈O,o.length=n
 osg:∀ o∈O,∀ j,Sg (at' o j)
 rng:∀ p∈ps,p<n
 one:∀ a b,a<Q.length->b<Q.length->at' (Q.getD a []) (ps.getD b 0)=if a=b then 1 else 0
 ker:∀ f:List Rat,f.length=n->(∀ o∈O,dot o f=0)->∀ q∈Q,dot q f=0
 tri:∀ a,a<Q.length->∀ b,ps.getD a 0<b->at' (Q.getD a []) b=0
theorem Sv.nil (n:Nat):Sv n [] [] []:=⟨rfl,rfl,by simp,by simp,by simp,by simp,λa b h=>by simp at h,by simp,λa h=>by simp at h⟩
def sgI (q:Rat):Int:=if q = -1 then -1 else if q=1 then 1 else 0
theorem Sg.int {q:Rat} (h:Sg q):(sgI q:Rat)=q:=by
 unfold sgI;rcases h with rfl | rfl | rfl
 .rw [if_pos rfl];rfl
 .rw [if_neg (by decide),if_neg (by decide)];rfl
 .rw [if_neg (by decide),if_pos rfl];rfl
theorem za0 (q:Rat):sgI q = -1\/sgI q=0\/sgI q=1:=by
 unfold sgI;split
 .exact .inl rfl
 .split
  .exact .inr (.inr rfl)
  .exact .inr (.inl rfl)
theorem Sv.col {n:Nat} {O Q:List (List Rat)} {ps:List Nat} (h:Sv n O Q ps) (hQ:Q.length<=11) (j:Nat):∃ t,1<=t/\t<=HB/\∀ q∈Q,Dn t (HB) (at' q j):=by
 rcases Zdl j n with hj | hj
 case inr =>
  refine ⟨1,Zaf _,(by decide:1<=HB),λq hq => ?_⟩;rw [j5 (by rw [h.row q hq];exact hj)];exact Dn.zero _ _
 obtain ⟨c,hc⟩:∃ c:Nat->Nat,c=λi=>if i<Q.length then ps.getD i 0 else j:=⟨_,rfl⟩
 obtain ⟨x,⟨b,hb,hb0⟩,hx,hz⟩:=zr1 Q.length hQ (λi k=>sgI (at' (O.getD i []) (c k))) λi k=>za0 _;have hcn:∀ i,i<Q.length+1->c i<n:=λi _=>by
  rw [hc];show (if i<Q.length then ps.getD i 0 else j)<n;by_cases q:i<Q.length
  .rw [if_pos q];exact h.rng _ (yI (by rw [h.len];exact q))
  .rw [if_neg q];exact hj
 have hk:=h.ker (plF n c (λi=>(x i:Rat)) (Q.length+1)) (qD _) λo ho=>by
  obtain ⟨i,hi⟩:=List.mem_iff_getElem?.1 ho;have hil:=(List.getElem?_eq_some_iff.1 hi).1;have hio:O.getD i []=o:=by rw [Zaa,hi];rfl
  rw [xH (h.orow o ho) _ hcn];have:=hz i (by rw [<- h.olen];exact hil);rw [show (0:Rat)=((0:Int):Rat) from rfl,<- this,<- vP];refine uV λk _ => ?_;rw [hio,Zcm,(h.osg o ho _).int]
 have hrow:∀ i,i<Q.length->(x i:Rat)+at' (Q.getD i []) j*(x Q.length:Rat)=0:=λi hi=>by
  have hm:=yI (l:=Q) (d:=[]) hi;have e:=hk _ hm;rw [xH (h.row _ hm) _ hcn,sR] at e;have e2:sR Q.length (λk=>at' (Q.getD i []) (c k)*(x k:Rat))=(x i:Rat):=by
   rw [uV (G:=λb=>(if i=b then 1 else 0)*(x b:Rat)) λk hk => ?_,zhn (λb=>(x b:Rat)),if_pos hi];have:c k=ps.getD k 0:=by rw [hc];exact if_pos hk
   rw [this,h.one i k hi hk]
  rw [e2,show c Q.length=j by rw [hc];exact if_neg (Zde _)] at e;exact e
 have hxr:x Q.length≠0:=λe=>by
  rcases Zdl b Q.length with q | q
  .have:=hrow b q;rw [e,show ((0:Int):Rat)=0 from rfl,Zbk,Zew] at this;exact wM hb0 this
  .obtain rfl:b=Q.length:=by omega
   exact hb0 e
 refine ⟨(x Q.length).natAbs,by omega,hx _,λq hq => ?_⟩;obtain ⟨i,hi⟩:=List.mem_iff_getElem?.1 hq;have hil:=(List.getElem?_eq_some_iff.1 hi).1;have hqi:Q.getD i []=q:=by rw [Zaa,hi];rfl
 have e:=hrow i hil;rw [hqi] at e;by_cases s:0<x Q.length
 .refine ⟨-x i,?_,by rw [Zei];exact hx i⟩;rw [show (((x Q.length).natAbs:Nat):Int)=x Q.length by omega,Zbw];grind
 .refine ⟨x i,?_,hx i⟩;rw [show (((x Q.length).natAbs:Nat):Int) = -x Q.length by omega,Zbw];grind
theorem Sv.den {n:Nat} {O Q:List (List Rat)} {ps:List Nat} (h:Sv n O Q ps) (hQ:Q.length<=11):∃ t:Nat->Nat,(∀ j,1<=t j/\t j<=HB)/\∀ q∈Q,∀ j,Dn (t j) (HB) (at' q j) :=
 ⟨λj=>Classical.choose (h.col hQ j),λj=>⟨(Classical.choose_spec (h.col hQ j)).1,(Classical.choose_spec (h.col hQ j)).2.1⟩,λq hq j=>(Classical.choose_spec (h.col hQ j)).2.2 q hq⟩
structure Rvq (n:Nat) (t:Nat->Nat) (M:Nat) (Q:List (List Rat)) (ps:List Nat) (r0:List Rat) (k:Nat) (r:List Rat):Prop where
 eq:r=sH ((nU Q ps).take k) r0
 len:r.length=n
 den:∀ j,Dn (t j) (M+k*M) (at' r j)
 late:∀ b,k<=b->b<Q.length->at' r (ps.getD b 0)=at' r0 (ps.getD b 0)
 done:∀ b,b<k->b<Q.length->at' r (ps.getD b 0)=0
theorem Rvq.zero {n M:Nat} {t:Nat->Nat} {Q:List (List Rat)} {ps:List Nat} {r0:List Rat} (ht:∀ j,t j<=M) (hl:r0.length=n) (hs:∀ j,Sg (at' r0 j)):Rvq n t M Q ps r0 0 r0 :=
 ⟨rfl,hl,λj=>(hs j).dn (by have:=ht j;omega),λb _ _=>rfl,λb h=>by omega⟩
theorem Rvq.next {n M k:Nat} {t:Nat->Nat} {O Q:List (List Rat)} {ps:List Nat} {r0 r:List Rat} (hS:Sv n O Q ps) (hd:∀ q∈Q,∀ j,Dn (t j) M (at' q j)) (hs:∀ j,Sg (at' r0 j)) (h:Rvq n t M Q ps r0 k r) (hk:k<Q.length):Rvq n t M Q ps r0 (k+1) (jU (at' r (ps.getD k 0)) r (Q.getD k [])):=by
 have hq:=yI (d:=[]) hk;have hql:=hS.row _ hq;have hll:r.length=(Q.getD k []).length:=by rw [h.len,hql]
 have hb:Sg (at' r (ps.getD k 0)):=by rw [h.late k (Zaf _) hk];exact hs _
 refine ⟨by rw [uA hS.len hk,gS,<- h.eq],by rw [jZ hll];exact h.len,λj => ?_,λb h1 h2 => ?_,λb h1 h2 => ?_⟩
 .rw [jD hll];have:=(h.den j).sub (hb.mul (hd _ hq j));exact this.mono (by rw [Zaz];omega)
 .rw [jD hll,hS.one k b hk h2,if_neg (by omega),Zbk,h.late b (by omega) h2];grind
 .rw [jD hll,hS.one k b hk h2];by_cases e:b=k
  .subst e;rw [if_pos rfl,Rat.mul_one];grind
  .rw [if_neg (by omega),Zbk,h.done b (by omega) h2];grind
theorem zr2 {t N:Nat} {v:Rat} (ht:1<=t) (hv:v≠0) (h:Dn t N v):∃ z:Nat,1<=z/\z<=N/\Dn z t v⁻¹/\∀ {s R:Nat} {x:Rat},Dn s R x->Dn (s*z) (R*t) (x*v⁻¹):=by
 obtain ⟨z,h1,h2,h3,_⟩:=zwh ht hv h;exact ⟨z,h1,h2,h3,λhx=>hx.mul h3⟩
structure Nv (n:Nat) (Q:List (List Rat)) (ps:List Nat) (p:Nat) (r:List Rat):Prop where
 len:r.length=n
 one:at' r p=1
 out:∀ b,b<Q.length->at' r (ps.getD b 0)=0
 p1:p<n
 tri:∀ b,p<b->at' r b=0
theorem Sv.next {n p:Nat} {O Q:List (List Rat)} {ps:List Nat} {r r0:List Rat} (hS:Sv n O Q ps) (h:Nv n Q ps p r) (hl0:r0.length=n) (hs0:∀ j,Sg (at' r0 j)) (hk:∀ f:List Rat,f.length=n->(∀ q∈Q,dot q f=0)->dot r0 f=0->dot r f=0):Sv n (O++[r0]) (uQ Q p r++[r]) (ps++[p]):=by
 have hnl:(uQ Q p r).length=Q.length:=by unfold uQ;rw [Zai]
 refine ⟨by rw [Zae,Zae,hnl,hS.len];rfl,by rw [Zae,Zae,hnl,hS.olen];rfl,λq hq => ?_,λo ho => ?_,λo ho => ?_,λx hx => ?_,λa b ha hb => ?_,λf hf ho q hq => ?_,λa ha b hb => ?_⟩
 .rcases List.mem_append.1 hq with hq | hq
  .obtain ⟨o,ho,rfl⟩:=List.mem_map.1 hq;rw [jZ (by rw [hS.row o ho,h.len])];exact hS.row o ho
  .obtain rfl:=List.mem_singleton.1 hq;exact h.len
 .rcases List.mem_append.1 ho with ho | ho
  .exact hS.orow o ho
  .obtain rfl:=List.mem_singleton.1 ho;exact hl0
 .rcases List.mem_append.1 ho with ho | ho
  .exact hS.osg o ho
  .obtain rfl:=List.mem_singleton.1 ho;exact hs0
 .rcases List.mem_append.1 hx with hx | hx
  .exact hS.rng x hx
  .obtain rfl:=List.mem_singleton.1 hx;exact h.p1
 .rw [Zae,hnl,Zbf] at ha hb;have eb:(ps++[p]).getD b 0=if b<Q.length then ps.getD b 0 else p:=by
   by_cases c:b<Q.length
   .rw [if_pos c,Zaa,List.getElem?_append_left (by rw [hS.len];exact c),<- Zaa]
   .rw [if_neg c,Zaa,List.getElem?_append_right (by rw [hS.len];omega),hS.len,show b-Q.length=0 by omega];rfl
  have ea:(uQ Q p r++[r]).getD a []=if a<Q.length then jU (at' (Q.getD a []) p) (Q.getD a []) r else r:=by
   by_cases c:a<Q.length
   .rw [if_pos c,Zaa,List.getElem?_append_left (by rw [hnl];exact c),uQ,List.getElem?_map,gN (d:=[]) c];rfl
   .rw [if_neg c,Zaa,List.getElem?_append_right (by rw [hnl];omega),hnl,show a-Q.length=0 by omega];rfl
  rw [ea,eb];by_cases c1:a<Q.length
  .have hl:(Q.getD a []).length=r.length:=by rw [hS.row _ (yI c1),h.len]
   rw [if_pos c1,jD hl];by_cases c2:b<Q.length
   .rw [if_pos c2,h.out b c2,hS.one a b c1 c2,Zbk];grind
   .rw [if_neg c2,h.one,if_neg (by omega)];grind
  .rw [if_neg c1];by_cases c2:b<Q.length
   .rw [if_pos c2,h.out b c2,if_neg (by omega)]
   .rw [if_neg c2,h.one,if_pos (by omega)]
 .have hQ:=hS.ker f hf λo h1=>ho o (Zco _ h1);have hr:=hk f hf hQ (ho r0 (by simp));rcases List.mem_append.1 hq with hq | hq
  .obtain ⟨o,h1,rfl⟩:=List.mem_map.1 hq;rw [uK _ _ _ _ (by rw [hS.row o h1,h.len]),hQ o h1,hr,Zbk];grind
  .obtain rfl:=List.mem_singleton.1 hq;exact hr
 .rw [Zae,hnl,Zbf] at ha;by_cases c1:a<Q.length
  .have eb:(ps++[p]).getD a 0=ps.getD a 0:=by
    rw [Zaa,List.getElem?_append_left (by rw [hS.len];exact c1),<- Zaa]
   have ea:(uQ Q p r++[r]).getD a []=jU (at' (Q.getD a []) p) (Q.getD a []) r:=by
    rw [Zaa,List.getElem?_append_left (by rw [hnl];exact c1),uQ,List.getElem?_map,gN (d:=[]) c1];rfl
   rw [eb] at hb;have hl:(Q.getD a []).length=r.length:=by rw [hS.row _ (yI c1),h.len]
   rw [ea,jD hl,hS.tri a c1 b hb];by_cases c2:p<b
   .rw [h.tri b c2,Zbk];grind
   .rw [hS.tri a c1 p (by omega),Zcs];grind
  .obtain rfl:a=Q.length:=by omega
   have eb:(ps++[p]).getD Q.length 0=p:=by
    rw [Zaa,List.getElem?_append_right (by rw [hS.len];exact Zaf _),hS.len,Zcd];rfl
   have ea:(uQ Q p r++[r]).getD Q.length []=r:=by
    rw [Zaa,List.getElem?_append_right (by rw [hnl];exact Zaf _),hnl,Zcd];rfl
   rw [eb] at hb;rw [ea];exact h.tri b hb
theorem nZ {B:Nat}:mK Tryz.prog B Prop:=oO mixed
variable {B:Nat}
theorem zho {a b:List Int} (ha:a.length<=1000000000):Pure Tryz.prog B 49 [encI a,encI b] (· = .bool (decide (a=b))):=by
 intro p h nx K hK;refine zM zO nZ (a.length+2) λhf => ?_;rw [F49.go];simp (disch:=omega) only [gq,wz,fE,vw,di,ji,fO,qm,pz,zZ,zW,zD,zC,yL,yJ,j6,yZ,jF,jK,jJ,gG,jY,jQ,jX,zV,yW,yK,zF,decide_true,decide_false,Zaj,Zao,jR];by_cases hl:a.length=b.length
 .simp only [hl,decide_true,Zaj,zC];refine F49.L2 (λm z3 h' nx'=>∃ i:Nat,z3=I i/\m=a.length-i/\i<=a.length/\h'=h/\nx'=nx/\a.take i=b.take i) (m:=a.length) (by omega) ⟨0,rfl,by simp,by omega,rfl,rfl,by simp⟩ ?_;rintro m z2 z3 z5 z6 _ _ R ⟨i,rfl,rfl,hi,rfl,rfl,htk⟩ hR;simp (disch:=omega) only [gq,wz,fE,vw,di,ji,fO,qm,pz,zZ,zW,zD,zC,yL,yJ,j6,yZ,jF,jK,jJ,gG,jY,jQ,jX,zV,yW,yK,zF,decide_true,decide_false,Zaj,Zao,jR];by_cases hlt:i<a.length
  .have h1:(i:Int)<a.length:=by omega
   have hb:i<b.length:=by omega
   simp only [h1,decide_true,zD];rw [bR rfl hlt,ldL (sV (List.getElem?_eq_getElem hlt)),bR rfl hb,ldL (sV (List.getElem?_eq_getElem hb))];simp (disch:=omega) only [gq,wz,fE,vw,di,ji,fO,qm,pz,zZ,zW,zD,zC,yL,yJ,j6,yZ,jF,jK,jJ,gG,jY,jQ,jX,zV,yW,yK,zF,decide_true,decide_false,Zaj,Zao,jR];by_cases he:a[i]=b[i]
   .simp only [he,decide_true,Zaj,zC];refine hR (a.length-(i+1)) _ _ _ _ _ _ (by omega) ⟨i+1,rfl,rfl,by omega,rfl,rfl,?_⟩;rw [Zau,Zau,htk,List.getElem?_eq_getElem hlt,List.getElem?_eq_getElem hb,he]
   .simp only [he,decide_false,Zao,zD];refine hK _ ?_ hf;rw [Zab];rintro rfl;exact he rfl
  .have h1:¬ (i:Int)<a.length:=by omega
   simp only [h1,decide_false,zC];rw [F49.k9];refine hK _ ?_ hf;rw [Zap (by omega),Zap (by omega)] at htk;rw [Zac htk]
 .have h1:¬ (a.length:Int)=b.length:=by omega
  simp only [h1,decide_false,Zao,zD];refine hK _ ?_ hf;rw [Zab];rintro rfl;exact hl rfl
end Go.Ev
namespace Go.Ev
open Go Go.Proofs
variable {B:Nat}
theorem pC (b:Bool) (e:Int):Pure Tryz.prog B 88 [.bool b,I e] (· = I (if b then e else 0)):=by
 intro p h nx K hK;refine zM zO nZ 9 λhf => ?_;rw [F88.go];cases b <;> simp (disch:=omega) only [gq,wz,fE,vw,di,ji,fO,qm,pz,zZ,zW,zD,zC,yL,yJ,j6,yZ,jF,jK,jJ,gG,jY,jQ,jX,zV,yW,yK,zF,decide_true,decide_false,Zaj,Zao,jR] <;> exact hK _ rfl hf
def qB:List Int->Int
 | []=>0
 | e::l=>if e≠0 then e else qB l
theorem vD:∀ (l:List Int) (i:Nat),(∀ e∈l.take i,e=0)->qB l=qB (l.drop i)
 | l,0,_=>rfl
 | [],_+1,_=>rfl
 | e::l,i+1,h=>by
  have h0:e=0:=h e (by simp);rw [qB,if_neg (by simp [h0]),List.drop_succ_cons];exact vD l i λx hx=>h x (by simp [hx])
theorem zft {l:List Int} (hl:l.length<=1000000):Pure Tryz.prog B 86 [encI l] (· = I (qB l)):=by
 intro p h nx K hK;refine zM zO nZ 10000000 λhf => ?_;rw [F86.go];simp (disch:=omega) only [gq,wz,fE,vw,di,ji,fO,qm,pz,zZ,zW,zD,zC,yL,yJ,j6,yZ,jF,jK,jJ,gG,jY,jQ,jX,zV,yW,yK,zF,decide_true,decide_false,Zaj,Zao,jR];refine F86.L1 (λm z5 h' nx'=>∃ i:Nat,z5=I i/\l.length-i=m/\i<=l.length/\h'=h/\nx'=nx/\∀ e∈l.take i,e=0) (m:=l.length) (by omega) ⟨0,rfl,rfl,by omega,rfl,rfl,by simp⟩ ?_;rintro m z1 z2 z5 z6 z7 _ _ R ⟨i,rfl,rfl,hi,rfl,rfl,htk⟩ hR;simp (disch:=omega) only [gq,wz,fE,vw,di,ji,fO,qm,pz,zZ,zW,zD,zC,yL,yJ,j6,yZ,jF,jK,jJ,gG,jY,jQ,jX,zV,yW,yK,zF,decide_true,decide_false,Zaj,Zao,jR];by_cases hlt:i<l.length
 .simp only [show (i:Int)<(l.length:Int) by omega,decide_true,zD];have hx:l[i]? = some l[i]:=List.getElem?_eq_getElem hlt;rw [bR rfl hlt,ldL (sV hx)];simp (disch:=omega) only [gq,wz,fE,vw,di,ji,fO,qm,pz,zZ,zW,zD,zC,yL,yJ,j6,yZ,jF,jK,jJ,gG,jY,jQ,jX,zV,yW,yK,zF,decide_true,decide_false,Zaj,Zao,jR];have hd:l.drop i=l[i]::l.drop (i+1):=Zbl hlt;by_cases h0:l[i]=0
  .simp only [h0,decide_true,Zaj,zC];refine hR _ _ _ _ _ _ _ _ (by omega) ⟨i+1,rfl,rfl,by omega,rfl,rfl,λe he => ?_⟩;rw [Zau,hx] at he;rcases List.mem_append.1 he with q | q
   .exact htk e q
   .simp at q;rw [q];exact h0
  .simp only [h0,decide_false,Zao,zD];refine hK _ ?_ hf;rw [vD l i htk,hd,qB,if_pos h0]
 .simp only [show ¬ (i:Int)<(l.length:Int) by omega,decide_false,zC];rw [F86.k8];refine hK _ ?_ hf;rw [vD l i htk,Zby (by omega)];rfl
theorem zpy {a b:List Int} (ha:a.length<=1000000000):Pure Tryz.prog B 177 [encI a,encI b] (· = .bool (decide (a=b))):=by
 intro p h nx K hK;refine zM zO nZ (a.length+2) λhf => ?_;rw [qz.go];simp (disch:=omega) only [gq,wz,fE,vw,di,ji,fO,qm,pz,zZ,zW,zD,zC,yL,yJ,j6,yZ,jF,jK,jJ,gG,jY,jQ,jX,zV,yW,yK,zF,decide_true,decide_false,Zaj,Zao,jR];by_cases hl:a.length=b.length
 .simp only [hl,decide_true,Zaj,zC];refine qz.L2 (λm z6 h' nx'=>∃ i:Nat,z6=I i/\a.length-i=m/\i<=a.length/\h'=h/\nx'=nx/\a.take i=b.take i) (m:=a.length) (by omega) ⟨0,rfl,by simp,by omega,rfl,rfl,by simp⟩ ?_;rintro m z2 z3 z6 z7 z8 _ _ R ⟨i,rfl,rfl,hi,rfl,rfl,htk⟩ hR;simp (disch:=omega) only [gq,wz,fE,vw,di,ji,fO,qm,pz,zZ,zW,zD,zC,yL,yJ,j6,yZ,jF,jK,jJ,gG,jY,jQ,jX,zV,yW,yK,zF,decide_true,decide_false,Zaj,Zao,jR];by_cases hlt:i<a.length
  .have hb:i<b.length:=by omega
   simp only [show (i:Int)<(b.length:Int) by omega,decide_true,zD];rw [bR rfl hlt,ldL (sV (List.getElem?_eq_getElem hlt)),bR rfl hb,ldL (sV (List.getElem?_eq_getElem hb))];simp (disch:=omega) only [gq,wz,fE,vw,di,ji,fO,qm,pz,zZ,zW,zD,zC,yL,yJ,j6,yZ,jF,jK,jJ,gG,jY,jQ,jX,zV,yW,yK,zF,decide_true,decide_false,Zaj,Zao,jR];by_cases he:a[i]=b[i]
   .simp only [he,decide_true,Zaj,zC];refine hR (a.length-(i+1)) _ _ _ _ _ _ _ (by omega) ⟨i+1,rfl,rfl,by omega,rfl,rfl,?_⟩;rw [Zau,Zau,htk,List.getElem?_eq_getElem hlt,List.getElem?_eq_getElem hb,he]
   .simp only [he,decide_false,Zao,zD];refine hK _ ?_ hf;rw [Zab];rintro rfl;exact he rfl
  .simp only [show ¬ (i:Int)<(b.length:Int) by omega,decide_false,zC];rw [qz.k9];refine hK _ ?_ hf;rw [Zap (by omega),Zap (by omega)] at htk;rw [Zac htk]
 .have h1:¬ (a.length:Int)=b.length:=by omega
  simp only [h1,decide_false,Zao,zD];refine hK _ ?_ hf;rw [Zab];rintro rfl;exact hl rfl
theorem zfu {h0 h:T Blk} {nx:Pa} {L:List Ob} {k:Nat} {x p:Pa} {l:List Int} {prev:List (List Int)} {K:Kw Prop} (H:Hp h0 h nx L) (hk:L[k]? = some (.arr x [encI l])) (hp:prev.length<=1000000) (hw:∀ q∈prev,q.length<=1000000)
  (hK:K (.bool (decide (l∈prev))) h nx=.ok True):(CS Tryz.prog B).fn 175 p [wu prev,.fn 176 (.of 176) [.ptr x 0]] h nx K=.ok True:=by
 refine u6 (p:=.of 175) (K:=K) (zM zO nZ 9 λhf => ?_) λ_ _ _ _ q=>q;rw [tF.go];refine u6 (p:=.of 245) (K:=λv1 h2 n3=>za .geq .int v1 (I 0) λv4=>K v4 h2 n3) (zM zO nZ 10000000 λhf => ?_) λ_ _ _ _ q=>q;rw [qy.go];simp (disch:=omega) only [gq,wz,fE,vw,di,ji,fO,qm,pz,zZ,zW,zD,zC,yL,yJ,j6,yZ,jF,jK,jJ,gG,jY,jQ,jX,zV,yW,yK,zF,decide_true,decide_false,Zaj,Zao,jR];refine qy.L1 (λm z5 h' nx'=>∃ i:Nat,z5=I i/\prev.length-i=m/\i<=prev.length/\h'=h/\nx'=nx/\l∉prev.take i) (m:=prev.length) (by omega) ⟨0,rfl,rfl,by omega,rfl,rfl,by simp⟩ ?_;rintro m z2 z3 z5 z6 z7 _ _ R ⟨i,rfl,rfl,hi,rfl,rfl,htk⟩ hR;simp (disch:=omega) only [gq,wz,fE,vw,di,ji,fO,qm,pz,zZ,zW,zD,zC,yL,yJ,j6,yZ,jF,jK,jJ,gG,jY,jQ,jX,zV,yW,yK,zF,decide_true,decide_false,Zaj,Zao,jR];by_cases hlt:i<prev.length
 .simp only [show (i:Int)<(prev.length:Int) by omega,decide_true,zD];have hx:prev[i]? = some prev[i]:=List.getElem?_eq_getElem hlt;rw [bR rfl hlt,ldL (getT hx),pI];refine u6 (p:=.of 176) (zM zO nZ 9 λhf => ?_) λ_ _ _ _ q=>q;show zQ tbl 9 _ (Pa.of 176) [encI prev[i],.ptr x 0] _ _ _=_;rw [tC.go,H.load (k:=k) (i:=0) hk rfl];refine zpy (Zas (hw _ (Zbb hlt)) (by omega)) _ _ _ _ ?_;rintro _ rfl _;by_cases he:prev[i]=l
  .simp only [he,decide_true,zD,pz,show (0:Int)<=(i:Int) by omega];rw [Zac (he ▸ Zbb hlt)] at hK;exact hK
  .simp only [he,decide_false,zC];refine hR _ _ _ _ _ _ _ _ (by omega) ⟨i+1,rfl,rfl,by omega,rfl,rfl,λq => ?_⟩;rw [Zau,hx] at q;rcases List.mem_append.1 q with q | q
   .exact htk q
   .simp at q;exact he q.symm
 .simp only [show ¬ (i:Int)<(prev.length:Int) by omega,decide_false,zC];rw [qy.k8];rw [Zap (by omega)] at htk;rw [Zab htk] at hK;simp only [pz,show ¬ (0:Int) <= -1 by omega,decide_false];exact hK
def yX (cells:Int):Option Int->List Int->Int
 | _,[]=>0
 | p,c::l=>if c<0\/cells<=c then 10 else if p.any (λq=>decide (c<=q)) then 11 else yX cells (some c) l
def jN (cells:Int) (prev:List (List Int)) (l:List Int):Int:=if l=[] then 12 else if yX cells none l≠0 then yX cells none l else if l∈prev then 9 else 0
def uB (cells:Int):List (List Int)->List (List Int)->Int
 | _,[]=>0
 | prev,l::r=>if jN cells prev l≠0 then jN cells prev l else uB cells (prev++[l]) r
def gA (cells:Int) (lines:List (List Int)):Int:=if cells<1\/256<cells then 3 else if 128<lines.length then 5 else uB cells [] lines
def pv (l:List Int) (k:Nat):Option Int:=if k=0 then none else l[k-1]?
theorem pR {l:List Int} {k:Nat} (h:k<l.length):pv l (k+1)=some l[k]:=by simp [pv,h]
theorem zr3 {cells a b:Int} {lines:List (List Int)} (hb:b<=1000000):Pure Tryz.prog B 16 [.agg [I cells,wu lines],I a,I b] (· = .bool (decide ((lines.length:Int)<=b/\∀ l∈lines,(l.length:Int)<=a))):=by
 refine zX λh nx K H0 hK=>zM zO nZ 10000000 λhf => ?_;rw [F16.go];refine H0.box (l:=[I cells,wu lines]) rfl λbx h1 nx1 H1 => ?_;rw [sFx,H1.load (k:=0) (i:=0+1) rfl rfl];simp (disch:=omega) only [gq,wz,fE,vw,di,ji,fO,qm,pz,zZ,zW,zD,zC,yL,yJ,j6,yZ,jF,jK,jJ,gG,jY,jQ,jX,zV,yW,yK,zF,decide_true,decide_false,Zaj,Zao,jR];have ret:∀ v:Bool,v=decide ((lines.length:Int)<=b/\∀ l∈lines,(l.length:Int)<=a)->K (.bool v) h1 nx1=.ok True:=λv hv=>by rw [hv];exact hK _ _ _ _ _ H1 (zY rfl) rfl
 by_cases hlen:b<(lines.length:Int)
 .simp only [hlen,decide_true,zD];refine ret _ ?_;rw [Zab];rintro ⟨q,_⟩;omega
 simp only [hlen,decide_false,zC];refine F16.L2 (λm z5 h' nx'=>∃ i:Nat,z5=I i/\lines.length-i=m/\i<=lines.length/\h'=h1/\nx'=nx1/\∀ l∈lines.take i,(l.length:Int)<=a) (m:=lines.length) (by omega) ⟨0,rfl,rfl,by omega,rfl,rfl,by simp⟩ ?_;rintro m z4 z5 z7 z8 _ _ R ⟨i,rfl,rfl,hi,rfl,rfl,htk⟩ hR;rw [sFx,H1.load (k:=0) (i:=0+1) rfl rfl];simp (disch:=omega) only [gq,wz,fE,vw,di,ji,fO,qm,pz,zZ,zW,zD,zC,yL,yJ,j6,yZ,jF,jK,jJ,gG,jY,jQ,jX,zV,yW,yK,zF,decide_true,decide_false,Zaj,Zao,jR];by_cases hlt:i<lines.length
 .simp only [show (i:Int)<(lines.length:Int) by omega,decide_true,zD];have hx:lines[i]? = some lines[i]:=List.getElem?_eq_getElem hlt;rw [sFx,H1.load (k:=0) (i:=0+1) rfl rfl,bR rfl hlt,ldL (getT hx)];simp (disch:=omega) only [gq,wz,fE,vw,di,ji,fO,qm,pz,zZ,zW,zD,zC,yL,yJ,j6,yZ,jF,jK,jJ,gG,jY,jQ,jX,zV,yW,yK,zF,decide_true,decide_false,Zaj,Zao,jR];by_cases hw:a<(lines[i].length:Int)
  .simp only [hw,decide_true,zD];refine ret _ ?_;rw [Zab];rintro ⟨_,q⟩;have:=q _ (Zbb hlt);omega
  .simp only [hw,decide_false,zC];refine hR _ _ _ _ _ _ _ (by omega) ⟨i+1,rfl,rfl,by omega,rfl,rfl,λl hl => ?_⟩;rw [Zau,hx] at hl;rcases List.mem_append.1 hl with q | q
   .exact htk l q
   .simp at q;rw [q];omega
 .simp only [show ¬ (i:Int)<(lines.length:Int) by omega,decide_false,zC];rw [F16.k9];rw [Zap (by omega)] at htk;refine ret _ ?_;rw [Zac ⟨by omega,htk⟩]
theorem zkt {prev:List (List Int)} {l:List Int} (hp:prev.length<=1000000) (hw:∀ q∈prev,q.length<=1000000000):Pure Tryz.prog B 90 [wu prev,encI l] (· = .bool (decide (l∈prev))):=by
 intro p h nx K hK;refine zM zO nZ 10000000 λhf => ?_;rw [F90.go];refine F90.L1 (λm z3 h' nx'=>∃ i:Nat,z3=I i/\prev.length-i=m/\i<=prev.length/\h'=h/\nx'=nx/\l∉prev.take i) (m:=prev.length) (by omega) ⟨0,rfl,rfl,by omega,rfl,rfl,by simp⟩ ?_;rintro m z2 z3 z4 z5 _ _ R ⟨i,rfl,rfl,hi,rfl,rfl,htk⟩ hR;simp (disch:=omega) only [gq,wz,fE,vw,di,ji,fO,qm,pz,zZ,zW,zD,zC,yL,yJ,j6,yZ,jF,jK,jJ,gG,jY,jQ,jX,zV,yW,yK,zF,decide_true,decide_false,Zaj,Zao,jR];by_cases hlt:i<prev.length
 .simp only [show (i:Int)<(prev.length:Int) by omega,decide_true,zD];have hx:prev[i]? = some prev[i]:=List.getElem?_eq_getElem hlt;rw [bR rfl hlt,ldL (getT hx)];refine zho (hw _ (Zbb hlt)) _ _ _ _ ?_;rintro _ rfl _;by_cases he:prev[i]=l
  .simp only [he,decide_true,zD];refine hK _ ?_ hf;rw [Zac (he ▸ Zbb hlt)]
  .simp only [he,decide_false,zC];refine hR _ _ _ _ _ _ _ (by omega) ⟨i+1,rfl,rfl,by omega,rfl,rfl,λq => ?_⟩;rw [Zau,hx] at q;rcases List.mem_append.1 q with q | q
   .exact htk q
   .simp at q;exact he q.symm
 .simp only [show ¬ (i:Int)<(prev.length:Int) by omega,decide_false,zC];rw [F90.k8];rw [Zap (by omega)] at htk;refine hK _ ?_ hf;rw [Zab htk]
theorem zjf {n i:Nat} {l:List AV} {op:AV->OP} (hn:1<=n) (hi:i<=n):xS 1 (.lst 1 n l) none (some (I (i:Int))) none op=op (.lst 1 i (l.take i)):=by
 show (bif Nat.beq 1 1&&Nat.ble 1 n then (match bnd (some (I (i:Int))) n n with | none=>Out.no 17 | some h=>match bnd none h 0 with | none=>.no 17 | some q=>op (.lst 1 (h-q) ((l.drop (q*1)).take ((h-q)*1)))) else .no 17)=_;rw [Zag hn];have:bnd (some (I (i:Int))) n n=some i:=by
  show (bif Nat.ble i n then some i else none)=_;rw [Zag hi];rfl
 rw [this];show op (.lst 1 (i-0) ((l.drop (0*1)).take ((i-0)*1)))=_;simp
theorem zpz {cells:Int} {lines:List (List Int)} (hw:∀ q∈lines,q.length<=1000000):Pure Tryz.prog B 19 [.agg [I cells,wu lines]] (· = I (gA cells lines)):=by
 refine zX λh nx K H0 hK=>zM zO nZ 10000000 λhf => ?_;rw [F19.go];refine H0.box (l:=[I cells,wu lines]) rfl λbx h1 nx1 H1 => ?_;rw [sFx,H1.load (k:=0) (i:=0) rfl rfl];have ret:∀ v:Int,v=gA cells lines->K (I v) h1 nx1=.ok True:=λv hv=>by rw [hv];exact hK _ _ _ _ _ H1 (zY rfl) rfl
 by_cases hc:cells<1\/256<cells
 .have hv:(3:Int)=gA cells lines:=by rw [gA,if_pos hc]
  by_cases c1:cells<1
  .simp only [ji,c1,decide_true,j6,zZ,zD];exact ret 3 hv
  .simp only [ji,c1,decide_false,yJ];rw [sFx,H1.load (k:=0) (i:=0) rfl rfl];simp only [qm,show (256:Int)<cells by omega,decide_true,zW,zD];exact ret 3 hv
 simp only [ji,show ¬ cells<1 by omega,decide_false,yJ];rw [sFx,H1.load (k:=0) (i:=0) rfl rfl];simp only [qm,show ¬ (256:Int)<cells by omega,decide_false,zW,zC];rw [sFx,H1.load (k:=0) (i:=0+1) rfl rfl];simp (disch:=omega) only [gq,wz,fE,vw,di,ji,fO,qm,pz,zZ,zW,zD,zC,yL,yJ,j6,yZ,jF,jK,jJ,gG,jY,jQ,jX,zV,yW,yK,zF,decide_true,decide_false,Zaj,Zao,jR];by_cases hm:128<lines.length
 .simp only [show (128:Int)<(lines.length:Int) by omega,decide_true,zD];exact ret 5 (by rw [gA,if_neg hc,if_pos hm])
 simp only [show ¬ (128:Int)<(lines.length:Int) by omega,decide_false,zC];have hs:gA cells lines=uB cells [] lines:=by rw [gA,if_neg hc,if_neg hm]
 refine F19.L3 (λm z3 h' nx'=>∃ i:Nat,z3=I i/\lines.length-i=m/\i<=lines.length/\h'=h1/\nx'=nx1/\gA cells lines=uB cells (lines.take i) (lines.drop i)) (m:=lines.length) (by omega) ⟨0,rfl,rfl,by omega,rfl,rfl,by simpa using hs⟩ ?_;rintro m z2 z3 z4 z5 z8 z9 z10 z11 z12 z13 h1 nx1 R ⟨i,rfl,rfl,hi,rfl,rfl,he⟩ hR;rw [sFx,H1.load (k:=0) (i:=0+1) rfl rfl];simp (disch:=omega) only [gq,wz,fE,vw,di,ji,fO,qm,pz,zZ,zW,zD,zC,yL,yJ,j6,yZ,jF,jK,jJ,gG,jY,jQ,jX,zV,yW,yK,zF,decide_true,decide_false,Zaj,Zao,jR];by_cases hlt:i<lines.length
 case neg =>
  simp only [show ¬ (i:Int)<(lines.length:Int) by omega,decide_false,zC];rw [F19.k20];exact ret 0 (by rw [he,Zby (by omega)];rfl)
 simp only [show (i:Int)<(lines.length:Int) by omega,decide_true,zD];obtain ⟨l,hx⟩:∃ l,lines[i]? = some l:=⟨_,List.getElem?_eq_getElem hlt⟩;have hmem:=Zad hx;have hd:lines.drop i=l::lines.drop (i+1):=by
  rw [Zbl hlt];rw [List.getElem?_eq_getElem hlt] at hx;rw [Option.some.inj hx]
 have htake:lines.take (i+1)=lines.take i++[l]:=by rw [Zau,hx];rfl
 rw [sFx,H1.load (k:=0) (i:=0+1) rfl rfl,bR rfl hlt,ldL (getT hx)];simp (disch:=omega) only [gq,wz,fE,vw,di,ji,fO,qm,pz,zZ,zW,zD,zC,yL,yJ,j6,yZ,jF,jK,jJ,gG,jY,jQ,jX,zV,yW,yK,zF,decide_true,decide_false,Zaj,Zao,jR];have hlw:=hw l hmem;have zp0:jN cells (lines.take i) l≠0->gA cells lines=jN cells (lines.take i) l:=λh=>by rw [he,hd,uB,if_pos h]
 by_cases h0:l.length=0
 .simp only [show (l.length:Int)=0 by omega,decide_true,zD];have hl0:l=[]:=Zci h0;have e12:jN cells (lines.take i) l=12:=by rw [jN,if_pos hl0]
  exact ret 12 (by rw [zp0 (by rw [e12];decide),e12])
 simp only [show ¬ (l.length:Int)=0 by omega,decide_false,zC];have hl0:l≠[]:=λq=>h0 (by rw [q];rfl);have hcell:yX cells none l≠0->gA cells lines=yX cells none l:=λh=>by
  have e:jN cells (lines.take i) l=yX cells none l:=by rw [jN,if_neg hl0,if_pos h]
  rw [zp0 (by rw [e];exact h),e]
 refine F19.L10 (λm z5 h' nx'=>∃ k:Nat,z5=I k/\l.length-k=m/\k<=l.length/\h'=h1/\nx'=nx1/\yX cells none l=yX cells (pv l k) (l.drop k)) (m:=l.length) (by omega) ⟨0,rfl,rfl,by omega,rfl,rfl,rfl⟩ ?_;rintro m y2 y5 y10 y11 y12 h1 nx1 R2 ⟨k,rfl,rfl,hk,rfl,rfl,hce⟩ hR2;simp (disch:=omega) only [gq,wz,fE,vw,di,ji,fO,qm,pz,zZ,zW,zD,zC,yL,yJ,j6,yZ,jF,jK,jJ,gG,jY,jQ,jX,zV,yW,yK,zF,decide_true,decide_false,Zaj,Zao,jR];by_cases hkt:k<l.length
 case neg =>
  simp only [show ¬ (k:Int)<(l.length:Int) by omega,decide_false,zC];have hz:yX cells none l=0:=by rw [hce,Zby (by omega)];rfl
  rw [F19.k18,sFx,H1.load (k:=0) (i:=0+1) rfl rfl,zjf (by omega) (by omega)];have ep:AV.lst 1 i ((lines.map encI).take i)=wu (lines.take i):=by
   rw [<- Zfc];simp [wu,Zbn (Nat.le_of_lt hlt)]
  rw [ep];refine zkt (by rw [Zal];omega) (λq hq=>Zas (hw q (Zcp hq)) (by omega)) _ _ _ _ ?_;rintro _ rfl _;by_cases hin:l∈lines.take i
  .simp only [hin,decide_true,zD];have e9:jN cells (lines.take i) l=9:=by rw [jN,if_neg hl0,if_neg (by rw [hz];simp),if_pos hin]
   exact ret 9 (by rw [zp0 (by rw [e9];decide),e9])
  .simp only [hin,decide_false,zC];rw [F19.k19,gq (by omega)];have e0:jN cells (lines.take i) l=0:=by rw [jN,if_neg hl0,if_neg (by rw [hz];simp),if_neg hin]
   refine hR _ _ _ _ _ _ _ _ _ _ _ _ _ (by omega) ⟨i+1,rfl,rfl,by omega,rfl,rfl,?_⟩;rw [he,hd,uB,if_neg (by rw [e0];simp),htake]
 simp only [show (k:Int)<(l.length:Int) by omega,decide_true,zD];have hxk:l[k]? = some l[k]:=List.getElem?_eq_getElem hkt;have hdk:l.drop k=l[k]::l.drop (k+1):=Zbl hkt;rw [bR rfl hkt,ldL (sV hxk)];by_cases hbad:l[k]<0\/cells<=l[k]
 .have e10:yX cells none l=10:=by rw [hce,hdk,yX,if_pos hbad]
  have fin:=ret 10 (by rw [hcell (by rw [e10];decide),e10]);by_cases hneg:l[k]<0
  .simp only [ji,hneg,decide_true,j6,zZ,zD];exact fin
  .simp only [ji,hneg,decide_false,yJ];rw [bR rfl hkt,ldL (sV hxk),sFx,H1.load (k:=0) (i:=0) rfl rfl];simp only [pz,show cells<=l[k] by omega,decide_true,zW,zD];exact fin
 simp only [ji,show ¬ l[k]<0 by omega,decide_false,yJ];rw [bR rfl hkt,ldL (sV hxk),sFx,H1.load (k:=0) (i:=0) rfl rfl];simp only [pz,show ¬ cells<=l[k] by omega,decide_false,zW,zC];rw [F19.k16];have next:∀ z12,(pv l k).any (λq=>decide (l[k]<=q))=false->R2 (F19.fr (.agg [I cells,wu lines]) (.ptr bx 0) y2 (I i) (encI l) (I ((k:Int)+1)) (.bool false) (.bool false) (.bool true) (.bool false) (.bool true) (.bool false) z12 z13) h1 nx1=.ok True:=λz12 hany=>by
  refine hR2 _ _ _ _ _ _ _ _ (by omega) ⟨k+1,rfl,rfl,by omega,rfl,rfl,?_⟩;rw [hce,hdk,yX,if_neg hbad,hany];simp [pR hkt]
 by_cases hk0:0<k
 .obtain ⟨k,rfl⟩:∃ j,k=j+1:=⟨k-1,by omega⟩;have hk1:k<l.length:=by omega
  have hxk1:l[k]? = some l[k]:=List.getElem?_eq_getElem hk1;simp only [qm,show (0:Int)<((k+1:Nat):Int) by omega,decide_true,yL];rw [bR rfl hkt,ldL (sV hxk),wz (by omega),bR (i:=k) (by omega) hk1,ldL (sV hxk1)];rw [pR hk1] at next;by_cases hle:l[k+1]<=l[k]
  .simp only [fO,hle,decide_true,zZ,zD];have e11:yX cells none l=11:=by rw [hce,hdk,yX,if_neg hbad,pR hk1,if_pos (by simp [hle])]
   exact ret 11 (by rw [hcell (by rw [e11];decide),e11])
  .simp only [fO,hle,decide_false,zZ,zC];rw [F19.k17,gq (by omega)];exact next _ (by simp [hle])
 .obtain rfl:k=0:=by omega
  simp only [qm,show ¬ (0:Int)<((0:Nat):Int) by omega,decide_false,yZ,zW,zC];rw [F19.k17,gq (by omega)];exact next _ (by simp [pv])
theorem zb9 {P:Program} {f:Nat} {p id:Pa} {h0 h:T Blk} {nx:Pa} {L:List Ob} {k:Nat} {l:List Int} {K:Kw Prop} {Q:AV->Prop} (H:Hp h0 h nx L) (hk:L[k]? = some (.arr id (l.map I))) (hq:∀ B,Pure P B f [encI l] Q) (hpl:∀ v,Q v->Plain v)
  (hK:∀ v,Q v->K v h nx=.ok True):(CS P B).fn f p [.sl id 0 l.length (some l.length) 1] h nx K=.ok True :=
 zey (.cons (qa.frz (H.own _ (Zad hk)) (T.ni _ id) (Zaf _) (by simp) λv hv=>by obtain ⟨x,_,rfl⟩:=List.mem_map.1 hv;rfl) .nil) (by
  have:=zj2 l;simp only [nns,fw.nn this,Bool.and_self]) hq hpl λv hv _=>hK v hv
theorem zp1 {h:T Blk} {nx:Pa} {l:List Int} {g:Nat} {p q:Pa} {cap:List AV} {pr:Int->Bool} {K:Kw Prop} (hl:l.length<=1000000) (hcl:∀ x∈l,∀ K:Kw Prop,K (.bool (pr x)) h nx=.ok True->(CS Tryz.prog B).fn g q (I x::cap) h nx K=.ok True)
  (hK:K (.bool (l.any pr)) h nx=.ok True):(CS Tryz.prog B).fn 173 p [encI l,.fn g q cap] h nx K=.ok True:=by
 refine u6 (p:=.of 173) (K:=K) (zM zO nZ 9 λhf => ?_) λ_ _ _ _ q=>q;rw [tJ.go];refine u6 (p:=.of 184) (K:=λv1 h2 n3=>za .geq .int v1 (I 0) λv4=>K v4 h2 n3) (zM zO nZ 10000000 λhf => ?_) λ_ _ _ _ q=>q;rw [wm.go];simp (disch:=omega) only [gq,wz,fE,vw,di,ji,fO,qm,pz,zZ,zW,zD,zC,yL,yJ,j6,yZ,jF,jK,jJ,gG,jY,jQ,jX,zV,yW,yK,zF,decide_true,decide_false,Zaj,Zao,jR];refine wm.L1 (λm z5 h' nx'=>∃ i:Nat,z5=I i/\l.length-i=m/\i<=l.length/\h'=h/\nx'=nx/\(l.take i).any pr=false) (m:=l.length) (by omega) ⟨0,rfl,rfl,by omega,rfl,rfl,by simp⟩ ?_;rintro m z2 z3 z5 z6 z7 _ _ R ⟨i,rfl,rfl,hi,rfl,rfl,htk⟩ hR;simp (disch:=omega) only [gq,wz,fE,vw,di,ji,fO,qm,pz,zZ,zW,zD,zC,yL,yJ,j6,yZ,jF,jK,jJ,gG,jY,jQ,jX,zV,yW,yK,zF,decide_true,decide_false,Zaj,Zao,jR];by_cases hlt:i<l.length
 .simp only [show (i:Int)<(l.length:Int) by omega,decide_true,zD];have hx:l[i]? = some l[i]:=List.getElem?_eq_getElem hlt;rw [bR rfl hlt,ldL (sV hx),pI];refine hcl _ (Zbb hlt) _ ?_;cases he:pr l[i] with
  | true =>
   simp only [zD,pz,show (0:Int)<=(i:Int) by omega,decide_true];rw [List.any_eq_true.2 ⟨_,Zbb hlt,he⟩] at hK;exact hK
  | false =>
   simp only [zC];refine hR _ _ _ _ _ _ _ _ (by omega) ⟨i+1,rfl,rfl,by omega,rfl,rfl,?_⟩;rw [Zau,hx,List.any_append,htk];simp [he]
 .simp only [show ¬ (i:Int)<(l.length:Int) by omega,decide_false,zC];rw [wm.k8];rw [Zap (by omega)] at htk;rw [htk] at hK;simp only [pz,show ¬ (0:Int) <= -1 by omega,decide_false];exact hK
theorem zr4 {a b:Int} {l:List Int} (hl:l.length<=1000000):Pure Tryz.prog B 87 [I a,I b,encI l] (· = I (if l.any (λx=>decide (x<a)||decide (b<x)) then 3 else 0)):=by
 refine zX λh nx K H0 hK=>zM zO nZ 1000 λhf => ?_;rw [F87.go];refine H0.box (l:=[I a]) rfl λx1 h1 nx1 H1 => ?_;refine H1.box (l:=[I b]) rfl λx2 h2 nx2 H2 => ?_;refine zp1 (pr:=λx=>decide (x<a)||decide (b<x)) hl (λx _ K hK => ?_) ?_
 .refine u6 (p:=.of 174) (K:=K) (zM zO nZ 9 λhf => ?_) λ_ _ _ _ q=>q;show zQ tbl 9 _ (Pa.of 174) [I x,.ptr x1 0,.ptr x2 0] _ _ _=_;rw [tH.go,H2.load (k:=1) (i:=0) rfl rfl];by_cases c:x<a
  .simp only [ji,c,decide_true,j6,zZ];simpa [c] using hK
  .simp only [ji,c,decide_false,yJ];rw [H2.load (k:=0) (i:=0) rfl rfl];simp only [qm,zW];simpa [c] using hK
 .refine pC _ _ _ _ _ _ ?_;rintro _ rfl _;exact hK _ _ _ _ _ H2 (zY rfl) rfl
theorem zr5 {cells:Int} {lines:List (List Int)} {i:Nat} {l:List Int} (hi:lines[i]? = some l) (hn:lines.length<=1000000) (hw:∀ q∈lines,q.length<=1000000):Pure Tryz.prog B 89 [.agg [I cells,wu lines],I i] (· = I (jN cells (lines.take i) l)):=by
 refine zX λh nx K H0 hK=>zM zO nZ 10000000 λhf => ?_;have hlt:i<lines.length:=(List.getElem?_eq_some_iff.1 hi).1;have hlw:=hw l (Zad hi);rw [F89.go];refine H0.box (l:=[I cells,wu lines]) rfl λbx h1 nx1 H1 => ?_;rw [sFx,H1.load (k:=0) (i:=0+1) rfl rfl,bR rfl hlt,ldL (getT hi)];refine H1.alloc λx h2 nx2 H2 => ?_;refine H2.store (k:=0) rfl (by decide) rfl λh3 H3 => ?_;rw [H3.load (k:=0) (i:=0) rfl rfl];simp (disch:=omega) only [gq,wz,fE,vw,di,ji,fO,qm,pz,zZ,zW,zD,zC,yL,yJ,j6,yZ,jF,jK,jJ,gG,jY,jQ,jX,zV,yW,yK,zF,decide_true,decide_false,Zaj,Zao,jR];have ret:∀ (v:Int) h' nx' L,v=jN cells (lines.take i) l->Hp h h' nx' L->K (I v) h' nx'=.ok True:=λv h' nx' L hv H'=>by rw [hv];exact hK _ _ _ _ _ H' (zY rfl) rfl
 by_cases h0:l.length=0
 .simp only [show (l.length:Int)=0 by omega,decide_true,zD];have hl0:l=[]:=Zci h0;exact ret 12 _ _ _ (by rw [jN,if_pos hl0]) H3
 simp only [show ¬ (l.length:Int)=0 by omega,decide_false,zC];have hl0:l≠[]:=λq=>h0 (by rw [q];rfl);have hcell:yX cells none l≠0->yX cells none l=jN cells (lines.take i) l:=λh=>by rw [jN,if_neg hl0,if_pos h]
 rw [H3.load (k:=0) (i:=0) rfl rfl];simp (disch:=omega) only [gq,wz,fE,vw,di,ji,fO,qm,pz,zZ,zW,zD,zC,yL,yJ,j6,yZ,jF,jK,jJ,gG,jY,jQ,jX,zV,yW,yK,zF,decide_true,decide_false,Zaj,Zao,jR];refine F89.L2 (λm z11 h' nx'=>∃ k:Nat,z11=I k/\l.length-k=m/\k<=l.length/\Hp h h' nx' [.arr x [encI l],.arr bx [I cells,wu lines]]/\yX cells none l=yX cells (pv l k) (l.drop k)) (m:=l.length) (by omega) ⟨0,rfl,rfl,by omega,H3,rfl⟩ ?_;rintro m z3 z5 z6 z7 z11 z12 z13 h1 nx1 R ⟨k,rfl,rfl,hk,H1,hce⟩ hR;simp (disch:=omega) only [gq,wz,fE,vw,di,ji,fO,qm,pz,zZ,zW,zD,zC,yL,yJ,j6,yZ,jF,jK,jJ,gG,jY,jQ,jX,zV,yW,yK,zF,decide_true,decide_false,Zaj,Zao,jR];by_cases hkt:k<l.length
 case neg =>
  simp only [show ¬ (k:Int)<(l.length:Int) by omega,decide_false,zC];have hz:yX cells none l=0:=by rw [hce,Zby (by omega)];rfl
  rw [F89.k9,sFx,H1.load (k:=1) (i:=0+1) rfl rfl,zjf (by omega) (by omega)];have ep:AV.lst 1 i ((lines.map encI).take i)=wu (lines.take i):=by
   rw [<- Zfc];simp [wu,Zbn (Nat.le_of_lt hlt)]
  rw [ep];refine zfu H1 (k:=0) rfl (by rw [Zal];omega) (λq hq=>hw q (Zcp hq)) ?_;refine pC _ _ _ _ _ _ ?_;rintro _ rfl _;refine ret _ _ _ _ ?_ H1;have e9:jN cells (lines.take i) l=if l∈lines.take i then 9 else 0:=by rw [jN,if_neg hl0,if_neg (by rw [hz];simp)]
  rw [e9];by_cases hin:l∈lines.take i <;> simp [hin]
 simp only [show (k:Int)<(l.length:Int) by omega,decide_true,zD];have hxk:l[k]? = some l[k]:=List.getElem?_eq_getElem hkt;have hdk:l.drop k=l[k]::l.drop (k+1):=Zbl hkt;rw [bR rfl hkt,ldL (sV hxk)]
 have tail:∀ (b1 b2:Bool) (z:AV) (z':AV) (Z:AV->T Blk->Pa->Out Prop),b1=(decide (l[k]<0\/cells<=l[k]))->b2=(pv l k).any (λq=>decide (l[k]<=q)) ->
   (∀ (e:Int) h' nx',e=(if l[k]<0\/cells<=l[k] then 10 else if (pv l k).any (λq=>decide (l[k]<=q)) then 11 else 0)->Hp h h' nx' [.arr x [encI l],.arr bx [I cells,wu lines]]->Z (I e) h' nx'=.ok True) ->
   (CS Tryz.prog B).fn 88 (.of 88) [.bool b2,I 11] h1 nx1 (λv22 h23 n24=>jM 1 2 [(I 0)] [(0,1,I (if b1 then 10 else 0)),(1,1,v22)] h23 n24 λv25 h26 n27=>(CS Tryz.prog B).fn 86 (.of 86) [v25] h26 n27 Z)=.ok True:=by
  intro b1 b2 z z' Z e1 e2 hZ;refine pC _ _ _ _ _ _ ?_;rintro _ rfl _;refine H1.dm (l:=[I (if b1 then 10 else 0),I (if b2 then 11 else 0)]) rfl λid h4 nx4 H4 => ?_;refine zb9 (l:=[if b1 then 10 else 0,if b2 then 11 else 0]) H4 (k:=0) rfl (λB=>zft (by simp)) (λv hv=>by rw [hv];exact .int _ _) ?_;rintro _ rfl;refine hZ _ _ _ ?_ H4.drop;subst e1 e2;by_cases c1:l[k]<0\/cells<=l[k]
  .simp [c1,qB]
  .cases c2:(pv l k).any (λq=>decide (l[k]<=q)) <;> simp [c1,qB]
 have fin:∀ (e:Int) h' nx',e=(if l[k]<0\/cells<=l[k] then 10 else if (pv l k).any (λq=>decide (l[k]<=q)) then 11 else 0)->Hp h h' nx' [.arr x [encI l],.arr bx [I cells,wu lines]] ->
   (za .neq .int (I e) (I 0) λv31=>yN v31 (K (I e) h' nx') (R (F89.fr (.agg [I cells,wu lines]) (I i) (.ptr bx 0) z3 (.ptr x 0) (I k) (I l[k]) (I e) (.bool false) (encI l) (I l.length) (I ((k:Int)+1)) (.bool true) v31) h' nx'))=.ok True:=by
  intro e h' nx' he H';have hstep:yX cells none l=if e≠0 then e else yX cells (some l[k]) (l.drop (k+1)):=by
   rw [hce,hdk,yX,he];by_cases c1:l[k]<0\/cells<=l[k]
   .simp [c1]
   .cases c2:(pv l k).any (λq=>decide (l[k]<=q)) <;> simp [c1]
  simp (disch:=omega) only [gq,wz,fE,vw,di,ji,fO,qm,pz,zZ,zW,zD,zC,yL,yJ,j6,yZ,jF,jK,jJ,gG,jY,jQ,jX,zV,yW,yK,zF,decide_true,decide_false,Zaj,Zao,jR];by_cases c:e=0
  .simp only [c,decide_true,Zaj,zC];refine hR _ _ _ _ _ _ _ _ _ _ (by omega) ⟨k+1,rfl,rfl,by omega,H',?_⟩;rw [hstep,if_neg (by simp [c]),pR hkt]
  .simp only [c,decide_false,Zao,zD];rw [if_pos c] at hstep;exact ret _ _ _ _ (by rw [<- hcell (by rw [hstep];exact c),hstep]) H'
 have mid:∀ b1:Bool,b1=decide (l[k]<0\/cells<=l[k]) ->
   (CS Tryz.prog B).fn 88 (.of 88) [.bool b1,I 10] h1 nx1 (λv10 h11 n12 =>
    sG (.bool (decide (0<(k:Int)))) true (λk=>zI (.ptr x 0) h11 k) λv14=>sG (.bool (decide (0<(k:Int)))) true (λq=>q (I (k:Int))) λv15=>sG (.bool (decide (0<(k:Int)))) true (λk=>za .sub .int v15 (I 1) k) λv16=>sG (.bool (decide (0<(k:Int)))) true (λk=>zN 1 v14 v16 k) λv17=>sG (.bool (decide (0<(k:Int)))) true (λk=>zI v17 h11 k) λv18 =>
    sG (.bool (decide (0<(k:Int)))) true (λq=>q (I l[k])) λv19=>sG (.bool (decide (0<(k:Int)))) true (λk=>za .geq .int v18 v19 k) λv20=>yP (.bool (decide (0<(k:Int)))) v20 (.bool false) λv21 =>
    (CS Tryz.prog B).fn 88 (.of 88) [v21,I 11] h11 n12 λv22 h23 n24=>jM 1 2 [(I 0)] [(0,1,v10),(1,1,v22)] h23 n24 λv25 h26 n27=>(CS Tryz.prog B).fn 86 (.of 86) [v25] h26 n27 λv28 h29 n30 =>
    za .neq .int v28 (I 0) λv31=>yN v31 (K v28 h29 n30) (R (F89.fr (.agg [I cells,wu lines]) (I i) (.ptr bx 0) z3 (.ptr x 0) (I k) (I l[k]) v28 (.bool false) (encI l) (I l.length) (I ((k:Int)+1)) (.bool true) v31) h29 n30))=.ok True:=by
  intro b1 e1;refine pC _ _ _ _ _ _ ?_;rintro _ rfl _;by_cases ck:0<k
  .obtain ⟨k,rfl⟩:∃ j,k=j+1:=⟨k-1,by omega⟩;have hk1:k<l.length:=by omega
   have hxk1:l[k]? = some l[k]:=List.getElem?_eq_getElem hk1;simp only [show (0:Int)<((k+1:Nat):Int) by omega,decide_true,yL,zZ];rw [H1.load (k:=0) (i:=0) rfl rfl,wz (by omega),bR (i:=k) (by omega) hk1,ldL (sV hxk1)];simp only [pz];exact tail _ _ .u .u _ e1 (by rw [pR hk1];rfl) fin
  .obtain rfl:k=0:=by omega
   simp only [show ¬ (0:Int)<((0:Nat):Int) by omega,decide_false,yZ,zW];exact tail _ _ .u .u _ e1 rfl fin
 by_cases c:l[k]<0
 .simp only [ji,c,decide_true,j6,zZ];exact mid true (by simp [c])
 .simp only [ji,c,decide_false,yJ,sFx];rw [H1.load (k:=1) (i:=0) rfl rfl];simp only [pz,zW];exact mid _ (by simp [c])
theorem zt9 {cells:Int} {lines:List (List Int)} (hw:∀ q∈lines,q.length<=1000000):Pure Tryz.prog B 18 [.agg [I cells,wu lines]] (· = I (gA cells lines)):=by
 refine zX λh nx K H0 hK=>zM zO nZ 10000000 λhf => ?_;rw [F18.go];refine H0.box (l:=[I cells,wu lines]) rfl λbx h1 nx1 H1 => ?_;rw [sFx,H1.load (k:=0) (i:=0) rfl rfl,sFx,H1.load (k:=0) (i:=0+1) rfl rfl];simp only [zV,qm];refine H1.dm (l:=[I cells]) rfl λid h2 nx2 H2 => ?_;simp only [zF,zV];rw [H2.load (k:=1) (i:=0+1) rfl rfl];simp only [zF,sFx];refine zey (args':=[I 1,I 256,encI [cells]]) (.cons (.int _ _) (.cons (.int _ _) (.cons (qa.frz (H2.own (.arr id [I cells]) (by simp)) (T.ni _ id) (Zaf _) rfl (λv hv=>by simp at hv;subst hv;rfl)) .nil))) rfl (λB=>zr4 (l:=[cells]) (by simp)) (λv hv=>by rw [hv];exact .int _ _) ?_;rintro _ rfl _;rw [H2.load (k:=1) (i:=0+1) rfl rfl];simp only [zF,zV];refine pC _ _ _ _ _ _ ?_;rintro _ rfl _;refine H2.dm (l:=[I (if [cells].any (λx=>decide (x<1)||decide (256<x)) then 3 else 0),I (if decide (128<(lines.length:Int)) then 5 else 0)]) rfl λid3 h3 nx3 H3 => ?_;refine zb9 (l:=[if [cells].any (λx=>decide (x<1)||decide (256<x)) then 3 else 0,if decide (128<(lines.length:Int)) then 5 else 0]) H3 (k:=0) rfl (λB=>zft (by simp)) (λv hv=>by rw [hv];exact .int _ _) ?_;rintro _ rfl;have ret:∀ (v:Int) h' nx' L,v=gA cells lines->Hp h h' nx' L->K (I v) h' nx'=.ok True:=λv h' nx' L hv H'=>by rw [hv];exact hK _ _ _ _ _ H' (zY rfl) rfl
 have ef:qB [if [cells].any (λx=>decide (x<1)||decide (256<x)) then 3 else 0,if decide (128<(lines.length:Int)) then 5 else 0]=if cells<1\/256<cells then 3 else if 128<lines.length then 5 else 0:=by
  by_cases c:cells<1\/256<cells
  .simp [qB,c]
  .by_cases c2:128<lines.length
   .have:(128:Int)<(lines.length:Int):=by omega
    simp [qB,c,c2,this]
   .have:¬ (128:Int)<(lines.length:Int):=by omega
    simp [qB,c,c2,this]
 rw [ef];simp only [di];by_cases hc:cells<1\/256<cells
 .simp only [hc,if_true];simp only [show ¬ (3:Int)=0 by omega,decide_false,Zao,zD];exact ret 3 _ _ _ (by rw [gA,if_pos hc]) H3
 simp only [hc,if_false];by_cases hm:128<lines.length
 .simp only [hm,if_true];simp only [show ¬ (5:Int)=0 by omega,decide_false,Zao,zD];exact ret 5 _ _ _ (by rw [gA,if_neg hc,if_pos hm]) H3
 simp only [hm,if_false,decide_true,Zaj,zC];rw [H3.load (k:=2) (i:=0+1) rfl rfl];simp only [zV];have hs:gA cells lines=uB cells [] lines:=by rw [gA,if_neg hc,if_neg hm]
 refine F18.L2 (λm z8 h' nx'=>∃ i:Nat,z8=I i/\lines.length-i=m/\i<=lines.length/\Hp h h' nx' [.arr bx [I cells,wu lines]]/\gA cells lines=uB cells (lines.take i) (lines.drop i)) (m:=lines.length) (by omega) ⟨0,rfl,rfl,by omega,H3.drop.drop,by simpa using hs⟩ ?_;rintro m z2 z4 z5 z8 z9 z10 h4 nx4 R ⟨i,rfl,rfl,hi,H4,he⟩ hR;simp (disch:=omega) only [gq,wz,fE,vw,di,ji,fO,qm,pz,zZ,zW,zD,zC,yL,yJ,j6,yZ,jF,jK,jJ,gG,jY,jQ,jX,zV,yW,yK,zF,decide_true,decide_false,Zaj,Zao,jR];by_cases hlt:i<lines.length
 case neg =>
  simp only [show ¬ (i:Int)<(lines.length:Int) by omega,decide_false,zC];rw [F18.k9];exact ret 0 _ _ _ (by rw [he,Zby (by omega)];rfl) H4
 simp only [show (i:Int)<(lines.length:Int) by omega,decide_true,zD];obtain ⟨l,hx⟩:∃ l,lines[i]? = some l:=⟨_,List.getElem?_eq_getElem hlt⟩;have hd:lines.drop i=l::lines.drop (i+1):=by
  rw [Zbl hlt];rw [List.getElem?_eq_getElem hlt] at hx;rw [Option.some.inj hx]
 have htake:lines.take (i+1)=lines.take i++[l]:=by rw [Zau,hx];rfl
 rw [H4.zn (k:=0) (n:=2) rfl rfl];refine zr5 hx (by omega) hw _ _ _ _ ?_;rintro _ rfl _;simp only [di];by_cases c:jN cells (lines.take i) l=0
 .simp only [c,decide_true,Zaj,zC];refine hR _ _ _ _ _ _ _ _ _ (by omega) ⟨i+1,rfl,rfl,by omega,H4,?_⟩;rw [he,hd,uB,if_neg (by rw [c];simp),htake]
 .simp only [c,decide_false,Zao,zD];exact ret _ _ _ _ (by rw [he,hd,uB,if_pos c]) H4
end Go.Ev
namespace Go.Ev
def AscL (cells:Nat) (l:List Int):Prop:=l≠[]/\l.Pairwise (· < ·)/\∀ c∈l,0<=c/\c<(cells:Int)
end Go.Ev
namespace Go.Ev
open Go Go.Proofs
variable {B:Nat}
theorem cells_ok {cells:Int}:∀ {l:List Int} {p:Option Int},yX cells p l=0->(∀ c∈l,0<=c/\c<cells)/\l.Pairwise (· < ·)/\∀ q,p=some q->∀ c∈l,q<c
 | [],_,_=>⟨by simp,.nil,by simp⟩
 | c::l,p,h=>by
  rw [yX] at h;by_cases c1:c<0\/cells<=c
  .rw [if_pos c1] at h;cases h
  rw [if_neg c1] at h;cases c2:p.any (λq=>decide (c<=q)) with
  | true=>rw [c2,if_pos rfl] at h;cases h
  | false =>
   rw [c2,if_neg (by simp)] at h;obtain ⟨h1,h2,h3⟩:=cells_ok h;have h4:=h3 c rfl;refine ⟨λx hx => ?_,List.pairwise_cons.2 ⟨h4,h2⟩,λq hq x hx => ?_⟩
   .rcases List.mem_cons.1 hx with rfl | hx
    .omega
    .exact h1 x hx
   .subst hq;simp at c2;rcases List.mem_cons.1 hx with rfl | hx
    .exact c2
    .have:=h4 x hx;omega
theorem zfv {cells:Int}:∀ {ls prev:List (List Int)},uB cells prev ls=0->∀ l∈ls,l≠[]/\yX cells none l=0
 | [],_,_,l,h=>by simp at h
 | a::ls,prev,h,l,hl=>by
  rw [uB] at h;by_cases c:jN cells prev a≠0
  .rw [if_pos c] at h;exact absurd h c
  rw [if_neg c] at h;rcases List.mem_cons.1 hl with rfl | hl
  .have c:jN cells prev l=0:=by simpa using c
   rw [jN] at c;by_cases c0:l=[]
   .rw [if_pos c0] at c;cases c
   rw [if_neg c0] at c;refine ⟨c0,?_⟩;by_cases c1:yX cells none l≠0
   .rw [if_pos c1] at c;exact c
   .simpa using c1
  .exact zfv h l hl
theorem zhp {cells:Int} {lines:List (List Int)} (h:gA cells lines=0):∃ n:Nat,cells=n/\1<=n/\n<=256/\lines.length<=128/\∀ l∈lines,AscL n l:=by
 rw [gA] at h;by_cases c1:cells<1\/256<cells
 .rw [if_pos c1] at h;cases h
 rw [if_neg c1] at h;by_cases c2:128<lines.length
 .rw [if_pos c2] at h;cases h
 rw [if_neg c2] at h;refine ⟨cells.toNat,by omega,by omega,by omega,by omega,λl hl => ?_⟩;obtain ⟨h1,h2⟩:=zfv h l hl;obtain ⟨h3,h4,_⟩:=cells_ok h2;exact ⟨h1,h4,λc hc=>by have:=h3 c hc;omega⟩
end Go.Ev
namespace Go.Ev
abbrev srt (l:List Int):List Int:=l.mergeSort λx y=>decide (x<=y)
theorem zfw (l:List Int):(srt l).Perm l:=List.mergeSort_perm l _
structure Ins (l out:List Int) (i k:Nat):Prop where
 perm:out.Perm l
 ex:∃ (A:List Int) (x:Int) (B R:List Int),out=A++x::(B++R)/\A.length=k/\A.length+B.length=i/\(A++B).Pairwise (· <= ·)/\∀ b∈B,x<b
theorem Ins.start {l out:List Int} {i:Nat} (hp:out.Perm l) (hi:i<out.length) (hs:(out.take i).Pairwise (· <= ·)):Ins l out i i :=
 ⟨hp,out.take i,out[i],[],out.drop (i+1),by simp,by simp;omega,by simp;omega,by simpa using hs,by simp⟩
theorem Ins.swap {l out:List Int} {i k:Nat} (H:Ins l out i (k+1)) {a x:Int} (ha:out[k]? = some a) (hx:out[k+1]? = some x) (hlt:x<a):Ins l ((out.set (k+1) a).set k x) i k:=by
 obtain ⟨hp,A,x',B,R,rfl,hA,hi,hs,hb⟩:=H;obtain ⟨A,a',rfl⟩:∃ A' a',A=A'++[a']:=⟨A.dropLast,A.getLast (by intro q;rw [q] at hA;simp at hA),(List.dropLast_concat_getLast _).symm⟩;have hA':A.length=k:=by simpa using hA
 have e1:a'=a:=by
  rw [Zbi,List.getElem?_append_right (by omega),hA',Zcd] at ha;simpa using ha
 have e2:x'=x:=by
  rw [List.getElem?_append_right (by simp;omega)] at hx;simp [hA'] at hx;exact hx
 subst e1 e2;have e3:((A++[a']++x'::(B++R)).set (k+1) a').set k x'=A++x'::((a'::B)++R):=by
  have h1:(A++[a']++x'::(B++R)).set (k+1) a'=A++a'::a'::(B++R):=by
   rw [Zbi,Zeh _ _ (by omega),hA',show k+1-k=1 by omega];rfl
  rw [h1,Zeh _ _ (by omega),hA',Zcd];rfl
 rw [e3];refine ⟨List.Perm.trans ?_ hp,A,x',a'::B,R,rfl,hA',by simp at hi ⊢;omega,by simpa [Zbi] using hs,?_⟩
 .rw [Zbi];refine List.Perm.append_left A ?_;exact List.Perm.swap _ _ _
 .intro b hb';rcases List.mem_cons.1 hb' with rfl | q
  .exact hlt
  .exact hb b q
theorem Ins.done {l out:List Int} {i k:Nat} (H:Ins l out i k) (h:k=0\/∃ j a x,k=j+1/\out[j]? = some a/\out[k]? = some x/\¬ x<a):out.Perm l/\(out.take (i+1)).Pairwise (· <= ·):=by
 obtain ⟨hp,A,x,B,R,rfl,hA,hi,hs,hb⟩:=H;refine ⟨hp,?_⟩;have e:(A++x::(B++R)).take (i+1)=A++x::B:=by
  rw [show A++x::(B++R)=(A++x::B)++R by simp];exact Zdr (by simp;omega)
 rw [e];have hs':=List.pairwise_append.1 hs;refine List.pairwise_append.2 ⟨hs'.1,List.pairwise_cons.2 ⟨λb hb'=>by have:=hb b hb';omega,hs'.2.1⟩,?_⟩;have key:∀ a∈A,a<=x:=by
  rcases h with rfl | ⟨j,a0,x0,rfl,h1,h2,h3⟩
  .obtain rfl:A=[]:=Zci hA;simp
  .obtain ⟨A,a',rfl⟩:∃ A' a',A=A'++[a']:=⟨A.dropLast,A.getLast (by intro q;rw [q] at hA;simp at hA),(List.dropLast_concat_getLast _).symm⟩;have hA':A.length=j:=by simpa using hA
   have e1:a'=a0:=by
    rw [Zbi,List.getElem?_append_right (by omega),hA',Zcd] at h1;simpa using h1
   have e2:x=x0:=by
    rw [List.getElem?_append_right (by simp;omega)] at h2;simp [hA'] at h2;exact h2
   subst e1 e2;intro a ha;rcases List.mem_append.1 ha with q | q
   .have:=(List.pairwise_append.1 hs'.1).2.2 a q a' (by simp);omega
   .simp at q;omega
 intro a ha b hb';rcases List.mem_cons.1 hb' with rfl | q
 .exact key a ha
 .exact hs'.2.2 a ha b q
def incr (d:List Int) (c:Int):List Int:=d.set c.toNat (d.getD c.toNat 0+1)
@[simp] theorem zua (d:List Int) (c:Int):(incr d c).length=d.length:=by simp [incr]
def Bd (d:List Int) (M:Nat):Prop:=∀ v∈d,0<=v/\v<=(M:Int)
theorem Bd.incr {d:List Int} {M:Nat} (h:Bd d M) {c:Int} (hc:c.toNat<d.length):Bd (incr d c) (M+1):=by
 intro v hv;rcases List.mem_or_eq_of_mem_set hv with q | rfl
 .have:=h v q;omega
 .rw [Zaa,List.getElem?_eq_getElem hc];have:=h _ (Zbb hc);simp only [Option.getD_some];omega
theorem Bd.mono {d:List Int} {M N:Nat} (h:Bd d M) (hm:M<=N):Bd d N:=λv hv=>by have:=h v hv;omega
theorem Bd.line {W:Nat}:∀ {l d:List Int} {M:Nat},Bd d M->(∀ c∈l,c.toNat<d.length)->l.length<=W->Bd (l.foldl Ev.incr d) (M+W)
 | [],d,M,h,_,_=>h.mono (by omega)
 | c::l,d,M,h,hc,hl=>by
  rw [Zdq];simp only [Zba] at hl;have:=Bd.line (W:=W-1) (l:=l) (h.incr (hc c (by simp))) (λx hx=>by simpa using hc x (by simp [hx])) (by omega);exact this.mono (by omega)
theorem Bd.srt {d:List Int} {M:Nat} (h:Bd d M):Bd (Ev.srt d) M:=λv hv=>h v ((zfw d).mem_iff.1 hv)
@[simp] theorem zwj (d:List Int):(Ev.srt d).length=d.length:=(zfw d).length_eq
end Go.Ev
namespace Go.Ev
open Go Go.Proofs
variable {B:Nat}
set_option maxRecDepth 100000
theorem Hp.tY {h0 h:T Blk} {nx:Pa} {L:List Ob} (H:Hp h0 h nx L) (e:Nat):Hp h0 h nx (.gro none e 0 []::L) :=
  ⟨H.keep,fun x hx=>by rcases List.mem_cons.1 hx with rfl | q;· exact ⟨rfl,rfl⟩
                       . exact H.own x q,λn hn=>H.off n (by simpa [Ob.names] using hn),by have:=H.nd;simpa [Ob.names] using this,H.fr⟩
end Go.Ev
namespace Go.Ev
open Go Go.Proofs
variable {B:Nat}
theorem zr6 {h0 h:T Blk} {nx:Pa} {L:List Ob} {o:Option Pa} {n k:Nat} {l l':List AV} (H:Hp h0 h nx L) (hk:L[k]? = some (.gro o 1 n l)) (hl:l'.length=l.length) (hs:l'.all uz=true) (hf:∀ (i:Nat) (v v':AV),l[i]? = some v->l'[i]? = some v'->rV h0 h v v'):rV h0 h (xq o 1 n) (.lst 1 n l'):=by
 have own:=H.own _ (Zad hk);have hoff:=H.off;cases o with
 | none =>
  obtain ⟨rfl,rfl⟩:=own;obtain rfl:l'=[]:=by simpa using hl
  exact .zbj 1
 | some id =>
  obtain ⟨t,h1,h2,h3⟩:=own;refine .sl _ _ _ _ _ true _ t _ (hoff id (List.mem_flatMap.2 ⟨_,Zad hk,by simp [Ob.names]⟩)) trivial h1 (by omega) (by rw [hl];exact h2) hs λi v hi => ?_;have hil:i<l.length:=by rw [<- hl];exact (List.getElem?_eq_some_iff.1 hi).1
  have:=yG t 0 (n*1) i (by rw [<- h2];exact hil);rw [h3,List.getElem?_eq_getElem hil] at this;rw [<- Option.some.inj this];exact hf i _ _ (List.getElem?_eq_getElem hil) hi
end Go.Ev
namespace Go.Ev
open Go Go.Proofs
variable {B:Nat}
set_option maxRecDepth 100000
theorem Sg.q1 {q:Rat} (h:Sg q):xg 1 q:=(h.dn (Zaf 1)).nm (Zaf _) (Zaf _)
theorem uT {Q:List Rat} {P:Rat->Prop} (h:∀ j,P (at' Q j)):∀ x∈Q,P x:=λx hx=>by
 obtain ⟨j,_,rfl⟩:=vI hx;exact h j
theorem fI.fix {c:List AV} {q:List Rat} (h:fI c q):∀ v∈c,fw v=true:=λv hv=>by
 obtain ⟨m,hm⟩:=List.mem_iff_getElem?.1 hv;have hl:=(List.getElem?_eq_some_iff.1 hm).1;rw [h.1] at hl;obtain ⟨s,w,s',w',e,h1,h2⟩:=h.2 (m / 4) _ (uD (by omega));have h3:((c.drop (m / 4*4)).take 4)[m%4]? = some v:=by
  rw [List.getElem?_take_of_lt (Zdp _ (by decide)),List.getElem?_drop,show m / 4*4+m%4=m by omega];exact hm
 rw [e] at h3;exact h1.ay h2 v (Zad h3)
theorem gp4 {n:Nat} {o4 o5:Option Pa} {rs:List Pa} {cs:List (List AV)} {ps:List Nat} {T:List Ob} (P:List Ob):(P++SL n o4 o5 rs cs ps T)[P.length]? = some (.gro o4 1 rs.length (rs.map (rwV n))):=by
 rw [List.getElem?_append_right (Zaf _),Zcd];rfl
theorem gp5 {n:Nat} {o4 o5:Option Pa} {rs:List Pa} {cs:List (List AV)} {ps:List Nat} {T:List Ob} (P:List Ob):(P++SL n o4 o5 rs cs ps T)[P.length+1]? = some (.gro o5 1 ps.length (ps.map λp=>I ((p:Nat):Int))):=by
 rw [List.getElem?_append_right (by omega),Zbh];rfl
theorem gpT {n:Nat} {o4 o5:Option Pa} {rs:List Pa} {cs:List (List AV)} {Q:List (List Rat)} {ps:List Nat} {b:Ob} {T:List Ob} (S:SM rs cs Q) (P:List Ob):(P++SL n o4 o5 rs cs ps (b::T))[P.length+(Q.length+2)]? = some b:=by
 rw [List.getElem?_append_right (by omega),Zbh];show (List.zipWith Ob.arr rs cs++b::T)[Q.length]? = _;rw [List.getElem?_append_right (by rw [kQ S];exact Zaf _),kQ S,Zcd];rfl
theorem zku {a g6 g7 b:Ob} {Z U:List Ob}:(a::g6::g7::b::(Z++U)).Perm (g6::g7::b::((Z++[a])++U)):=by
 refine (List.Perm.swap ..).trans (List.Perm.cons _ ((List.Perm.swap ..).trans (List.Perm.cons _ ((List.Perm.swap ..).trans (List.Perm.cons _ ?_)))));rw [Zbi];exact List.perm_middle.symm
def frQ (n:Nat) (ps:List Nat):List Nat:=(List.range n).filter λx => !decide (x∈ps)
theorem zp2 {c:Nat} {ps:List Nat}:frQ (c+1) ps=frQ c ps++if c∈ps then [] else [c]:=by
 unfold frQ;rw [List.range_succ,List.filter_append]
 congr 1
 by_cases h:c∈ps
 .rw [if_pos h,List.filter_cons_of_neg (by simp [h])];rfl
 .rw [if_neg h,List.filter_cons_of_pos (by simp [h])];rfl
theorem zdh (n:Nat) (ps:List Nat):(frQ n ps).length<=n:=by
 unfold frQ;exact Zas (List.length_filter_le ..) (by rw [Zdm];exact Zaf _)
def SpcV (n:Nat) (fr:List Nat) (Bs:List (List Rat)) (v:AV):Prop:=∃ cb:List (List AV),cb.length=Bs.length/\(∀ a,a<Bs.length->fI (cb.getD a []) (Bs.getD a []))/\v=.agg [.lst 1 fr.length (fr.map λp=>I ((p:Nat):Int)),.lst 1 Bs.length (cb.map λc=>.lst 4 n c)]
def zp3 (n:Nat) (lines:List (List Int)) (Q:List (List Rat)) (ps:List Nat):Prop:=(∃ O,Sv n O Q ps)/\Q.length<=min 11 lines.length/\(∀ f,Mgf n lines f->∀ q∈Q,dot q f=0)/\∀ f:List Rat,f.length=n->(∀ q∈Q,dot q f=0)->Mgf n lines f
theorem zzt (n:Nat) (lines:List (List Int)) (f:List Rat):dot (sW n lines 0) f=0:=by
 unfold sW;rw [uK _ _ _ _ rfl];grind
theorem zkv {n i:Nat} {lines:List (List Int)} {f:List Rat} (h:dot (sW n lines i) f=0):dot (nY n (lines.getD i [])) f=dot (nY n (lines.getD 0 [])) f:=by
 unfold sW at h;rw [uK _ _ _ _ (by rw [yQ,yQ])] at h
 grind
theorem za1 {n:Nat} {lines:List (List Int)} (hr:∀ l∈lines,∀ c∈l,0<=c/\c<(n:Int)) {i:Nat} (hi:i<lines.length):∀ c∈lines.getD i [],0<=c/\c<(n:Int):=hr _ (yI hi)
theorem zkw {n:Nat} {lines:List (List Int)} (hn:n<=256) (hl:lines.length<=12) (hll:∀ l∈lines,l.length<=256) (hr:∀ l∈lines,∀ c∈l,0<=c/\c<(n:Int)):Pure Tryz.prog B 93 [.agg [I (n:Int),wu lines]] (λv=>∃ Q ps,zp3 n lines Q ps/\SpcV n (frQ n ps) ((frQ n ps).map (rT n Q ps)) v):=by
 refine zX λh nx K H0 hK=>zM zO yD 1000 λhf => ?_;rw [F93.go,F93.t113,zA,F93.zx];refine H0.box (l:=[I (n:Int),wu lines]) rfl λb1 h1 nx1 H1 => ?_;refine H1.alloc λb2 h2 nx2 H2 => ?_;rw [zA,F93.zu,sFx,H2.load (k:=1) (i:=0+0) rfl rfl,zA,F93.je,zA,F93.bq,zA,zA,F93.fD,zJ];have H2:=(H2.tY 1).tY 1
 refine F93.zw1 (λm x4 x5 x6 h' nx'=>∃ (i:Nat) (o4 o5:Option Pa) (rs:List Pa) (cs:List (List AV)) (Q:List (List Rat)) (ps:List Nat) (O:List (List Rat)),x4=xq o4 1 rs.length/\x5=xq o5 1 ps.length/\x6=I (i:Int)/\m+i=lines.length+1/\1<=i/\(i<=lines.length\/i=1)/\Q.length+1<=i/\SM rs cs Q/\Sv n O Q ps/\(∀ f,Mgf n lines f->∀ q∈Q,dot q f=0)/\(∀ i',i'<i->∀ f:List Rat,f.length=n->(∀ q∈Q,dot q f=0)->dot (sW n lines i') f=0)/\Hp h h' nx' (SL n o4 o5 rs cs ps [.arr b2 [.zb,.zb],.arr b1 [I (n:Int),wu lines]])) (m:=lines.length) (by omega) ⟨1,none,none,[],[],[],[],[],rfl,rfl,rfl,rfl,by omega,.inr rfl,Zaf _,⟨rfl,rfl,λa ha=>by simp at ha⟩,Sv.nil n,by simp,λi' hi f _ _=>by
  obtain rfl:i'=0:=by omega
  exact zzt ..,H2⟩ ?_
 rintro m z4 z5 z6 z7 z8 z9 z10 z11 z17 z18 z19 z20 z21 z22 z23 z24 z25 z26 z27 h3 nx3 R ⟨i,o4,o5,rs,cs,Q,ps,O,rfl,rfl,rfl,hm,hi1,hi2,hQi,S,hS,hdot,hcv,H3⟩ hR;obtain ⟨T,hT⟩:∃ T:List Ob,T=[.arr b2 [.zb,.zb],.arr b1 [I (n:Int),wu lines]]:=⟨_,rfl⟩;rw [<- hT] at H3;have hps:=hS.len;have tl:∀ {X:List Ob} {o4 o5:Option Pa} {rs:List Pa} {cs:List (List AV)} {ps:List Nat},(List.zipWith Ob.arr rs cs).length=Q.length->(X++SL n o4 o5 rs cs ps T)[X.length+2+Q.length+1]? = some (.arr b1 [I (n:Int),wu lines]):=λ{X o4 o5 rs cs ps} hz=>by
  rw [hT,List.getElem?_append_right (by omega),show X.length+2+Q.length+1-X.length=Q.length+1+2 by omega];show (List.zipWith Ob.arr rs cs++[Ob.arr b2 [.zb,.zb],Ob.arr b1 [I (n:Int),wu lines]])[Q.length+1]? = _;rw [List.getElem?_append_right (by omega),hz,Zbh];rfl
 have l1:∀ op:AV->OP,zI (.ptr b1 (0+1)) h3 op=op (wu lines):=λop=>H3.load (i:=0+1) (tl (X:=[]) (kQ S)) rfl;rw [F93.t63,zA,zA,F93.mg,sFx,l1,zV,ji,zB,F93.v17];by_cases ci:i<lines.length
 case neg =>
  rw [Zab (by omega),zC,yA,yF,zA,F93.zw2];have hpl:ps.length<=33:=by omega
  refine H3.alloc λb3 h4 nx4 H4 => ?_;have H4:=(H4.tY 1).tY 1;rw [zA,zA,F93.zw3,zJ];refine F93.zuq (λm x29 h' nx'=>∃ (c:Nat) (o6 o7:Option Pa) (rb:List Pa) (cb:List (List AV)),x29=I (c:Int)/\m+c=n/\SM rb cb ((frQ c ps).map (rT n Q ps))/\Hp h h' nx' (.gro o6 1 (frQ c ps).length ((frQ c ps).map λp=>I ((p:Nat):Int))::.gro o7 1 rb.length (rb.map (rwV n))::.arr b3 [xq o6 1 (frQ c ps).length,xq o7 1 rb.length]::(List.zipWith Ob.arr rb cb++SL n o4 o5 rs cs ps T))) (m:=n) (by omega) ⟨0,none,none,[],[],rfl,by omega,⟨rfl,rfl,λa ha=>by simp [frQ] at ha⟩,H4⟩ ?_;rintro m2 y13 y14 y15 y16 y29 y30 y31 y32 y33 y34 y35 h5 nx5 R2 ⟨c,o6,o7,rb,cb,rfl,hmc,S2,H5⟩ hR2;have hfl:=zdh c ps;have hrb:rb.length=(frQ c ps).length:=by rw [S2.lr,Zai]
  obtain ⟨P,hP⟩:∃ P:List Ob,P=.gro o6 1 (frQ c ps).length ((frQ c ps).map λp=>I ((p:Nat):Int))::.gro o7 1 rb.length (rb.map (rwV n))::.arr b3 [xq o6 1 (frQ c ps).length,xq o7 1 rb.length]::List.zipWith Ob.arr rb cb:=⟨_,rfl⟩;have eP:(.gro o6 1 (frQ c ps).length ((frQ c ps).map λp=>I ((p:Nat):Int))::.gro o7 1 rb.length (rb.map (rwV n))::.arr b3 [xq o6 1 (frQ c ps).length,xq o7 1 rb.length]::(List.zipWith Ob.arr rb cb++SL n o4 o5 rs cs ps T))=P++SL n o4 o5 rs cs ps T:=by rw [hP];rfl
  have H5p:=H5.cast eP;rw [F93.t101,zA,F93.zw4,ji,zA,zB,F93.v30];by_cases cc:c<n
  case neg =>
   obtain rfl:c=n:=by omega
   rw [Zab (by omega),zC,yA,yF,zA,F93.zur,H5.zn (k:=2) (n:=2) rfl rfl];rw [hT] at H5p;refine H5p.yx (l2:=[xq o6 1 (frQ c ps).length,xq o7 1 rb.length]) (gpT S P) rfl rfl λh6 H6 => ?_;simp only [zH,zP];have hb2:((P++SL c o4 o5 rs cs ps [.arr b2 [.zb,.zb],.arr b1 [I (c:Int),wu lines]]).set (P.length+(Q.length+2)) (.arr b2 [xq o6 1 (frQ c ps).length,xq o7 1 rb.length]))[P.length+(Q.length+2)]? = some (.arr b2 [xq o6 1 (frQ c ps).length,xq o7 1 rb.length]):=List.getElem?_set_self (List.getElem?_eq_some_iff.1 (gpT S P)).1;rw [F93.ret,H6.zn (n:=2) hb2 rfl];have hPl:3<=P.length:=by rw [hP];simp
   have old:∀ i,i<P.length->((P++SL c o4 o5 rs cs ps [.arr b2 [.zb,.zb],.arr b1 [I (c:Int),wu lines]]).set (P.length+(Q.length+2)) (.arr b2 [xq o6 1 (frQ c ps).length,xq o7 1 rb.length]))[i]? = P[i]? := λi hi=>by
    rw [List.getElem?_set_ne (by omega),List.getElem?_append_left hi]
   have F6:rV h h6 (xq o6 1 (frQ c ps).length) (.lst 1 (frQ c ps).length ((frQ c ps).map λp=>I ((p:Nat):Int))):=H6.zc3 (k:=0) (by rw [old 0 (by omega),hP];rfl) λv hv=>by
    obtain ⟨x,_,rfl⟩:=List.mem_map.1 hv;rfl
   have hcl:=S2.lc;have F7:rV h h6 (xq o7 1 rb.length) (.lst 1 rb.length (cb.map λd=>.lst 4 c d)):=zr6 H6 (k:=1) (by rw [old 1 (by omega),hP];rfl) (by rw [Zai,Zai,hcl,S2.lr]) (List.all_eq_true.2 λv hv=>by obtain ⟨x,_,rfl⟩:=List.mem_map.1 hv;rfl) λa v v' h1 h2=>by
    rw [List.getElem?_map] at h1 h2;have ha:a<rb.length:=by
     rcases Zdl a rb.length with q | q
     .exact q
     .rw [List.getElem?_eq_none q] at h1;cases h1
    have hac:a<cb.length:=by rw [hcl,<- S2.lr];exact ha
    rw [List.getElem?_eq_getElem ha] at h1;rw [gN (d:=[]) hac] at h2;obtain rfl:=Option.some.inj h1;obtain rfl:=Option.some.inj h2;have hrow:=S2.row a (by rw [<- S2.lr];exact ha);refine H6.zg0 (k:=3+a) ?_ (Zaf _) ?_ hrow.fix
    .rw [old (3+a) (by rw [hP];simp only [Zba];rw [kQ S2,<- S2.lr];omega),hP,Zdb 3 a];show (List.zipWith Ob.arr rb cb)[a]? = _;rw [List.getElem?_zipWith,List.getElem?_eq_getElem ha,gN (d:=[]) hac]
    .rw [hrow.1,Zaa,List.getElem?_map,gN (d:=0) (show a<(frQ c ps).length by omega)];show (rT _ _ _ _).length*4=_;rw [mC]
   refine hK _ _ _ _ (.agg [.lst 1 (frQ c ps).length ((frQ c ps).map λp=>I ((p:Nat):Int)),.lst 1 rb.length (cb.map λd=>.lst 4 c d)]) H6 (Frz.agg _ _ rfl rfl λj v v' h1 h2 => ?_) ⟨Q,ps,⟨⟨O,hS⟩,by omega,hdot,λf hf hk=>⟨hf,λl hl=>by
    obtain ⟨b,hb⟩:=List.mem_iff_getElem?.1 hl;have hbl:=(List.getElem?_eq_some_iff.1 hb).1;have e:=zkv (hcv b (by omega) f hf hk);rw [Zaa,hb] at e;exact e⟩⟩,cb,hcl,S2.row,by rw [S2.lr]⟩
   match j,h1,h2 with
   | 0,h1,h2=>cases h1;cases h2;exact F6
   | 1,h1,h2=>cases h1;cases h2;exact F7
   | j+2,h1,h2=>simp at h1
  rw [Zac (by omega),zD,zE,zA,zJ,zA,F93.zlp,zA,zA,F93.zw5];refine zry H5p (gp5 P) (by omega) ?_;rw [zB,F93.v31];have hfs:=zp2 (c:=c) (ps:=ps);by_cases hc:c∈ps
  .rw [if_pos hc,Zbj] at hfs;rw [Zac hc,zD,yA,yF,F93.zst,gq (by omega)];exact hR2 (m2-1) _ _ _ _ _ _ _ _ _ _ _ _ _ (by omega) ⟨c+1,o6,o7,rb,cb,by congr 1,by omega,by rw [hfs];exact S2,by rw [hfs];exact H5⟩
  rw [if_neg hc] at hfs;rw [Zab hc,zC,zE,zA,F93.zw6];refine zau H5p (by omega) λib c0 h6 nx6 hc0 H6 => ?_;rw [zA,F93.zw7];refine zb3 (by unfold fA;omega) _ _ _ _ ?_;rintro _ ⟨s,w,s',w',rfl,i1,i2⟩ _;rw [rat1] at i1 i2;have hc0l:=hc0.1;rw [Zav] at hc0l;rw [sQ (j:=c) rfl cc];refine H6.sj (k:=0) (off:=c*4) rfl (by omega) rfl λh7 H7 => ?_;have hc1:fI (j3 c0 (c*4) [s,w,s',w']) (uI n c):=hc0.put (by rw [Zav];exact cc) i1 i2;have H7:Hp h h7 nx6 ((.arr ib (j3 c0 (c*4) [s,w,s',w'])::P)++SL n o4 o5 rs cs ps T):=H7;rw [zA,zA,F93.zw8,H7.o8 (gp5 (_::P)),zJ];refine F93.zxd (λm x34 h' nx'=>∃ (k:Nat) (c1:List AV),x34=I (k:Int)/\m+k=Q.length/\fI c1 (aA c ((nU Q ps).take k) (uI n c))/\Hp h h' nx' ((.arr ib c1::P)++SL n o4 o5 rs cs ps T)) (m:=Q.length) (by omega) ⟨0,_,rfl,rfl,hc1,H7⟩ ?_;rintro m3 u15 u16 u34 u35 h8 nx8 R3 ⟨k,c1,rfl,hmk,hc1,H8⟩ hR3;rw [F93.t87,zA,F93.zw9,ji,zA,zB,F93.v35];by_cases ck:k<Q.length
  .have hpk:ps[k]? = some (ps.getD k 0):=gN (by omega);have hpn:=hS.rng _ (Zad hpk);obtain ⟨rk,hrk0,hob⟩:=S.ob (n:=n) (o4:=o4) (o5:=o5) (ps:=ps) (T:=T) ck (.arr ib c1::P);obtain ⟨id5,g5,d5⟩:=H8.zbr (j:=k) (gp5 (_::P)) (show (ps.map λp=>I ((p:Nat):Int))[k]? = some (I ((ps.getD k 0:Nat):Int)) by rw [List.getElem?_map,hpk];rfl);obtain ⟨id4,g4,d4⟩:=H8.zbr (j:=k) (gp4 (_::P)) (show (rs.map (rwV n))[k]? = some (rwV n rk) by rw [List.getElem?_map,hrk0];rfl);have hrow:=S.row k ck;have hok:=hS.row _ (yI (d:=[]) ck);obtain ⟨cs2,e1,e2,_,fv⟩:=hrow.get (uD (q:=Q.getD k []) (j:=c) (by rw [hok];exact cc));have hcl:=hc1.1;rw [mD,j9] at hcl;rw [Zac (by omega),zD,zE,zA,zJ,zA,F93.zxa,g5,d5,F93.zxb,g4,d4,sQ (j:=c) rfl cc,H8.gu hob e2 e1];refine mX fv _ _ _ _ ?_;rintro _ ⟨s2,w2,s2',w2',rfl,j1,j2⟩ _;rw [sQ (j:=ps.getD k 0) rfl hpn];refine H8.sj (k:=0) (off:=ps.getD k 0*4) rfl (by omega) rfl λh9 H9 => ?_;rw [F93.zxc,gq (by omega)];refine hR3 (m3-1) _ _ _ _ _ _ (by omega) ⟨k+1,_,by congr 1,by omega,?_,H9⟩;rw [uA hS.len ck,zb8];exact hc1.put (by rw [mD,j9];exact hpn) j1 j2
  obtain rfl:k=Q.length:=by omega
  rw [Zap (by unfold nU;rw [Zfo];omega)] at hc1;have H8:=H8;rw [hP] at H8;have H8:Hp h h8 nx8 (.arr ib c1::.gro o6 1 (frQ c ps).length ((frQ c ps).map λp=>I ((p:Nat):Int))::.gro o7 1 rb.length (rb.map (rwV n))::.arr b3 [xq o6 1 (frQ c ps).length,xq o7 1 rb.length]::(List.zipWith Ob.arr rb cb++SL n o4 o5 rs cs ps T)):=H8;have l0:∀ op:AV->OP,zI (.ptr b3 (0+0)) h8 op=op (xq o6 1 (frQ c ps).length):=λop=>H8.load (k:=3) (i:=0+0) rfl rfl;have l1:∀ op:AV->OP,zI (.ptr b3 (0+1)) h8 op=op (xq o7 1 rb.length):=λop=>H8.load (k:=3) (i:=0+1) rfl rfl;have k1:((gI (bQ 1 [(I 0)]) [(0,1,I (c:Int))]).isSome&&true)=true:=rfl;have k2:((gI (bQ 1 [.zb]) [(0,1,rwV n ib)]).isSome&&true)=true:=rfl;rw [Zab (by omega),zC,yA,yF,F93.zxe];simp only [sFx,l0,l1,k1,k2,jR];refine H8.dm (l:=[I (c:Int)]) rfl λta h9 nx9 H9 => ?_;have l0:∀ op:AV->OP,zI (.ptr b3 (0+0)) h9 op=op (xq o6 1 (frQ c ps).length):=λop=>H9.load (k:=4) (i:=0+0) rfl rfl;have l1:∀ op:AV->OP,zI (.ptr b3 (0+1)) h9 op=op (xq o7 1 rb.length):=λop=>H9.load (k:=4) (i:=0+1) rfl rfl;simp only [l0,l1,zF];refine H9.appN (k:=2) (o:=o6) (c:=1) (new:=[I (c:Int)]) rfl (qa.rd (l:=[I (c:Int)]) (n:=1) (H9.own _ (Zak ..)) rfl) rfl rfl (by decide) (by decide) (by omega) λo6' h10 nx10 _ H10 => ?_;have l0:∀ op:AV->OP,zI (.ptr b3 (0+0)) h10 op=op (xq o6 1 (frQ c ps).length):=λop=>H10.load (k:=4) (i:=0+0) rfl rfl;have l1:∀ op:AV->OP,zI (.ptr b3 (0+1)) h10 op=op (xq o7 1 rb.length):=λop=>H10.load (k:=4) (i:=0+1) rfl rfl;simp only [l0,l1,zF];refine H10.dm (l:=[rwV n ib]) rfl λtb h11 nx11 H11 => ?_;have l0:∀ op:AV->OP,zI (.ptr b3 (0+0)) h11 op=op (xq o6 1 (frQ c ps).length):=λop=>H11.load (k:=5) (i:=0+0) rfl rfl;have l1:∀ op:AV->OP,zI (.ptr b3 (0+1)) h11 op=op (xq o7 1 rb.length):=λop=>H11.load (k:=5) (i:=0+1) rfl rfl;simp only [l0,l1,zF];refine H11.appN (k:=4) (o:=o7) (c:=1) (new:=[rwV n ib]) rfl (qa.rd (l:=[rwV n ib]) (n:=1) (H11.own _ (Zak ..)) rfl) rfl rfl (by decide) (by decide) (by omega) λo7' h12 nx12 _ H12 => ?_;refine H12.store (k:=5) rfl (by simp) (oZ _ _ _) λh13 H13 => ?_;refine H13.store (k:=5) rfl (by simp) (oZ _ _ _) λh14 H14 => ?_;have H15:Hp h h14 nx12 (.arr ib c1::.gro o6' 1 ((frQ c ps).length+1) (((frQ c ps).map λp=>I ((p:Nat):Int))++[I (c:Int)])::.gro o7' 1 (rb.length+1) (rb.map (rwV n)++[rwV n ib])::.arr b3 [xq o6' 1 ((frQ c ps).length+1),xq o7' 1 (rb.length+1)]::(List.zipWith Ob.arr rb cb++SL n o4 o5 rs cs ps T)):=H14.drop.drop;have H16:=H15.perm zku;rw [F93.zst,gq (by omega)];refine hR2 (m2-1) _ _ _ _ _ _ _ _ _ _ _ _ _ (by omega) ⟨c+1,o6',o7',rb++[ib],cb++[c1],by congr 1,by omega,?_,H16.cast ?_⟩
  .rw [hfs,Zbe];exact S2.add hc1
  .rw [hfs,bF (by rw [S2.lr,S2.lc])];simp only [Zae,Zbe,Zbf,Zds,List.map_nil]
 have hx0:lines[0]? = some (lines.getD 0 []):=gN (by omega);have hxi:lines[i]? = some (lines.getD i []):=gN ci;have hm1:=hll _ (yI (d:=[]) (show 0<lines.length by omega));have hmi:=hll _ (yI (d:=[]) ci);obtain ⟨t,ht,hd⟩:=hS.den (by omega);obtain ⟨M,hMe⟩:∃ M,M=HB:=⟨_,rfl⟩;rw [<- hMe] at ht hd;have hMS:M<=861979:=by rw [hMe];exact Zaf _
 obtain ⟨N,hNe⟩:∃ N,N=M+Q.length*M:=⟨_,rfl⟩;have hNS:N<=10343748:=by
  have h1:=Zbg (show Q.length<=11 by omega) hMS;omega
 have hMN:M<=N:=by rw [hNe];exact Nat.le_add_right _ _
 have hA2:2*(N*M)<=9223372036854775807:=by have:=Zbg hNS hMS;omega
 have hA3:N*N<=9223372036854775807:=by have:=Zbg hNS hNS;omega
 have hA4:M*M<=9223372036854775807:=by have:=Zbg hMS hMS;omega
 have hA5:2*(M*(M*M))<=9223372036854775807:=by have:=Zbg hMS (Zbg hMS hMS);omega
 rw [Zac (by omega),zD,zE,zA,zJ,zA,F93.fQ,sFx,l1,bR (i:=i) rfl ci,ldL (getT hxi)];refine xG H3 (by omega) (by omega) (za1 hr ci) λr cr h4 nx4 hcr H4 => ?_;have l1':∀ op:AV->OP,zI (.ptr b1 (0+1)) h4 op=op (wu lines):=λop=>H4.load (i:=0+1) (tl (X:=[Ob.arr r cr]) (kQ S)) rfl;rw [zA,F93.nu,sFx,l1',bR (j:=0) (i:=0) rfl (by omega),ldL (getT hx0)];refine zb3 (by unfold fA;omega) _ _ _ _ ?_;rintro v1 f1 _;rw [rat1] at f1;rw [ldL (getT hx0)];simp only [zF,l1',sFx];rw [bR (j:=0) (i:=0) rfl (by omega)];simp only [zF];refine xG H4 (by omega) (by omega) (za1 hr (by omega)) λr0 cr0 h5 nx5 hcr0 H5 => ?_;have d01:∀ (l:List Int) (j:Nat),xg 1 (at' (nY n l) j):=λl j=>Sg.q1 (by rcases pX n l j with e | e <;> rw [e];exact .inr (.inl rfl);exact .inr (.inr rfl));have q7:∀ {j:Nat} {q:Rat},Dn (t j) M q->xg M q:=λ{j q} hq=>hq.nm (ht j).1 (ht j).2
 refine pU (kr:=1) (ko:=0) (M:=1) (N:=1) (P:=1) (R:=1) H5 rfl rfl (by omega) hcr hcr0 (yQ _ _) (yQ _ _) (by omega) f1 (Sg.q1 (.inr (.inr rfl))) (uT λj=>d01 _ j) (uT λj=>d01 _ j) (λx hx=>by
  obtain ⟨j,_,rfl⟩:=vI hx;rw [Rat.one_mul];exact d01 _ j) (by decide) (by decide) λc1 h6 nx6 hc1 H6 => ?_
 have H6:=H6.drop;rw [zA,zA,F93.rH,H6.o8 (k:=2) rfl,zJ];refine F93.zwx (λm x20 h' nx'=>∃ (k:Nat) (c:List AV) (q:List Rat),x20=I (k:Int)/\m+k=Q.length/\fI c q/\Rvq n t M Q ps (sW n lines i) k q/\Hp h h' nx' ([.arr r c]++SL n o4 o5 rs cs ps T)) (m:=Q.length) (by omega) ⟨0,c1,_,rfl,rfl,hc1,Rvq.zero (λj=>(ht j).2) (xT ..) (pK n lines i),H6⟩ ?_;rintro m2 y8 y9 y20 y21 h7 nx7 R2 ⟨k,c,q,rfl,hmk,hcq,hrk,H7⟩ hR2;rw [F93.t20,zA,F93.mh,ji,zA,zB,F93.v21];by_cases ck:k<Q.length
 .have hpk:ps[k]? = some (ps.getD k 0):=gN (by omega);have hpn:=hS.rng _ (Zad hpk);obtain ⟨rk,hrk0,hob⟩:=S.ob (n:=n) (o4:=o4) (o5:=o5) (ps:=ps) (T:=T) ck [.arr r c];obtain ⟨id5,g5,d5⟩:=H7.zbr (k:=2) (j:=k) rfl (show (ps.map λp=>I ((p:Nat):Int))[k]? = some (I ((ps.getD k 0:Nat):Int)) by rw [List.getElem?_map,hpk];rfl);obtain ⟨id4,g4,d4⟩:=H7.zbr (k:=1) (j:=k) rfl (show (rs.map (rwV n))[k]? = some (rwV n rk) by rw [List.getElem?_map,hrk0];rfl);obtain ⟨cs2,e1,e2,_,fv⟩:=hcq.get (uD (q:=q) (j:=ps.getD k 0) (by rw [hrk.len];exact hpn));have hkN:M+k*M<=N:=by rw [hNe];have:=Zax M (show k<=Q.length by omega);omega
  have hb:Sg (at' q (ps.getD k 0)):=by rw [hrk.late k (Zaf _) ck];exact pK ..
  rw [Zac (by omega),zD,zE,zA,zJ,zA,F93.fK,g5,d5,F93.rJ,sQ (j:=ps.getD k 0) rfl hpn,H7.gu (k:=0) rfl e2 e1,g4,d4]
  refine pU (kr:=0) (ko:=[Ob.arr r c].length+(k+2)) (M:=1) (N:=M) (P:=N) (R:=M) H7 rfl hob (by show 1+(k+2)≠0;omega) hcq (S.row k ck) hrk.len (hS.row _ (yI ck)) (by omega) fv hb.q1 (uT λj=>((hrk.den j).mono hkN).nm (ht j).1 (Zas (ht j).2 hMN)) (uT λj=>q7 (hd _ (yI ck) j)) (λx hx=>by
   obtain ⟨j,_,rfl⟩:=vI hx;exact q7 (hb.mul (hd _ (yI ck) j))) (by omega) hA2 λc' h8 nx8 hc' H8 => ?_
  rw [F93.nV,gq (by omega)];exact hR2 (m2-1) _ _ _ _ _ _ (by omega) ⟨k+1,c',_,by congr 1,by omega,hc',hrk.next hS hd (pK n lines i) ck,H8⟩
 obtain rfl:k=Q.length:=by omega
 rw [Zab (by omega),zC,yA,yF,zA,F93.aQ,wz (by omega),zA,zJ];have hq0:∀ f,Mgf n lines f->dot q f=0:=λf hfm=>by
  rw [hrk.eq,xW (n:=n) _ _ (λx hx => ?_) (xT ..),zpo hfm ci];have hz:=Zda (Zcp hx);exact ⟨hS.row _ hz.1,hdot f hfm _ hz.1⟩
 have hqr:∀ f:List Rat,(∀ q∈Q,dot q f=0)->dot q f=dot (sW n lines i) f:=λf hf=>by
  rw [hrk.eq,xW (n:=n) _ _ (λx hx => ?_) (xT ..)];have hz:=Zda (Zcp hx);exact ⟨hS.row _ hz.1,hf _ hz.1⟩
 refine F93.zk2 (λm x10 h' nx'=>∃ z:Int,x10=I z /\ -1<=z/\z<(n:Int)/\(m:Int)=z+1/\(∀ b:Nat,z<(b:Int)->at' q b=0)/\h'=h7/\nx'=nx7) (m:=n) (by omega) ⟨(n:Int)-1,rfl,by omega,by omega,by omega,λb hb=>j5 (by rw [hrk.len];omega),rfl,rfl⟩ ?_;rintro m3 w10 w22 h8 nx8 R3 ⟨z,rfl,hz1,hz2,hmz,hzb,rfl,rfl⟩ hR3;rw [F93.t30,zA,zA,F93.zlf,F93.zlj,F93.zqb,pz];by_cases cz:0<=z
 case neg =>
  rw [Zab (by omega)];simp only [yZ,dM,dT];rw [F93.zoc,F93.zhz];simp only [yZ,zW];rw [zB,F93.v22,zC,yA,yF,zA,zA,F93.zba,ji,Zac (by omega),zB,F93.v23,zD,yA,yF,F93.zh0,gq (by omega)];rw [hT] at H7
  exact hR (m-1) _ _ _ _ _ _ _ _ _ _ _ _ _ _ _ _ _ _ _ _ _ (by omega) ⟨i+1,o4,o5,rs,cs,Q,ps,O,rfl,rfl,by congr 1,by omega,by omega,by omega,by omega,S,hS,hdot,λi' hi f hf hk=>by
   by_cases e:i'=i
   .rw [e,<- hqr f hk];exact kX _ _ λb=>hzb b (by omega)
   .exact hcv i' (by omega) f hf hk,H7.drop⟩
 obtain ⟨j,rfl⟩:∃ j:Nat,z=(j:Int):=⟨z.toNat,by omega⟩;have hjn:j<n:=by omega
 obtain ⟨cs2,e1,e2,_,fv⟩:=hcq.get (uD (q:=q) (j:=j) (by rw [hrk.len];exact hjn));rw [Zac (by omega)];simp only [yL,zar];rw [sQ (j:=j) rfl hjn,H7.gu (k:=0) rfl e2 e1];refine dB fv _ _ _ _ ?_;rintro _ rfl _;rw [F93.zoc,F93.zhz];simp only [yL,zZ,vw];rw [zB,F93.v22];by_cases hv:at' q j=0
 .rw [Zac (fH.2 (Rat.num_eq_zero.2 hv)),zD,zE,zJ,F93.zdq,wz (by omega)]
  exact hR3 (m3-1) _ _ _ _ (by omega) ⟨(j:Int)-1,rfl,by omega,by omega,by omega,λb hb=>by
   by_cases e:b=j
   .rw [e];exact hv
   .exact hzb b (by omega),rfl,rfl⟩
 rw [Zab (λw=>hv (Rat.num_eq_zero.1 (fH.1 w))),zC,yA,yF,zA,zA,F93.zba,ji,Zab (by omega),zB,F93.v23,zC,zE,zA,F93.zlm,sQ (j:=j) rfl hjn,H7.gu (k:=0) rfl e2 e1];have hrd:∀ b,Dn (t b) N (at' q b):=λb=>by rw [hNe];exact hrk.den b
 obtain ⟨s,s1,sN,dinv,dmul⟩:=zr2 (ht j).1 hv (hrd j);have hqs:∀ b,xg N (at' q b):=λb=>(hrd b).nm (ht b).1 (Zas (ht b).2 hMN);refine zb5 fv hv _ _ _ _ ?_;rintro v2 f2 _;refine pH (kr:=0) (M:=N) (N:=N) H7 rfl hcq hrk.len (by omega) f2 ((dinv.mono (Zas (ht j).2 hMN)).nm s1 sN) (uT hqs) hA3 λc2 h9 nx9 hc2 H9 => ?_;have H9:Hp h h9 nx9 ([.arr r c2]++SL n o4 o5 rs cs ps T):=H9;have hNw:Nv n Q ps j (yY (at' q j)⁻¹ q):=by
  refine ⟨by rw [jW];exact hrk.len,by rw [gR];grind,λb hb=>by rw [gR,hrk.done b hb hb,Zcs],hjn,λb hb=>by rw [gR,hzb b (by omega),Zcs]⟩
 have hqk:∀ f:List Rat,f.length=n->(∀ q∈Q,dot q f=0)->dot (sW n lines i) f=0->dot (yY (at' q j)⁻¹ q) f=0:=λf _ hf h0=>by
  rw [u9,hqr f hf,h0,Zbk]
 have hqb:∀ f:List Rat,(∀ q∈Q,dot q f=0)->dot (yY (at' q j)⁻¹ q) f=0->dot (sW n lines i) f=0:=λf hf h0=>by
  rw [u9] at h0;rw [<- hqr f hf];grind
 have hq2:∀ f,Mgf n lines f->dot (yY (at' q j)⁻¹ q) f=0:=λf hfm=>by rw [u9,hq0 f hfm,Zbk]
 obtain ⟨q2,hq2e⟩:∃ q2,q2=yY (at' q j)⁻¹ q:=⟨_,rfl⟩;rw [<- hq2e] at hc2 hNw hq2 hqk hqb;have hnl:(uQ Q j q2).length=Q.length:=by unfold uQ;rw [Zai]
 obtain ⟨t2,ht2,hd2⟩:=(hS.next hNw (xT ..) (pK n lines i) hqk).den (by rw [Zae,hnl,Zbf];omega);rw [<- hMe] at ht2 hd2;have hd3:∀ b,Dn (t2 b) M (at' q2 b):=λb=>hd2 q2 (by simp) b;rw [zA,zA,F93.zln,H9.o8 (k:=1) rfl,zJ];refine F93.zw0 (λm x26 h' nx'=>∃ (k:Nat) (cs':List (List AV)),x26=I (k:Int)/\m+k=Q.length/\SM rs cs' ((uQ Q j q2).take k++Q.drop k)/\Hp h h' nx' ([.arr r c2]++SL n o4 o5 rs cs' ps T)) (m:=Q.length) (by omega) ⟨0,cs,rfl,rfl,by rw [Zdi,Zbv,Zdg];exact S,H9⟩ ?_;rintro m4 u11 u26 u27 h10 nx10 R4 ⟨k,cs',rfl,hmk4,S',H10⟩ hR4;have hml:((uQ Q j q2).take k++Q.drop k).length=Q.length:=by rw [Zae,Zal,Zcc];omega
 have hrl:=S.lr;rw [F93.t47,zA,F93.zwy,ji,zA,zB,F93.v27];by_cases ck:k<Q.length
 .have hQk:Q[k]? = some (Q.getD k []):=gN ck;have hmk:((uQ Q j q2).take k++Q.drop k)[k]? = some (Q.getD k []):=zzs hnl hQk;have hmg:((uQ Q j q2).take k++Q.drop k).getD k []=Q.getD k []:=by rw [Zaa,hmk];rfl
  have hnk:(uQ Q j q2)[k]? = some (jU (at' (Q.getD k []) j) (Q.getD k []) q2):=by unfold uQ;rw [List.getElem?_map,hQk];rfl
  obtain ⟨rk,hrk0,hob⟩:=S'.ob (n:=n) (o4:=o4) (o5:=o5) (ps:=ps) (T:=T) (by rw [hml];exact ck) [.arr r c2];have hrow:=S'.row k (by rw [hml];exact ck);rw [hmg] at hrow;obtain ⟨id4,g4,d4⟩:=H10.zbr (k:=1) (j:=k) rfl (show (rs.map (rwV n))[k]? = some (rwV n rk) by rw [List.getElem?_map,hrk0];rfl);have hok:=hS.row _ (yI (d:=[]) ck);obtain ⟨cs3,e3,e4,_,fo⟩:=hrow.get (uD (q:=Q.getD k []) (j:=j) (by rw [hok];exact hjn));rw [Zac (by omega),zD,zE,zA,zJ,zA,F93.zwz,g4,d4,F93.zlo,sQ (j:=j) rfl hjn,H10.gu hob e4 e3]
  refine pU (kr:=[Ob.arr r c2].length+(k+2)) (ko:=0) (M:=M) (N:=M) (P:=M) (R:=M*M) H10 hob rfl (by show 0≠1+(k+2);omega) hrow hc2 hok hNw.len (by omega) fo (q7 (hd _ (yI ck) j)) (uT λb=>q7 (hd _ (yI ck) b)) (uT λb=>(hd3 b).nm (ht2 b).1 (ht2 b).2) (λx hx=>by
   obtain ⟨b,_,rfl⟩:=vI hx;exact ((hd _ (yI ck) j).mul (hd3 b)).nm (Nat.mul_pos (ht j).1 (ht2 b).1) (Zbg (ht j).2 (ht2 b).2)) hA4 hA5 λc' h11 nx11 hc' H11 => ?_
  obtain ⟨S2,eL⟩:=S'.put (n:=n) (o4:=o4) (o5:=o5) (ps:=ps) (T:=T) (by rw [hml];exact ck) hrk0 hc' [.arr r c2];rw [F93.zk8,gq (by omega)];exact hR4 (m4-1) _ _ _ _ _ (by omega) ⟨k+1,cs'.set k c',by congr 1,by omega,by rw [<- zpn hnl hnk];exact S2,H11.cast eL⟩
 obtain rfl:k=Q.length:=by omega
 rw [Zap (by omega),Zby (by omega),Zbj] at S';rw [Zab (by omega),zC,yA,yF,F93.zd0];refine H10.dm (l:=[rwV n r]) rfl λtb h11 nx11 H11 => ?_;refine H11.appN (k:=2) (o:=o4) (c:=1) (new:=[rwV n r]) rfl (qa.rd (l:=[rwV n r]) (n:=1) (H11.own _ (Zak ..)) rfl) rfl rfl (by decide) (by decide) (by omega) λo4' h12 nx12 _ H12 => ?_;refine H12.dm (l:=[I (j:Int)]) rfl λtb2 h13 nx13 H13 => ?_;refine H13.appN (k:=4) (o:=o5) (c:=1) (new:=[I (j:Int)]) rfl (qa.rd (l:=[I (j:Int)]) (n:=1) (H13.own _ (Zak ..)) rfl) rfl rfl (by decide) (by decide) (by omega) λo5' h14 nx14 _ H14 => ?_;have H15:Hp h h14 nx14 (.arr r c2::.gro o4' 1 (rs.length+1) (rs.map (rwV n)++[rwV n r])::.gro o5' 1 (ps.length+1) ((ps.map λp=>I ((p:Nat):Int))++[I (j:Int)])::(List.zipWith Ob.arr rs cs'++T)):=H14.drop.drop;have H16:=H15.perm zpm;have eL:(.gro o4' 1 (rs.length+1) (rs.map (rwV n)++[rwV n r])::.gro o5' 1 (ps.length+1) ((ps.map λp=>I ((p:Nat):Int))++[I (j:Int)])::((List.zipWith Ob.arr rs cs'++[Ob.arr r c2])++T))=SL n o4' o5' (rs++[r]) (cs'++[c2]) (ps++[j]) T:=by
  unfold SL;rw [bF (by rw [S'.lr,S'.lc]),Zae,Zae,Zbe,Zbe];rfl
 have H17:=H16.cast eL;rw [hT] at H17;rw [F93.zh0,gq (by omega)];refine hR (m-1) _ _ _ _ _ _ _ _ _ _ _ _ _ _ _ _ _ _ _ _ _ (by omega) ⟨i+1,o4',o5',rs++[r],cs'++[c2],uQ Q j q2++[q2],ps++[j],O++[sW n lines i],by rw [Zae];rfl,by rw [Zae];rfl,by congr 1,by omega,by omega,by omega,by rw [Zae,hnl,Zbf];omega,S'.add hc2,hS.next hNw (xT ..) (pK n lines i) hqk,λf hfm q' hq' => ?_,λi' hi f hf hk => ?_,H17⟩
 .rcases List.mem_append.1 hq' with hq' | hq'
  .obtain ⟨o,ho,rfl⟩:=List.mem_map.1 hq';rw [uK _ _ _ _ (by rw [hS.row o ho,hNw.len]),hdot f hfm o ho,hq2 f hfm,Zbk];grind
  .obtain rfl:=List.mem_singleton.1 hq';exact hq2 f hfm
 .have h2:=hk q2 (by simp);have h3:∀ o∈Q,dot o f=0:=λo ho=>by
   have:=hk _ (Zco _ (List.mem_map_of_mem (f:=λo=>jU (at' o j) o q2) ho));rw [uK _ _ _ _ (by rw [hS.row o ho,hNw.len]),h2,Zbk] at this
   grind
  by_cases e:i'=i
  .rw [e];exact hqb f h3 h2
  .exact hcv i' (by omega) f hf h3
end Go.Ev
namespace Go.Ev
open Go Go.Proofs
theorem RkG.allV {n:Nat} {O Q:List (List Rat)} {ps:List Nat} {g:List Rat} (hS:Sv n O Q ps) (hg:g.length=n):∀ k,k<=Q.length->RkG n Q ps g k (sH ((nU Q ps).take k) g)
 | 0,_=>⟨rfl,hg,λc=>by rw [Zdi,sH,aH];grind,λb _ _=>rfl,λb h=>by omega⟩
 | k+1,hk=>by
  have h:=RkG.allV hS hg k (by omega);have hk':k<Q.length:=by omega
  have hq:=yI (d:=[]) hk';have hll:(sH ((nU Q ps).take k) g).length=(Q.getD k []).length:=by rw [h.len,hS.row _ hq]
  have hl:=h.late k (Zaf _) hk';refine ⟨rfl,?_,λc => ?_,λb h1 h2 => ?_,λb h1 h2 => ?_⟩
  .rw [uA hS.len hk',gS,jZ hll];exact h.len
  .rw [uA hS.len hk',gS,jD hll,h.val c,vN,hl];grind
  .rw [uA hS.len hk',gS,jD hll,hS.one k b hk' h2,if_neg (by omega),h.late b (by omega) h2];grind
  .rw [uA hS.len hk',gS,jD hll,hS.one k b hk' h2];by_cases e:b=k
   .subst e;rw [if_pos rfl];grind
   .rw [if_neg (by omega),h.done b (by omega) h2];grind
theorem Sv.nodup {n:Nat} {O Q:List (List Rat)} {ps:List Nat} (hS:Sv n O Q ps):ps.Nodup:=by
 rw [Zeo,Zet];intro a b ha hb hab e;have ha':a<Q.length:=by have:=hS.len;omega
 have hb':b<Q.length:=by have:=hS.len;omega
 have h1:=hS.one a a ha' ha';have h2:=hS.one a b ha' hb';have e1:ps.getD a 0=ps[a]:=by rw [Zaa,List.getElem?_eq_getElem ha];rfl
 have e2:ps.getD b 0=ps[b]:=by rw [Zaa,List.getElem?_eq_getElem hb];rfl
 rw [if_pos rfl,e1] at h1;rw [if_neg (by omega),e2,<- e,h1] at h2;exact absurd h2 (by decide)
theorem zwk {n:Nat} {O Q:List (List Rat)} {ps:List Nat} {f g:List Rat} (hS:Sv n O Q ps) (hg:g.length=n) (hq:∀ q∈Q,dot q f=0) (hb:∀ c,c<n->c∉ps->dot (rT n Q ps c) g=0):dot g f=0:=by
 have h:=RkG.allV hS hg Q.length (Zaf _);have hlz:(nU Q ps).length=Q.length:=by unfold nU;rw [Zfo,hS.len,Nat.min_self]
 rw [Zap (by omega)] at h;rw [<- xW (n:=n) (f:=f) (nU Q ps) g (λx hx=>⟨hS.row _ (Zda hx).1,hq _ (Zda hx).1⟩) hg];refine kX _ _ λc => ?_;by_cases hc:c<n
 .by_cases hcp:c∈ps
  .obtain ⟨b,hb1,hb2⟩:=List.getElem_of_mem hcp;have e:ps.getD b 0=c:=by rw [Zaa,List.getElem?_eq_getElem hb1];exact hb2
   have:=h.done b (by have:=hS.len;omega) (by have:=hS.len;omega)
   rwa [e] at this
  .have h1:=hb c hc hcp;unfold rT at h1
   have h2:=zav (c:=c) hg (nU Q ps) (uI n c) (j9 n c) (by rw [zi6 hS.len];exact hS.nodup) (λx hx=>by
    have hx2:=(Zda hx).2;exact ⟨hS.rng _ hx2,zi5 λe=>hcp (e ▸ hx2)⟩)
   have h3:=h.val c;rw [Zap (by omega)] at h3;rw [h3];rw [zfq hg hc] at h2
   grind
 .exact j5 (by rw [h.len];omega)
theorem zca {n c i:Nat} {O Q:List (List Rat)} {ps:List Nat} (hS:Sv n O Q ps) (hi:i<Q.length):∀ k,k<=Q.length->aH c (Q.getD i []) ((nU Q ps).take k)=if i<k then at' (Q.getD i []) c else 0
 | 0,_=>by rw [Zdi,if_neg (by omega)];rfl
 | k+1,hk=>by
  rw [uA hS.len (by omega),vN,zca hS hi k (by omega),hS.one i k hi (by omega)];by_cases e:i=k
  .subst e;rw [if_neg (by omega),if_pos rfl,if_pos (by omega)];grind
  .rw [if_neg e];by_cases c:i<k
   .rw [if_pos c,if_pos (by omega)];grind
   .rw [if_neg c,if_neg (by omega)];grind
theorem zr7 {n c:Nat} {O Q:List (List Rat)} {ps:List Nat} (hS:Sv n O Q ps) (hc:c<n) (hcp:c∉ps):∀ q∈Q,dot q (rT n Q ps c)=0:=λq hq=>by
 obtain ⟨i,hi⟩:=List.mem_iff_getElem?.1 hq;have hil:=(List.getElem?_eq_some_iff.1 hi).1;have hqi:Q.getD i []=q:=by rw [Zaa,hi];rfl
 have hg:=hS.row q hq
 have h2:=zav (c:=c) hg (nU Q ps) (uI n c) (j9 n c) (by rw [zi6 hS.len];exact hS.nodup) (λx hx=>by
  have hx2:=(Zda hx).2;exact ⟨hS.rng _ hx2,zi5 λe=>hcp (e ▸ hx2)⟩)
 have h3:=zca (c:=c) hS hil Q.length (Zaf _);have hlz:(nU Q ps).length=Q.length:=by unfold nU;rw [Zfo,hS.len,Nat.min_self]
 rw [Zap (by omega),hqi,if_pos hil] at h3;rw [zfq hg hc,h3] at h2;rw [dot_comm];unfold rT
 grind
theorem za2 {n:Nat} {O Q:List (List Rat)} {ps:List Nat} (hS:Sv n O Q ps) (hQ:Q.length<=11) (c:Nat):∃ t,1<=t/\t<=HB/\∀ j,Dn t (HB) (at' (rT n Q ps c) j):=by
 obtain ⟨t,h1,h2,h3⟩:=hS.col hQ c;refine ⟨t,h1,h2,λj => ?_⟩;unfold rT;refine zi4 (P:=Dn t (HB)) c j _ _ (λx hx => ?_) ?_
 .exact (h3 _ (Zda hx).1).neg
 .rcases pF n c j with e | e <;> rw [e]
  .exact Dn.zero _ _
  .exact Sg.dn (.inr (.inr rfl)) h2
end Go.Ev
namespace Go.Ev
open Go Go.Proofs
variable {B:Nat}
set_option maxRecDepth 100000
def conQ (b:List Rat) (l:List Int) (j:Nat):Rat:=(l.take j).foldl (λs c=>s+at' b c.toNat) 0
theorem mY {b:List Rat} {l:List Int} {j:Nat} (h:j<l.length):conQ b l (j+1)=conQ b l j+at' b l[j].toNat:=by
 unfold conQ;rw [Zau,List.getElem?_eq_getElem h,Zch,List.foldl_append];rfl
theorem zjg {b:List Rat} {n:Nat} {l:List Int} (hb:b.length=n) (hl:AscL n l):∀ j,j<=l.length->conQ b l j=dot (nY n (l.take j)) b
 | 0,_=>by
  have:dot (nY n []) b=0:=kX _ _ (xD n);rw [Zdi,this];rfl
 | j+1,hj=>by
  have hx:l[j]? = some l[j]:=List.getElem?_eq_getElem (by omega);rw [mY (by omega),zjg hb hl j (by omega),Zau,hx,Zch];refine (zde hb (hl.2.2 _ (Zbb (by omega))) (λhm => ?_) λx hx=>(hl.2.2 _ (Zcp hx)).1).symm;obtain ⟨i,hi,he⟩:=List.getElem_of_mem hm;rw [Zal] at hi;rw [List.getElem_take] at he;have:=List.pairwise_iff_getElem.1 hl.2.1 i j (by omega) (by omega) (by omega);omega
theorem zdi:T9 0=.str [48]:=by rw [T9,zb6.2 rfl]
abbrev eR (f:List Rat):AV:=.lst 1 f.length (f.map T9)
theorem zhq {f:List Rat} {i:Nat} (h:i<f.length):(f.map T9)[i]? = some (T9 (at' f i)):=by rw [List.getElem?_map,uD h];rfl
theorem Dn.add {t M N:Nat} {p q:Rat} (hp:Dn t M p) (hq:Dn t N q):Dn t (M+N) (p+q):=by
 obtain ⟨z,e,hz⟩:=hp;obtain ⟨w,f,hw⟩:=hq;refine ⟨z+w,by rw [Zfm];grind,?_⟩;have:=Zec z w;omega
theorem zhr {f:List Rat} {l:List Int} {t M:Nat} (hf:∀ j,Dn t M (at' f j)):∀ j,Dn t (j*M) (conQ f l j)
 | 0=>Dn.zero _ _
 | j+1=>by
  by_cases h:j<l.length
  .rw [mY h,Zaz,Zcl];exact (zhr hf j).add (hf _)
  .have e:conQ f l (j+1)=conQ f l j:=by unfold conQ;rw [Zap (by omega),Zap (by omega)]
   rw [e];exact (zhr hf j).mono (Zax _ (by omega))
theorem zcb {t M:Nat} {q:Rat} (t1:1<=t) (t2:t<=HB) (h:Dn t M q) (hM:M<=1000*HB):q.num.natAbs<1000000000/\q.den<1000000000:=by
 have:=(h.mono hM).nm t1 (Zas t2 (by decide));have e:1000*HB<1000000000:=by decide
 exact ⟨Zfu this.1 e,Zfu this.2 e⟩
theorem zue {f:List Rat} (hl:f.length<=1000) (hs:∀ x∈f,Sml x/\x.den<1000000000):Pure Tryz.prog B 37 [eR f] (· = I 0):=by
 refine zX λh nx K H0 hK=>zM zO yD 2000 λhf' => ?_;rw [F37.go,F37.t22,zA,F37.zx,zA,zA,F37.zu,zJ];refine F37.tq (λk x2 h' nx'=>∃ i:Nat,x2=I (i:Int)/\k+i=f.length/\h'=h/\nx'=nx) (m:=f.length) (by omega) ⟨0,rfl,rfl,rfl,rfl⟩ ?_;rintro k z1 z2 z3 z4 z5 h3 nx3 R ⟨i,rfl,hk,rfl,rfl⟩ hR;rw [F37.t15,zA,zA,F37.je,zV,ji,zB,F37.v4];by_cases ci:i<f.length
 .rw [Zac (by omega),zD,zE,zA,zJ,zA,F37.mg,bR (i:=i) rfl ci,ldL (zhq ci)];refine zpt (hs _ (Zad (uD ci))).1 (hs _ (Zad (uD ci))).2 _ _ _ _ ?_;rintro _ rfl _;rw [zA,F37.qj,di,Zac rfl,Zaj,zB,F37.v5,zC,zE,F37.fK,gq (by omega)];exact hR (k-1) _ _ _ _ _ _ _ (by omega) ⟨i+1,by congr 1,by omega,rfl,rfl⟩
 .rw [Zab (by omega),zC,yA,yF,zA,F37.nQ];simp only [zH,zP];rw [F37.ret];exact hK _ _ _ _ _ H0 (zY rfl) rfl
theorem zr8 {n:Nat} {lines:List (List Int)} {l:List Int} {f:List Rat} (hl0:lines[0]? = some l) (hl:l.length<=100) (hf:f.length=n) (hr:∀ c∈l,0<=c/\c<(n:Int)) (hlt:l.length<=16) {t:Nat} (t1:1<=t) (t2:t<=HB) (hQ:∀ j,Dn t HB (at' f j)):Pure Tryz.prog B 44 [.agg [I (n:Int),wu lines],eR f] (· = T9 (conQ f l l.length)):=by
 refine zX λh nx K H0 hK=>zM zO yD 200 λhf' => ?_;have hlm:(lines.map Go.Ev.encI)[0]? = some (Go.Ev.encI l):=by rw [List.getElem?_map,hl0];rfl
 have hln:0<lines.length:=(List.getElem?_eq_some_iff.1 hl0).1;rw [F44.go,F44.t18,zA,F44.zx];refine H0.box (l:=[I (n:Int),wu lines]) rfl λbx h1 nx1 H1 => ?_;rw [zA,F44.zu,zA,zA,F44.je,zJ];refine F44.zk4 (λk x4 x5 h' nx'=>∃ i:Nat,x4=T9 (conQ f l i)/\x5=I (i:Int)/\k+i=l.length/\h'=h1/\nx'=nx1) (m:=l.length) (by omega) ⟨0,zdi.symm,rfl,rfl,rfl,rfl⟩ ?_;rintro k z4 z5 z6 h3 nx3 R ⟨i,rfl,rfl,hk,rfl,rfl⟩ hR;rw [F44.t10,zA,zA,F44.bq,sFx,H1.load (k:=0) (i:=0+1) rfl rfl,bR (j:=0) (i:=0) rfl hln,ldL hlm,zV,ji,zB,F44.v6];by_cases c:i<l.length
 .have hx:=List.getElem?_eq_getElem c;have hb:=hr _ (Zbb c);have q1:=zcb t1 t2 ((zhr (l:=l) hQ i).mono (Zax HB (show i<=16 by omega))) (by decide);have q2:=zcb t1 t2 (hQ l[i].toNat) (by decide);rw [Zac (by omega),zD,zE,zA,zJ,F44.qj,F44.r4_0,F44.zf4,sFx,H1.load (k:=0) (i:=0+1) rfl rfl,bR (j:=0) (i:=0) rfl hln,ldL hlm,bR (i:=i) rfl c,F44.r4_1,F44.zf5,ldL (sV hx),bR (i:=l[i].toNat) (by omega) (by omega),ldL (zhq (by omega))];refine zpf q1.1 q1.2 q2.1 q2.2 _ _ _ _ ?_;rintro _ rfl _;rw [F44.r4_2,F44.zf6,F44.fQ,gq (by omega)];exact hR (k-1) _ _ _ _ _ (by omega) ⟨i+1,by rw [mY c],by congr 1,by omega,rfl,rfl⟩
 .obtain rfl:i=l.length:=by omega
  rw [Zab (by omega),zC,yA,yF,zA,F44.rJ];simp only [zH,zP];rw [F44.ret];exact hK _ _ _ _ _ H1 (zY rfl) rfl
theorem tX.sgn {s w:AV} {z:Int} (h:tX s w z):∃ n,s=I n/\(n<0↔z<0):=by
 rcases h with ⟨rfl,_⟩ | ⟨n,rfl,_,⟨a,rfl⟩ | ⟨a,rfl⟩,_⟩
 .exact ⟨_,rfl,Iff.rfl⟩
 .exact ⟨_,rfl,by constructor <;> intro <;> omega⟩
 .exact ⟨_,rfl,by constructor <;> intro <;> omega⟩
def zuf (v:AV) (q:Rat):Prop:=∃ s w s' w',v=.agg [s,w,s',w']/\tX s w q.num/\tX s' w' (q.den:Int)
theorem tX.ay {s w s' w':AV} {a b:Int} (h:tX s w a) (h':tX s' w' b):∀ v∈[s,w,s',w'],fw v=true:=by
 intro v hv;rcases List.mem_cons.1 hv with rfl | hv
 .exact h.fix _ (by simp)
 rcases List.mem_cons.1 hv with rfl | hv
 .exact h.fix _ (by simp)
 exact h'.fix _ hv
theorem tX.build {s w s' w':AV} {a b:Int} (h:tX s w a) (h':tX s' w' b) {K:AV->OP}:gF [(I 0),.zb,(I 0),.zb] [(0,2,.agg [s,w]),(2,2,.agg [s',w'])] K=K (.agg [s,w,s',w']):=nr rfl
theorem Zs.mono {k m:Nat} {z:Int} (h:Zs k z) (hkm:k<=m):Zs m z:=Zcv h (Zcr (by decide) hkm)
theorem Zs.mul {k m:Nat} {a b:Int} (ha:Zs k a) (hb:Zs m b):Zs (k+m) (a*b):=by
 unfold Zs at *
 rw [Zcf,Zea];exact Zel ha hb
theorem Zs.add {k:Nat} {a b:Int} (ha:Zs k a) (hb:Zs k b):Zs (k+1) (a+b):=by
 unfold Zs at *
 have h1:=Zec a b;have h2:18446744073709551616 ^ (k+1)=18446744073709551616 ^ k*18446744073709551616:=Zcx ..;omega
theorem zjh {z:Int}:((z:Rat)).num=z/\(((z:Rat)).den:Int)=1:=⟨Zfl z,by rw [Rat.den_intCast];rfl⟩
theorem zp4 {v:AV} {z:Int} (hv:IntV v z):Pure Tryz.prog B 186 [v] (λv=>zuf v (z:Rat)):=by
 obtain ⟨s,w,rfl,hv⟩:=hv;refine zX λh nx K H0 hK=>zM zO yD 100 λhf => ?_;rw [bg.go,bg.t3,zA,bg.zx];refine H0.box (l:=[s,w]) rfl λpa h1 nx1 H1 => ?_;refine H1.alloc λp h2 nx2 H2 => ?_;rw [zA,bg.zu,H2.zn (k:=1) (n:=2) rfl rfl];refine of85 (by omega) _ _ _ _ ?_;rintro _ ⟨s',w',rfl,h'⟩ _;rw [H2.zn (k:=1) (n:=2) rfl rfl,zF,hv.build h'];refine H2.yx (l2:=[s,w,s',w']) (k:=0) rfl rfl rfl λh4 H4 => ?_;simp only [zH,zP];rw [bg.ret,H4.zn (k:=0) (n:=4) rfl rfl];exact hK _ _ _ _ _ H4 (uAgg (hv.ay h')) ⟨_,_,_,_,rfl,by rw [zjh.1];exact hv,by rw [zjh.2];exact h'⟩
theorem f89 {z:Int} (h : -9223372036854775808<=z/\z<=9223372036854775807):Pure Tryz.prog B 96 [I z] (λv=>zuf v (z:Rat)):=by
 refine zX λhh nx K H0 hK=>zM zO yD 100 λhf => ?_;rw [F96.go,F96.t3,zA,F96.zx];refine H0.alloc λp h2 nx2 H2 => ?_;rw [zA,F96.zu];refine of85 h _ _ _ _ ?_;intro v hv _;refine zp4 hv _ _ _ _ ?_;rintro _ ⟨s,w,s',w',rfl,i1,i2⟩ _;refine H2.yx (l2:=[s,w,s',w']) (k:=0) rfl rfl rfl λh4 H4 => ?_;simp only [zH,zP];rw [F96.ret,H4.zn (k:=0) (n:=4) rfl rfl];exact hK _ _ _ _ _ H4 (uAgg (i1.ay i2)) ⟨_,_,_,_,rfl,i1,i2⟩
theorem uGWt (op:KW3->OP) (h:T Blk) (nx:Pa) (k:KW3):sGW (.bool true) true op h nx k=op k:=nr rfl
theorem uGWf (op:KW3->OP) (h:T Blk) (nx:Pa) (k:KW3):sGW (.bool false) true op h nx k=k .u h nx:=nr rfl
def fewB (a b:Int) (cells:Int) (lines:List (List Int)):Bool:=decide ((lines.length:Int)<=b/\∀ l∈lines,(l.length:Int)<=a)&&(decide (gA cells lines=0)&&decide (cells<=a))
theorem zzu {cells:Int} {lines:List (List Int)}:Pure Tryz.prog B 35 [.agg [I cells,wu lines],I 16,I 12] (· = .bool (fewB 16 12 cells lines)):=by
 refine zX λh nx K H0 hK=>zM zO yD 100 λhf => ?_;rw [F35.go,F35.t3,zA,F35.zx];refine H0.box (l:=[I cells,wu lines]) rfl λbx h1 nx1 H1 => ?_;have ret:∀ {b:Bool},b=fewB 16 12 cells lines->K (.bool b) h1 nx1=.ok True:=λe=>hK _ _ _ _ _ H1 (zY rfl) (by rw [e]);rw [zA,F35.zu,F35.nR,F35.nS,H1.zn (k:=0) (n:=2) rfl rfl];refine zr3 (by omega) _ _ _ _ ?_;rintro _ rfl _;rw [F35.rO,F35.fT];by_cases c1:(lines.length:Int)<=12/\∀ l∈lines,(l.length:Int)<=16
 case neg =>
  rw [Zab c1];simp only [yZ,dM,uGWf];rw [F35.r1_2,F35.zce];simp only [yZ,dM,zW];rw [F35.r1_3,F35.aU];simp only [zH,zP];rw [F35.ret];exact ret (by rw [fewB,Zab c1];rfl)
 rw [Zac c1];simp only [yL,uGWt];rw [H1.zn (k:=0) (n:=2) rfl rfl];refine zpz (λq hq=>by have:=c1.2 q hq;omega) _ _ _ _ ?_;rintro _ rfl _;rw [F35.r1_2,F35.zce];simp only [yL,zZ];rw [vw];by_cases c2:gA cells lines=0
 case neg =>
  rw [Zab c2];simp only [yZ,dM,zW];rw [F35.r1_3,F35.aU];simp only [zH,zP];rw [F35.ret];exact ret (by rw [fewB,Zac c1,Zab c2];rfl)
 rw [Zac c2];simp only [yL,zZ];rw [sFx,H1.load (k:=0) (i:=0+0) rfl rfl,fO];rw [F35.r1_3,F35.aU];simp only [zH,zP];rw [F35.ret];exact ret (by rw [fewB,Zac c1,Zac c2];rfl)
end Go.Ev
namespace Go.Ev
open Go Go.Proofs
theorem zdj {R Bd r:Nat} (hr:r<=R) (hB:(R+1) ^ R<(Bd+1)*(Bd+1)) (a:Nat->Nat->Int) (ha:∀ i j,a i j = -1\/a i j=0\/a i j=1):∃ x:Nat->Int,(∃ j,j<=r/\x j≠0)/\(∀ j,(x j).natAbs<=Bd)/\∀ i,i<r->sI (r+1) (λj=>a i j*x j)=0:=by
 obtain ⟨x,hx,⟨j,hj⟩,hs,hk⟩:=hada (n:=r+1) (B:=((r+1:Nat):Int)) (by omega) ((List.range r).map λi=>(List.range (r+1)).map (a i)) (λb hb=>by
  obtain ⟨i,_,rfl⟩:=List.mem_map.1 hb;refine ⟨by simp,?_⟩;have:=zpx ((List.range (r+1)).map (a i)) λy hy=>by
   obtain ⟨j,_,rfl⟩:=List.mem_map.1 hy;exact ha i j
  simpa using this) (by simp)
 have hxe:x=(List.range (r+1)).map λj=>x.getD j 0:=by
  refine List.ext_getElem (by simp [hx]) λi h1 h2 => ?_;simp [Zaa,h1]
 refine ⟨λj=>x.getD j 0,⟨j,?_,hj⟩,λj => ?_,λi hi => ?_⟩
 .refine Classical.byContradiction λc=>hj ?_;rw [Zaa,List.getElem?_eq_none (by omega)];rfl
 .have h1:=zhm x j;rw [Zai,Zdm] at hs;have h2:(r+1) ^ r<=(R+1) ^ R:=Zas (Nat.pow_le_pow_left (show r+1<=R+1 by omega) r) (Zcr (by omega) hr);have h3:(((r+1:Nat):Int)) ^ r=(((r+1) ^ r:Nat):Int):=by simp
  rw [h3] at hs;show (x.getD j 0).natAbs<=Bd;refine Zfd λc => ?_;have h5:=Zbg (show Bd+1<=(x.getD j 0).natAbs from c) (show Bd+1<=(x.getD j 0).natAbs from c);have h6:=Int.natAbs_mul_self (a:=x.getD j 0);omega
 .have:=hk _ (List.mem_map.2 ⟨i,List.mem_range.2 hi,rfl⟩);rw [hxe,zaz] at this;exact this
theorem zp5 {F:Nat->Int} {Bd:Nat}:∀ {k:Nat},(∀ j,j<k->(F j).natAbs<=Bd)->(sI k F).natAbs<=k*Bd
 | 0,_=>by simp [sI]
 | k+1,h=>by
  have h1:=zp5 (k:=k) λj hj=>h j (by omega);have h2:=h k (by omega);rw [sI,Zaz,Zcl];have:=Zec (sI k F) (F k);omega
theorem zji (q:Rat) (x:Int):(sgI q*x).natAbs<=x.natAbs:=by
 rcases za0 q with e | e | e <;> rw [e] <;> omega
structure Tv (n:Nat) (O P:List (List Rat)) (ps:List Nat):Prop where
 len:ps.length=P.length
 olen:O.length=P.length
 row:∀ q∈P,q.length=n
 orow:∀ o∈O,o.length=n
 osg:∀ o∈O,∀ j,Sg (at' o j)
 rng:∀ p∈ps,p<n
 one:∀ a,a<P.length->at' (P.getD a []) (ps.getD a 0)=1
 low:∀ a b,a<P.length->b<a->at' (P.getD a []) (ps.getD b 0)=0
 ker:∀ a,a<P.length->∀ f:List Rat,f.length=n->(∀ b,b<=a->dot (O.getD b []) f=0)->dot (P.getD a []) f=0
theorem Tv.nil (n:Nat):Tv n [] [] []:=⟨rfl,rfl,by simp,by simp,by simp,by simp,λa h=>by simp at h,λa b h=>by simp at h,λa h=>by simp at h⟩
abbrev colF (k:Nat) (ps:List Nat) (j i:Nat):Nat:=if i<k then ps.getD i 0 else j
theorem Tv.colR {n k j:Nat} {O P:List (List Rat)} {ps:List Nat} (h:Tv n O P ps) (hk:k<=P.length) (hj:j<n) (i:Nat):colF k ps j i<n:=by
 unfold colF;by_cases q:i<k
 .rw [if_pos q];exact h.rng _ (yI (by rw [h.len];omega))
 .rw [if_neg q];exact hj
theorem Tv.pl {n k j:Nat} {O P:List (List Rat)} {ps:List Nat} (h:Tv n O P ps) (hk:k<=P.length) (hj:j<n) (x:Nat->Rat) {v:List Rat} (hv:v.length=n):dot v (plF n (colF k ps j) x (k+1))=sR k (λb=>at' v (ps.getD b 0)*x b)+at' v j*x k:=by
 rw [xH hv _ λi _=>h.colR hk hj i,sR]
 congr 1
 .exact uV λb hb=>by rw [colF,if_pos hb]
 .rw [colF,if_neg (Zde _)]
theorem xB {k i:Nat} {F x:Nat->Rat} (h:∀ b,b<k->F b=(if i=b then 1 else 0)*x b):sR k F=if i<k then x i else 0:=by
 rw [uV h,zhn]
theorem zdk {k:Nat} {F:Nat->Rat} (h:∀ b,b<k->F b=0):sR k F=0:=by
 rw [xB (i:=k) (x:=F) λb hb=>by rw [h b hb,if_neg (by omega),Zcs],if_neg (Zde _)]
theorem Tv.sol {n k j R Bd:Nat} {O P:List (List Rat)} {ps:List Nat} (h:Tv n O P ps) (hk:k<=P.length) (hj:j<n) (hR:k<=R) (hB:(R+1) ^ R<(Bd+1)*(Bd+1)):∃ x:Nat->Int,x k≠0/\(∀ i,(x i).natAbs<=Bd)/\∀ b,b<k->dot (O.getD b []) (plF n (colF k ps j) (λi=>(x i:Rat)) (k+1))=0:=by
 obtain ⟨x,⟨b,hb,hb0⟩,hx,hz⟩:=zdj hR hB (λi c=>sgI (at' (O.getD i []) (colF k ps j c))) λi c=>za0 _;have hO:∀ b,b<k->dot (O.getD b []) (plF n (colF k ps j) (λi=>(x i:Rat)) (k+1))=0:=λi hi=>by
  have hm:O.getD i []∈O:=yI (by rw [h.olen];omega);rw [xH (h.orow _ hm) _ λi _=>h.colR hk hj i];have:=hz i hi;rw [show (0:Rat)=((0:Int):Rat) from rfl,<- this,<- vP];exact uV λc _=>by rw [Zcm,(h.osg _ hm _).int]
 refine ⟨x,λe=>hb0 ?_,hx,hO⟩;have down:∀ d i,i<=k->k<=i+d->x i=0:=by
  intro d
  induction d with
  | zero =>
   intro i h1 h2;obtain rfl:i=k:=by omega
   exact e
  | succ d ih =>
   intro i h1 h2;by_cases c:k<=i+d
   .exact ih i h1 c
   have hil:i<P.length:=by omega
   have hP:=h.ker i hil _ (qD _) λb hb=>hO b (by omega);rw [h.pl hk hj _ (h.row _ (yI hil)),e,xB (i:=i) (x:=λb=>(x b:Rat)) λb hb => ?_,if_pos (by omega)] at hP
   .have h0:((0:Int):Rat)=0:=rfl;rw [h0,Zbk,Zew] at hP;exact Classical.byContradiction λq=>wM q hP
   .rcases Zgc b i with q | q | q
    .rw [h.low i b hil q,if_neg (by omega)]
    .subst q;rw [h.one _ hil,if_pos rfl]
    .rw [if_neg (by omega),ih b (by omega) (by omega),show ((0:Int):Rat)=0 from rfl];grind
 exact down (k-b) b hb (by omega)
theorem zp6 {z w:Int} {q:Rat} {M:Nat} (e:q*(w:Rat)=(z:Rat)) (hz:z.natAbs<=M):Dn w.natAbs M q:=by
 by_cases s:0<w
 .exact ⟨z,by rw [show ((w.natAbs:Nat):Int)=w by omega];exact e,hz⟩
 .exact ⟨-z,by rw [show ((w.natAbs:Nat):Int) = -w by omega,Zbw,Zbw];grind,by omega⟩
structure Rt (n:Nat) (O P:List (List Rat)) (ps:List Nat) (r0:List Rat) (k:Nat) (r:List Rat):Prop where
 len:r.length=n
 zero:∀ b,b<k->at' r (ps.getD b 0)=0
 eq:∀ f:List Rat,f.length=n->(∀ b,b<k->dot (O.getD b []) f=0)->dot r f=dot r0 f
theorem Rt.start {n:Nat} {O P:List (List Rat)} {ps:List Nat} {r0:List Rat} (h:r0.length=n):Rt n O P ps r0 0 r0:=⟨h,λb h=>by omega,λ_ _ _=>rfl⟩
theorem Rt.next {n k:Nat} {O P:List (List Rat)} {ps:List Nat} {r0 r:List Rat} (hT:Tv n O P ps) (h:Rt n O P ps r0 k r) (hk:k<P.length):Rt n O P ps r0 (k+1) (jU (at' r (ps.getD k 0)) r (P.getD k [])):=by
 have hl:r.length=(P.getD k []).length:=by rw [h.len,hT.row _ (yI hk)]
 refine ⟨by rw [jZ hl,h.len],λb hb => ?_,λf hf hO => ?_⟩
 .rw [jD hl];by_cases e:b=k
  .rw [e,hT.one k hk];grind
  .rw [h.zero b (by omega),hT.low k b hk (by omega)];grind
 .rw [uK _ _ _ _ hl,hT.ker k hk f hf λb hb=>hO b (by omega),h.eq f hf λb hb=>hO b (by omega),Zbk];grind
theorem Rt.col {n k R Bd:Nat} {O P:List (List Rat)} {ps:List Nat} {r0 r:List Rat} (hT:Tv n O P ps) (h:Rt n O P ps r0 k r) (h0:r0.length=n) (hs:∀ j,Sg (at' r0 j)) (hk:k<=P.length) (hR:k<=R) (hB:(R+1) ^ R<(Bd+1)*(Bd+1)) (hB1:1<=Bd) (j:Nat):∃ t,1<=t/\t<=Bd/\Dn t ((k+1)*Bd) (at' r j):=by
 rcases Zdl j n with hj | hj
 case inr=>exact ⟨1,Zaf _,hB1,by rw [j5 (by rw [h.len];exact hj)];exact Dn.zero _ _⟩
 obtain ⟨x,hxk,hx,hO⟩:=hT.sol hk hj hR hB;have e:=h.eq _ (qD _) hO;rw [hT.pl hk hj _ h.len,hT.pl hk hj _ h0,zdk λb hb=>by rw [h.zero b hb,Zcs],Rat.zero_add] at e;refine ⟨(x k).natAbs,by omega,hx k,zp6 (z:=sI k (λb=>sgI (at' r0 (ps.getD b 0))*x b)+sgI (at' r0 j)*x k) ?_ ?_⟩
 .rw [e,Zfm,<- vP,Zcm,(hs j).int]
  congr 1
  exact uV λb _=>by rw [Zcm,(hs _).int]
 .have h1:=zp5 (F:=λb=>sgI (at' r0 (ps.getD b 0))*x b) (k:=k) λb _=>Zas (zji _ _) (hx b);have h2:=Zas (zji (at' r0 j) (x k)) (hx k);have:=Zec (sI k (λb=>sgI (at' r0 (ps.getD b 0))*x b)) (sgI (at' r0 j)*x k);rw [Zaz,Zcl];omega
theorem Tv.kn {n k R Bd:Nat} {O P:List (List Rat)} {ps:List Nat} (h:Tv n O P ps) (hk:k<P.length) (hR:k+1<=R) (hB:(R+1) ^ R<(Bd+1)*(Bd+1)) (hB1:1<=Bd) (j:Nat):∃ t,1<=t/\t<=Bd/\Dn t Bd (at' (P.getD k []) j):=by
 have hl:=h.row _ (yI (d:=[]) hk);rcases Zdl j n with hj | hj
 case inr=>exact ⟨1,Zaf _,hB1,by rw [j5 (by rw [hl];exact hj)];exact Dn.zero _ _⟩
 obtain ⟨x,hxk,hx,hO⟩:=h.sol (k:=k+1) hk hj hR hB;have e:=h.ker k hk _ (qD _) λb hb=>hO b (by omega);rw [h.pl hk hj _ hl,xB (i:=k) (x:=λb=>(x b:Rat)) λb hb => ?_,if_pos (by omega)] at e
 .refine ⟨(x (k+1)).natAbs,by omega,hx _,zp6 (z := -x k) (by rw [Zbw];grind) (by rw [Zei];exact hx k)⟩
 .by_cases q:b=k
  .subst q;rw [h.one _ hk,if_pos rfl]
  .rw [h.low k b hk (by omega),if_neg (by omega)]
theorem Tv.add {n p:Nat} {O P:List (List Rat)} {ps:List Nat} {r0 r:List Rat} (hT:Tv n O P ps) (h:Rt n O P ps r0 P.length r) (h0:r0.length=n) (hs:∀ j,Sg (at' r0 j)) (hp:p<n) (hv:at' r p≠0):Tv n (O++[r0]) (P++[yY (at' r p)⁻¹ r]) (ps++[p]):=by
 have hl:=hT.len;have ol:=hT.olen;have ga:∀ {α:Type} {l:List α} {x d:α} {a:Nat},a<l.length->(l++[x]).getD a d=l.getD a d:=λh=>by
  rw [Zaa,Zaa,List.getElem?_append_left h]
 have gl:∀ {α:Type} {l:List α} {x d:α} {a:Nat},a=l.length->(l++[x]).getD a d=x:=λh=>by
  subst h;rw [Zaa,List.getElem?_append_right (Zaf _),Zcd];rfl
 refine ⟨by simp [hl],by simp [ol],λq hq => ?_,λo ho => ?_,λo ho => ?_,λq hq => ?_,λa ha => ?_,λa b ha hb => ?_,λa ha f hf hO => ?_⟩
 .rcases List.mem_append.1 hq with q1 | q1
  .exact hT.row _ q1
  .rw [List.mem_singleton.1 q1,jW];exact h.len
 .rcases List.mem_append.1 ho with q1 | q1
  .exact hT.orow _ q1
  .rw [List.mem_singleton.1 q1];exact h0
 .rcases List.mem_append.1 ho with q1 | q1
  .exact hT.osg _ q1
  .rw [List.mem_singleton.1 q1];exact hs
 .rcases List.mem_append.1 hq with q1 | q1
  .exact hT.rng _ q1
  .rw [List.mem_singleton.1 q1];exact hp
 .rw [Zae,Zbf] at ha;by_cases e:a<P.length
  .rw [ga e,ga (by omega)];exact hT.one a e
  .rw [gl (by omega),gl (by omega),gR];grind
 .rw [Zae,Zbf] at ha;rw [ga (l:=ps) (by omega)];by_cases e:a<P.length
  .rw [ga e];exact hT.low a b e hb
  .rw [gl (by omega),gR,h.zero b (by omega),Zcs]
 .rw [Zae,Zbf] at ha;by_cases e:a<P.length
  .rw [ga e];exact hT.ker a e f hf λb hb=>by have:=hO b hb;rwa [ga (by omega)] at this
  .have e2:a=P.length:=by omega
   rw [gl e2,u9,h.eq f hf λb hb=>by have:=hO b (by omega);rwa [ga (by omega)] at this];have:=hO a (Zaf _);rw [gl (by omega)] at this;rw [this,Zbk]
end Go.Ev
namespace Go.Ev
open Go Go.Proofs
variable {B:Nat}
set_option maxRecDepth 100000
theorem zhs {v:AV} {z:Int} (hv:qh v z):Pure Tryz.prog B 249 [v] (· = .tup [.bool (decide (z<0)),encW (if z=0 then [] else [z.natAbs])]):=by
 obtain ⟨s,w,rfl,rfl,rfl,hv⟩:=hv;unfold fA at hv;refine zX λh nx K H0 hK=>zM zO yD 100 λhf => ?_;rw [qd.go,qd.t15,zA,qd.zx];refine H0.box (l:=[I z,.zb]) rfl λpa h1 nx1 H1 => ?_;rw [zA,zJ,zA,qd.zu,sFx,H1.load (k:=0) (i:=0+1) rfl rfl,zpb,zB,qd.v4,zC,zA,qd.fD,sFx,H1.load (k:=0) (i:=0+0) rfl rfl,vw,zB,qd.v5];by_cases c:z=0
 .rw [Zac c,zD,zA,qd.mg];simp only [zH,vG,zP];rw [qd.ret];refine hK _ _ _ _ _ H1 (uC (zY rfl) (.zbj 1)) ?_;subst c;rfl
 rw [Zab c,zC,zE];rw [zA,qd.fB,sFx,H1.load (k:=0) (i:=0+0) rfl rfl,ji,sFx,H1.load (k:=0) (i:=0+0) rfl rfl];refine zc8 (by omega) _ _ _ _ ?_;rintro _ rfl _;simp only [ji,zF,sFx,H1.load (k:=0) (i:=0+0) rfl rfl];refine H1.dm (l:=[U z.natAbs]) rfl λtb h2 nx2 H2 => ?_;simp only [ji,zF,sFx,H2.load (k:=1) (i:=0+0) rfl rfl];simp only [zH,vG,zP];rw [qd.ret];refine hK _ _ _ _ _ H2 (uC (zY rfl) (H2.zg0 (k:=0) (cap:=some 1) (n:=1) (e:=1) rfl (Zaf _) rfl (λv hv=>by rw [List.mem_singleton.1 hv];rfl))) ?_;rw [if_neg c];rfl
theorem zkx {v:AV} {z:Int} (hv:qh v z):Pure Tryz.prog B 285 [v] (λv=>∃ n:Nat,v=I (n:Int)/\n<=64):=by
 have hv0:=hv;obtain ⟨s,w,rfl,rfl,rfl,hv⟩:=hv;unfold fA at hv;refine zX λh nx K H0 hK=>zM zO yD 100 λhf => ?_;rw [jv.go,jv.t11,zA,jv.zx];refine H0.box (l:=[I z,.zb]) rfl λpa h1 nx1 H1 => ?_;rw [zA,jv.zu,H1.zn (k:=0) (n:=2) rfl rfl];refine zhs hv0 _ _ _ _ ?_;rintro _ rfl _;rw [jK,jJ,zA,zA,jv.je,uLen,vw,zB,jv.v4];by_cases c:z=0
 .rw [if_pos c,Zac (by rfl),zD,zA,jv.bq];simp only [zH,zP];rw [jv.ret];exact hK _ _ _ _ _ H1 (zY rfl) ⟨0,rfl,by omega⟩
 .rw [if_neg c,Zab (by simp),zC,zE,zA,jv.nk,jv.r4_0,jv.zf4,uLen,wz (by simp),fE (by simp),uLen,wz (by simp),jv.r4_1,jv.zf5,uIx (i:=0) (by simp) (by simp),uLd (x:=z.natAbs) rfl];refine zo2 (by omega) _ _ _ _ ?_;rintro _ ⟨n,rfl,hn⟩ _;have hn64:n<=64:=hn.1;rw [jv.r4_2,jv.zf6,gq (by simp;omega)];simp only [zH,zP];rw [jv.ret];exact hK _ _ _ _ _ H1 (zY rfl) ⟨n,by congr 1;simp,hn64⟩
theorem zdl (op:KW3->OP) (h:T Blk) (nx:Pa) (k:KW3):sGW (.bool false) false op h nx k=op k:=nr rfl
theorem zcc {v:AV} {z:Int} (hv:qh v z):Pure Tryz.prog B 246 [v] (· = .bool false):=by
 have hv0:=hv;obtain ⟨s,w,rfl,hv⟩:=hv;refine zX λh nx K H0 hK=>zM zO yD 100 λhf => ?_;rw [ul.go,ul.t3,zA,ul.zx];refine H0.box (l:=[s,w]) rfl λpa h1 nx1 H1 => ?_;rw [zA,ul.zu,ul.nR,ul.nS,H1.zn (k:=0) (n:=2) rfl rfl];refine zkx hv0 _ _ _ _ ?_;rintro _ ⟨n,rfl,hn⟩ _;rw [ul.rO,ul.fT,qm,Zab (by omega)];simp only [yZ];rw [dT,ul.r1_2,ul.zce,dT,ul.r1_3,ul.aU];simp only [yZ,zW];simp only [zH,zP];rw [ul.ret];exact hK _ _ _ _ _ H1 (zY rfl) rfl
theorem zht {v:AV} {q:Rat} (hv:jE v q):Pure Tryz.prog B 180 [v] (· = .bool false):=by
 obtain ⟨s,w,s',w',rfl,h1,h2⟩:=hv;refine zX λh nx K H0 hK=>zM zO yD 100 λhf => ?_;rw [cO.go,cO.t3,zA,cO.zx];refine H0.box (l:=[s,w,s',w']) rfl λpa h1' nx1 H1 => ?_;rw [zA,cO.zu,sFx,H1.gu (k:=0) (l2:=[s,w]) rfl (by simp) rfl];refine zcc ⟨_,_,rfl,h1⟩ _ _ _ _ ?_;rintro _ rfl _;simp only [yJ];rw [sFx];rw [H1.gu (k:=0) (l2:=[s',w']) rfl (by simp) rfl,zdl];refine zcc ⟨_,_,rfl,h2⟩ _ _ _ _ ?_;rintro _ rfl _;simp only [zW];simp only [zH,zP];rw [cO.ret];exact hK _ _ _ _ _ H1 (zY rfl) rfl
theorem zr9 {n:Nat} {c:List AV} {q:List Rat} (hc:fI c q) (hn:q.length=n) (hn1:n<=1000) (hs:∀ x∈q,Sml x):Pure Tryz.prog B 108 [.lst 4 n c,.fn 180 (.of 180) []] (· = I (-1)):=by
 refine zX λh nx K H0 hK=>zM zO yD 2000 λhf => ?_;rw [yt.go,yt.t22,zA,yt.zx,zA,zA,yt.zu,zV,zJ];refine yt.tq (λm x5 h' nx'=>∃ k:Nat,x5=I (k:Int)/\m+k=n/\Hp h h' nx' []) (m:=n) (by omega) ⟨0,rfl,rfl,H0⟩ ?_;rintro m z2 z3 z5 z6 z7 h3 nx3 R ⟨k,rfl,hm,H3⟩ hR;rw [yt.t15,zA,yt.je,ji,zA,zB,yt.v6];by_cases ck:k<n
 .obtain ⟨cs,e1,e2,_,fv⟩:=hc.get (uD (q:=q) (j:=k) (by omega));rw [Zac (by omega),zD,zE,zA,zJ,zA,yt.fD,zA,yt.mg,zt3 (j:=k) rfl ck,zhj (by rw [Zcc];omega),e1,pI];refine zht fv _ _ _ _ ?_;rintro _ rfl _;rw [zB,yt.v7,zC,zE,yt.fB,gq (by omega)];exact hR (m-1) _ _ _ _ _ _ _ (by omega) ⟨k+1,by congr 1,by omega,H3⟩
 .rw [Zab (by omega),zC,yA,yF,zA,yt.nQ];simp only [zH,zP];rw [yt.ret];exact hK _ _ _ _ _ H3 (zY rfl) rfl
theorem zsa {n:Nat} {c:List AV} {q:List Rat} (hc:fI c q) (hn:q.length=n) (hn1:n<=1000) (hs:∀ x∈q,Sml x):Pure Tryz.prog B 179 [.lst 4 n c,.fn 180 (.of 180) []] (· = .bool false):=by
 intro p h nx K hK;refine zM zO yD 10 λhf => ?_;rw [cZ.go,cZ.t3,zA,cZ.zx,zA,cZ.zu];refine zr9 hc hn hn1 hs _ _ _ _ ?_;rintro _ rfl hf2;rw [pz,Zab (by decide)];simp only [zH,zP];rw [cZ.ret];exact hK _ rfl hf2
abbrev zcd (n:Nat) (Bs:List (List Rat)):List AV:=Bs.map λb=>.lst 1 n (wP b)
theorem zjj {n:Nat} {cb:List (List AV)} {Bs:List (List Rat)} (hl:cb.length=Bs.length) (hr:∀ a,a<Bs.length->fI (cb.getD a []) (Bs.getD a [])) (hn:∀ b∈Bs,b.length=n) (hn1:n<=1000) (hB:Bs.length<=1000) (hs:∀ b∈Bs,∀ x∈b,Sml x):Pure Tryz.prog B 92 [.lst 1 Bs.length (cb.map λc=>.lst 4 n c)] (· = .tup [.lst 1 Bs.length (zcd n Bs),I 0]):=by
 refine zX λh nx K H0 hK=>zM zO yD 2000 λhf => ?_;have H0:=H0.tY 1;rw [F92.go,F92.t26,zA,F92.zx,zA,F92.zu,zA,zA,F92.je,zV,zJ];refine F92.zxf (λm x3 x7 h' nx'=>∃ (k:Nat) (o:Option Pa),x3=xq o 1 k/\x7=I (k:Int)/\m+k=Bs.length/\Hp h h' nx' [.gro o 1 k ((zcd n Bs).take k)]) (m:=Bs.length) (by omega) ⟨0,none,rfl,rfl,rfl,H0⟩ ?_;rintro m z1 z2 z3 z4 z7 z8 z9 h3 nx3 R ⟨k,o,rfl,rfl,hm,H3⟩ hR;rw [F92.t18,zA,F92.bq,ji,zA,zB,F92.v8];by_cases ck:k<Bs.length
 .have hb:=yI (d:=[]) ck;have hca:cb[k]? = some (cb.getD k []):=gN (by omega);have hba:Bs[k]? = some (Bs.getD k []):=gN ck;have hx:(zcd n Bs)[k]? = some (.lst 1 n (wP (Bs.getD k []))):=by rw [List.getElem?_map,hba];rfl
  rw [Zac (by omega),zD,zE,zA,zJ,zA,F92.mg,bR (i:=k) rfl ck,ldL (show (cb.map λc=>AV.lst 4 n c)[k]? = some (.lst 4 n (cb.getD k [])) by rw [List.getElem?_map,hca];rfl),zA,zA,F92.qj];refine zsa (hr k ck) (hn _ hb) hn1 (hs _ hb) _ _ _ _ ?_;rintro _ rfl _;rw [zB,F92.v9,zC,zE,F92.mh];refine zpq (hr k ck) (hn _ hb) hn1 (hs _ hb) _ _ _ _ ?_;rintro _ rfl _;refine H3.dm (l:=[.lst 1 n (wP (Bs.getD k []))]) rfl λtb h4 nx4 H4 => ?_;refine H4.appN (k:=1) (o:=o) (c:=1) (new:=[.lst 1 n (wP (Bs.getD k []))]) rfl (qa.rd (l:=[.lst 1 n (wP (Bs.getD k []))]) (n:=1) (H4.own _ (Zak ..)) rfl) rfl rfl (by decide) (by decide) (by omega) λo' h5 nx5 _ H5 => ?_;have H6:Hp h h5 nx5 [.gro o' 1 (k+1) ((zcd n Bs).take k++[.lst 1 n (wP (Bs.getD k []))])]:=H5.drop;rw [F92.tZ,gq (by omega)];refine hR (m-1) _ _ _ _ _ _ _ _ _ (by omega) ⟨k+1,o',rfl,by congr 1,by omega,?_⟩;rw [Zau,hx,Zch];exact H6
 .obtain rfl:k=Bs.length:=by omega
  rw [Zap (by rw [Zai];exact Zaf _)] at H3;rw [Zab (by omega),zC,yA,yF,zA,F92.sZ];simp only [zH,zP];rw [F92.ret];refine hK _ _ _ _ _ H3 (uC (H3.zc3 (k:=0) rfl λv hv => ?_) (zY rfl)) rfl;obtain ⟨x,_,rfl⟩:=List.mem_map.1 hv;exact kV λv hv=>by obtain ⟨x,_,rfl⟩:=List.mem_map.1 hv;rfl
theorem zzv {v:AV} {q:Rat} (hv:jE v q):Pure Tryz.prog B 109 [v] (· = .bool (decide (q≠0))):=by
 obtain ⟨s,w,s',w',rfl,h1,h2⟩:=hv;refine zX λh nx K H0 hK=>zM zO yD 100 λhf => ?_;rw [fe.go,fe.t3,zA,fe.zx];refine H0.box (l:=[s,w,s',w']) rfl λpa h1' nx1 H1 => ?_;rw [zA,fe.zu,H1.zn (k:=0) (n:=4) rfl rfl];refine dB ⟨s,w,s',w',rfl,h1,h2⟩ _ _ _ _ ?_;rintro _ rfl _;rw [di];simp only [zH,zP];rw [fe.ret];refine hK _ _ _ _ _ H1 (.bool _) ?_
 congr 1
 by_cases e:q=0
 .rw [Zac (fH.2 (Rat.num_eq_zero.2 e)),Zab (λw:q≠0=>w e)];rfl
 .rw [Zab (λw:kM q.num=0=>e (Rat.num_eq_zero.1 (fH.1 w))),Zac (show q≠0 from e)];rfl
theorem zp7 {h0 h:T Blk} {nx p r:Pa} {L:List Ob} {k n:Nat} {c:List AV} {q:List Rat} {K:Kw Prop} (H:Hp h0 h nx L) (hk:L[k]? = some (.arr r c)) (hc:fI c q) (hn:q.length=n) (hn1:n<=1000) (hK0:(∀ j,at' q j=0)->K (I (-1)) h nx=.ok True) (hK1:∀ j:Nat,j<n->at' q j≠0->K (I (j:Int)) h nx=.ok True):(CS Tryz.prog B).fn 108 p [rwV n r,.fn 109 (.of 109) []] h nx K=.ok True:=by
 refine zM zO yD 2000 λhf => ?_;rw [yt.go,yt.t22,zA,yt.zx,zA,zA,yt.zu,yW,zJ];refine yt.tq (λm x5 h' nx'=>∃ i:Nat,x5=I (i:Int)/\m+i=n/\(∀ j,j<i->at' q j=0)/\h'=h/\nx'=nx) (m:=n) (by omega) ⟨0,rfl,rfl,λj hj=>by omega,rfl,rfl⟩ ?_;rintro m z2 z3 z5 z6 z7 h3 nx3 R ⟨i,rfl,hm,hz,rfl,rfl⟩ hR;rw [yt.t15,zA,yt.je,ji,zA,zB,yt.v6];by_cases ci:i<n
 .obtain ⟨cs,e1,e2,_,fv⟩:=hc.get (uD (q:=q) (j:=i) (by omega));rw [Zac (by omega),zD,zE,zA,zJ,zA,yt.fD,zA,yt.mg,sQ (j:=i) rfl ci,H.gu hk e2 e1,pI];refine zzv fv _ _ _ _ ?_;rintro _ rfl _;rw [zB,yt.v7];by_cases e:at' q i=0
  .rw [Zab (λw=>w e),zC,zE,yt.fB,gq (by omega)];refine hR (m-1) _ _ _ _ _ _ _ (by omega) ⟨i+1,by congr 1,by omega,λj hj => ?_,rfl,rfl⟩;by_cases q:j=i
   .rw [q];exact e
   .exact hz j (by omega)
  .rw [Zac e,zD,zA,yt.qj];simp only [zH,vG,zP];rw [yt.ret];exact hK1 i ci e
 .rw [Zab (by omega),zC,yA,yF,zA,yt.nQ];simp only [zH,zP];rw [yt.ret];refine hK0 λj => ?_;by_cases q:j<i
  .exact hz j q
  .exact j5 (by omega)
theorem zsb {f:Pa} {m i:Nat} {op:AV->OP} (hi:i<=m):xS 4 (rwV m f) none (some (I (i:Int))) (some (I (i:Int))) op=op (.sl f 0 i (some i) 4):=by
 have e:xS 4 (rwV m f) none (some (I (i:Int))) (some (I (i:Int))) op=(match bnd (some (I (i:Int))) m m with
  | none=>Out.no 17
  | some m=>match bnd (some (I (i:Int))) m m with
   | none=>Out.no 17
   | some h=>bif Nat.beq m 0 then op (.sl f 0 (h-0) (some 0) 4) else ql (0+0*4) λoff=>ql (h-0) λh=>ql (m-0) λm=>op (.sl f off h (some m) 4)):=rfl
 rw [e,kY hi]
 show (match bnd (some (I (i:Int))) i i with
   | none=>Out.no 17
   | some h=>bif Nat.beq i 0 then op (.sl f 0 (h-0) (some 0) 4) else ql (0+0*4) λoff=>ql (h-0) λh=>ql (i-0) λm=>op (.sl f off h (some m) 4))=_
 rw [kY (Zaf i)];cases i with
 | zero=>rfl
 | succ i=>simp only [yH,Nat.sub_zero];rfl
theorem qa.zsc {N:Pa->Prop} {O:AV->Prop} {h:T Blk} {id:Pa} {l:List AV} {cap:Option Nat} {n e:Nat} (H:qa h id l) (hid:N id) (hcap:zex n cap) (hn:n*e<=l.length) (hf:∀ v∈l,fw v=true):Frz True N O h (.sl id 0 n cap e) (.lst e n (l.take (n*e))):=by
 obtain ⟨op,t,h1,h2⟩:=H;refine .sl _ _ _ _ _ op _ t _ hid hcap h1 (by omega) (by rw [Zal];omega) (List.all_eq_true.2 λv hv=>fw.uz (hf v (Zcp hv))) λi v hi => ?_;rw [List.getElem?_take] at hi;split at hi
 .have:=yG t 0 l.length i (List.getElem?_eq_some_iff.1 hi).1;rw [h2,hi] at this;rw [<- Option.some.inj this];exact zY (hf v (Zad hi))
 .cases hi
theorem Hp.zsd {h0 h:T Blk} {nx tb f:Pa} {L:List Ob} {fc:List AV} {i:Nat} (H:Hp h0 h nx (.arr tb [.sl f 0 i (some i) 4]::.arr f fc::L)) (hi:i*4<=fc.length) (hf:∀ v∈fc,fw v=true):∃ h',kL h' h/\Hp h0 h' nx L/\rV h' h (.sl tb 0 1 (some 1) 1) (.lst 1 1 [.lst 4 i (fc.take (i*4))]):=by
 have H1:=Hp.zo1 H;have H2:=Hp.zo1 H1;have hk:∀ j,T.get .no j (T.set .no .no f (T.set .no .no tb h))≠.no->T.get .no j h=T.get .no j (T.set .no .no f (T.set .no .no tb h)):=λj hj=>by
  by_cases e:j=f
  .subst e;exact (hj (T.get_set_same _ _ _ _)).elim
  .rw [T.zk _ _ _ _ _ e] at hj ⊢;by_cases e2:j=tb
   .subst e2;exact (hj (T.get_set_same _ _ _ _)).elim
   .exact (T.zk _ _ _ _ _ e2).symm
 have nf:T.get .no f (T.set .no .no f (T.set .no .no tb h))=.no:=T.get_set_same _ _ _ _;have nt:T.get .no tb (T.set .no .no f (T.set .no .no tb h))=.no:=by
  by_cases e:tb=f
  .subst e;exact nf
  .rw [T.zk _ _ _ _ _ e];exact T.get_set_same _ _ _ _
 refine ⟨_,λj hj=>hk j hj,H2,?_⟩;obtain ⟨op,t,h1,h2⟩:=H.own _ (Zak ..);refine .sl _ _ _ _ _ op _ t _ nt (Zaf 1) h1 (Zaf _) rfl rfl λj v hj => ?_
 match j,hj with
 | 0,hj =>
  obtain rfl:=Option.some.inj hj;have:=yG t 0 1 0 (by decide);rw [show yS t 0 1=[.sl f 0 i (some i) 4] from h2] at this;rw [<- Option.some.inj this];exact qa.zsc (H.own _ (Zar _ (Zak ..))) nf (Zaf i:zex i (some i)) hi hf
 | j+1,hj=>simp at hj
theorem Hp.zwl {h0 h:T Blk} {nx:Pa} {L:List Ob} {k n e j:Nat} {o:Option Pa} {l l2:List AV} (H:Hp h0 h nx L) (hk:L[k]? = some (.gro o e n l)) (hj:j<n) (hl:l.length=n*e) (he:(l.drop (j*e)).take e=l2):∃ id,(∀ op:AV->OP,zN e (xq o e n) (I (j:Int)) op=op (.ptr id (j*e)))/\∀ op:AV->OP,zG e (.ptr id (j*e)) h op=op (.agg l2):=by
 obtain ⟨id,rfl⟩:∃ id,o=some id:=by
  cases o with
  | none=>obtain ⟨_,hz⟩:=H.own _ (Zad hk);omega
  | some id=>exact ⟨id,rfl⟩
 have hje:j*e+e<=l.length:=by
  rw [hl];have:=Zax e (show j+1<=n by omega);rw [Zaz,Zcl] at this;exact this
 refine ⟨id,λop => ?_,λop => ?_⟩
 .rw [show xq (some id) e n=.sl id 0 n none e from rfl,u7 hj,Zbd]
 .obtain ⟨t,h1,h2,h3⟩:=H.own _ (Zad hk);show uy (T.get .no id h) (λ_ m' t=>bif Nat.ble (j*e+e) m' then op (.agg (yS t (j*e) e)) else .no 8) (.no 9)=_;rw [h1];show (bif Nat.ble (j*e+e) (n*e) then op (.agg (yS t (j*e) e)) else .no 8)=_;rw [Zag (by omega),cond_true,wH (l:=l) (by rw [h2];exact h3) hje,he]
end Go.Ev
namespace Go.Ev
open Go Go.Proofs
theorem dD:∀ (a c b d:List Rat),a.length=c.length->dot (a++b) (c++d)=dot a c+dot b d
 | [],[],b,d,_=>by show dot b d=dot [] []+dot b d;rw [show dot [] []=0 from rfl];grind
 | x::a,y::c,b,d,h=>by
  have:=dD a c b d (by simpa using h);rw [Zbp,Zbp,dot,dot,this];grind
 | [],_::_,_,_,h=>by simp at h
 | _::_,[],_,_,h=>by simp at h
theorem zfx (a:List Rat) (n:Nat):dot a (List.replicate n 0)=0:=dZ a n
theorem vM (m i j:Nat):at' (uI m i) j=if i=j/\j<m then 1 else 0:=by
 unfold uI;by_cases e:i=j
 .subst e;by_cases h:i<m
  .rw [if_pos ⟨rfl,h⟩,at',Zaa,List.getElem?_set_self (by rw [Zav];exact h)];rfl
  .rw [if_neg (by omega),j5 (by rw [Zbc,Zav];omega)]
 .rw [if_neg (by omega),at',Zaa,List.getElem?_set_ne e,<- Zaa];exact xD m j
theorem zhu:∀ (a b:List Rat),a.length=b.length->dot a b=sR a.length λj=>at' a j*at' b j:=by
 intro a b h;have key:∀ k,k<=a.length->dot (a.take k) (b.take k)=sR k λj=>at' a j*at' b j:=by
  intro k
  induction k with
  | zero=>intro _;rfl
  | succ k ih =>
   intro hk;rw [Zau,Zau,uD (q:=a) (by omega),uD (q:=b) (by omega),Zch,Zch,dD _ _ _ _ (by rw [Zal,Zal];omega),ih (by omega),sR];show _+(at' a k*at' b k+dot [] [])=_;rw [show dot [] []=0 from rfl];grind
 have:=key a.length (Zaf _);rw [Zcq,h,Zcq,<- h] at this;exact this
theorem zky {n c:Nat} {q:List Rat} (hq:q.length=n) (hc:c<n):dot q (uI n c)=at' q c:=by
 rw [zhu _ _ (by rw [hq,j9]),hq,xB (i:=c) (x:=λj=>at' q j) λb hb => ?_,if_pos hc];rw [vM];by_cases e:c=b
 .rw [if_pos ⟨e,hb⟩,if_pos e];grind
 .rw [if_neg (by omega),if_neg e];grind
theorem mG {n:Nat} {r g:List Rat} (hr:r.length=n) {j:Nat} (hj:j<n):at' (r++g) j=at' r j:=by
 rw [at',Zaa,List.getElem?_append_left (by omega),<- Zaa]
theorem mF {n:Nat} {r g:List Rat} (hr:r.length=n) (j:Nat):at' (r++g) (n+j)=at' g j:=by
 rw [at',Zaa,List.getElem?_append_right (by omega),hr,Zbh,<- Zaa]
theorem zfy (p:List Rat) (n j:Nat):at' (p.drop n) j=at' p (n+j):=by
 rw [at',Zaa,List.getElem?_drop,<- Zaa]
theorem mE {p:List Rat} {n j:Nat} (hj:j<n):at' (p.take n) j=at' p j:=by
 rw [at',Zaa,List.getElem?_take_of_lt hj,<- Zaa]
theorem zkz {n:Nat} {b:Rat} {r g p:List Rat} (hr:r.length=n) (hp:n<=p.length):jU b (r++g) p=jU b r (p.take n)++jU b g (p.drop n):=by
 unfold jU
 conv=>lhs;rw [<- Zee n p]
 rw [List.zipWith_append (by rw [Zal];omega)]
theorem za3 (b:Rat) (r g:List Rat):yY b (r++g)=yY b r++yY b g:=Zbe ..
abbrev liQ (n:Nat) (lines:List (List Int)) (i:Nat):List Rat:=nY n (lines.getD i [])
def lhQ (n:Nat) (lines:List (List Int)) (i:Nat):List Rat:=liQ n lines i++uI lines.length i
theorem bI (n:Nat) (lines:List (List Int)) (i:Nat):(lhQ n lines i).length=n+lines.length:=by rw [lhQ,Zae,yQ,j9]
theorem zhv (n:Nat) (lines:List (List Int)) (i j:Nat):Sg (at' (lhQ n lines i) j):=by
 have:∀ {q:Rat},q=0\/q=1->Sg q:=λh=>h.elim (λe=>.inr (.inl e)) λe=>.inr (.inr e);by_cases hj:j<n
 .rw [lhQ,mG (yQ ..) hj];exact this (pX ..)
 .rw [show j=n+(j-n) by omega,lhQ,mF (yQ ..)];exact this (pF ..)
def DepL (n:Nat) (lines:List (List Int)) (d:Nat×List Rat):Prop:=d.1<lines.length/\d.2.length=d.1/\(∃ t,1<=t/\t<=HB/\∀ j,Dn t (13*HB) (at' d.2 j))/\∀ c,c<n->at' (liQ n lines d.1) c=sR d.1 λk=>at' d.2 k*at' (liQ n lines k) c
structure Dv (n:Nat) (lines:List (List Int)) (i:Nat) (fr:List Nat) (P:List (List Rat)) (ps:List Nat) (D:List (Nat×List Rat)):Prop where
 tv:Tv (n+lines.length) (fr.map (lhQ n lines)) P ps
 pr:∀ p∈ps,p<n
 cnt:P.length+D.length=i
 nd:fr.Nodup
 frl:∀ x∈fr,x<i
 sup:∀ q∈P,∀ j,i<=j->at' q (n+j)=0
 cov:∀ j,j<i->∀ f:List Rat,f.length=n->(∀ q∈P,dot (q.take n) f=0)->dot (liQ n lines j) f=0
 dep:∀ d∈D,DepL n lines d
theorem Dv.nil (n:Nat) (lines:List (List Int)):Dv n lines 0 [] [] [] []:=⟨Tv.nil _,by simp,rfl,by simp,by simp,by simp,λj h=>by omega,by simp⟩
structure Dw (n:Nat) (lines:List (List Int)) (i:Nat) (fr:List Nat) (P:List (List Rat)) (ps:List Nat) (k:Nat) (r f:List Rat):Prop where
 rl:r.length=n
 fl:f.length=lines.length
 rt:∃ g,g.length=lines.length/\(∀ j,at' f j=at' (uI lines.length i) j-at' g j)/\Rt (n+lines.length) (fr.map (lhQ n lines)) P ps (lhQ n lines i) k (r++g)
 late:∀ j,i<=j->at' f j=0
 conv:∀ φ:List Rat,φ.length=n->(∀ q∈P,dot (q.take n) φ=0)->dot r φ=dot (liQ n lines i) φ
theorem Dw.start {n i:Nat} {lines:List (List Int)} {fr:List Nat} {P:List (List Rat)} {ps:List Nat}:Dw n lines i fr P ps 0 (liQ n lines i) (List.replicate lines.length 0) :=
 ⟨yQ ..,Zav,⟨uI lines.length i,j9 ..,λj=>by rw [xD];grind,Rt.start (bI ..)⟩,λj _=>xD _ _,λ_ _ _=>rfl⟩
theorem Dw.next {n i k:Nat} {lines:List (List Int)} {fr:List Nat} {P:List (List Rat)} {ps:List Nat} {D:List (Nat×List Rat)} {r f:List Rat} (hD:Dv n lines i fr P ps D) (h:Dw n lines i fr P ps k r f) (hk:k<P.length):Dw n lines i fr P ps (k+1) (jU (at' r (ps.getD k 0)) r ((P.getD k []).take n)) (jU (-(at' r (ps.getD k 0))) f ((P.getD k []).drop n)):=by
 obtain ⟨hrl,hfl,⟨g,hgl,hfg,hrt⟩,aB,za4⟩:=h;have hT:=hD.tv;have hm:=yI (d:=[]) hk;have hpl:=hT.row _ hm;have hpk:ps.getD k 0<n:=hD.pr _ (yI (by rw [hT.len];exact hk));have l1:r.length=((P.getD k []).take n).length:=by rw [Zal];omega
 have l2:f.length=((P.getD k []).drop n).length:=by rw [Zcc];omega
 have l3:g.length=((P.getD k []).drop n).length:=by rw [Zcc];omega
 refine ⟨by rw [jZ l1];exact hrl,by rw [jZ l2];exact hfl,⟨jU (at' r (ps.getD k 0)) g ((P.getD k []).drop n),by rw [jZ l3];exact hgl,λj => ?_,?_⟩,λj hj => ?_,λφ hφ hP => ?_⟩
 .rw [jD l2,jD l3,hfg j];grind
 .have:=hrt.next hT hk;rw [mG hrl hpk,zkz hrl (by omega)] at this;exact this
 .rw [jD l2,aB j hj,zfy,hD.sup _ hm j hj];grind
 .rw [uK _ _ _ _ l1,hP _ hm,za4 φ hφ hP,Zbk];grind
theorem Dw.col {n i k R Bd:Nat} {lines:List (List Int)} {fr:List Nat} {P:List (List Rat)} {ps:List Nat} {D:List (Nat×List Rat)} {r f:List Rat} (hD:Dv n lines i fr P ps D) (h:Dw n lines i fr P ps k r f) (hk:k<=P.length) (hR:k<=R) (hB:(R+1) ^ R<(Bd+1)*(Bd+1)) (hB1:1<=Bd):(∀ j,∃ t,1<=t/\t<=Bd/\Dn t ((R+2)*Bd) (at' r j))/\∀ j,∃ t,1<=t/\t<=Bd/\Dn t ((R+2)*Bd) (at' f j):=by
 obtain ⟨hrl,hfl,⟨g,hgl,hfg,hrt⟩,aB,za4⟩:=h;have hc:=hrt.col hD.tv (bI ..) (λj=>zhv n lines i j) hk hR hB hB1;have hle:(k+1)*Bd<=(R+1)*Bd:=Zax _ (by omega);have e2:(R+2)*Bd=(R+1)*Bd+Bd:=by rw [show R+2=R+1+1 from rfl,Zaz (R+1) 1,Zcl]
 refine ⟨λj => ?_,λj => ?_⟩
 .by_cases hj:j<n
  .obtain ⟨t,h1,h2,h3⟩:=hc j;rw [mG hrl hj] at h3;exact ⟨t,h1,h2,h3.mono (by omega)⟩
  .rw [j5 (by omega)];exact ⟨1,Zaf _,hB1,Dn.zero _ _⟩
 .obtain ⟨t,h1,h2,h3⟩:=hc (n+j);rw [mF hrl] at h3;refine ⟨t,h1,h2,?_⟩;rw [hfg j];have hu:Sg (at' (uI lines.length i) j):=(pF lines.length i j).elim (λe=>.inr (.inl e)) λe=>.inr (.inr e);exact ((hu.dn (M:=Bd) h2).sub h3).mono (by omega)
def wV (O:List (List Rat)) (u:Nat->Int) (r0:List Rat) (c:Int):Nat->List Rat
 | 0=>yY (c:Rat) r0
 | b+1=>jU (-(u b:Rat)) (wV O u r0 c b) (O.getD b [])
theorem p8 {n:Nat} {O:List (List Rat)} {u:Nat->Int} {r0:List Rat} {c:Int} (h0:r0.length=n) (hO:∀ o∈O,o.length=n):∀ k,k<=O.length->(wV O u r0 c k).length=n
 | 0,_=>by rw [wV,jW,h0]
 | k+1,hk=>by
  have:=p8 (u:=u) (c:=c) h0 hO k (by omega);rw [wV,jZ (by rw [this,hO _ (yI (by omega))]),this]
theorem zdm {n:Nat} {O:List (List Rat)} {u:Nat->Int} {r0:List Rat} {c:Int} (h0:r0.length=n) (hO:∀ o∈O,o.length=n) (j:Nat):∀ k,k<=O.length->at' (wV O u r0 c k) j=sR k (λb=>at' (O.getD b []) j*(u b:Rat))+at' r0 j*(c:Rat)
 | 0,_=>by rw [wV,gR,sR];grind
 | k+1,hk=>by
  rw [wV,jD (by rw [p8 h0 hO k (by omega),hO _ (yI (by omega))]),zdm h0 hO j k (by omega),sR];grind
theorem zfz {n:Nat} {O:List (List Rat)} {u:Nat->Int} {r0 f:List Rat} {c:Int} (h0:r0.length=n) (hO:∀ o∈O,o.length=n):∀ k,k<=O.length->(∀ b,b<k->dot (O.getD b []) f=0)->dot (wV O u r0 c k) f=(c:Rat)*dot r0 f
 | 0,_,_=>by rw [wV,u9]
 | k+1,hk,h=>by
  rw [wV,uK _ _ _ _ (by rw [p8 h0 hO k (by omega),hO _ (yI (by omega))]),zfz h0 hO k (by omega) λb hb=>h b (by omega),h k (by omega)];grind
theorem Rt.den {n k R Bd:Nat} {O P:List (List Rat)} {ps:List Nat} {r0 r:List Rat} (hT:Tv n O P ps) (h:Rt n O P ps r0 k r) (h0:r0.length=n) (hs:∀ j,Sg (at' r0 j)) (hk:k<=P.length) (hR:k<=R) (hB:(R+1) ^ R<(Bd+1)*(Bd+1)) (ix:Nat->Nat) (hi1:∀ a,a<k->∀ b,b<k->at' (O.getD b []) (ix a)=if a=b then 1 else 0) (hi2:∀ a,a<k->ix a<n):∃ t,1<=t/\t<=Bd/\∀ j,Dn t ((k+1)*Bd) (at' r j):=by
 have hol:=hT.olen;obtain ⟨u,⟨b,hb,hb0⟩,hu,hz⟩:=zdj hR hB (λi c=>if c<k then sgI (at' (O.getD c []) (ps.getD i 0)) else sgI (at' r0 (ps.getD i 0))) λi c=>by
  show (if c<k then _ else _)=(-1:Int)\/_;split <;> exact za0 _
 have hsum:∀ j,at' (wV O u r0 (u k) k) j=((sI (k+1) (λc=>(if c<k then sgI (at' (O.getD c []) j) else sgI (at' r0 j))*u c):Int):Rat):=λj=>by
  rw [zdm h0 hT.orow j k (by omega),<- vP,sR]
  congr 1
  .exact uV λc hc=>by rw [if_pos hc,Zcm,(hT.osg _ (yI (by omega)) _).int]
  .rw [if_neg (Zde k),Zcm,(hs j).int]
 have hpz:∀ i,i<k->at' (wV O u r0 (u k) k) (ps.getD i 0)=0:=λi hi=>by
  rw [hsum,hz i hi];rfl
 have hcl:=p8 (u:=u) (c:=u k) h0 hT.orow k (by omega);have main:∀ j,j<n->at' (wV O u r0 (u k) k) j=(u k:Rat)*at' r j:=λj hj=>by
  obtain ⟨x,hxk,_,hO⟩:=hT.sol hk hj hR hB;have e1:=zfz (u:=u) (c:=u k) h0 hT.orow k (by omega) hO;rw [<- h.eq _ (qD _) hO,hT.pl hk hj _ h.len,hT.pl hk hj _ hcl,zdk λb hb=>by rw [hpz b hb,Zcs],zdk λb hb=>by rw [h.zero b hb,Zcs]] at e1;have:=wM hxk
  grind
 have huk:u k≠0:=λe=>by
  rcases Zdl b k with q | q
  .have e1:=main (ix b) (hi2 b q);rw [zdm h0 hT.orow _ k (by omega),xB (i:=b) (x:=λa=>(u a:Rat)) λa ha=>by rw [hi1 b q a ha],if_pos q,e,show ((0:Int):Rat)=0 from rfl,Zbk,Zcs,Zew] at e1;exact wM hb0 e1
  .obtain rfl:b=k:=by omega
   exact hb0 e
 refine ⟨(u k).natAbs,by omega,hu k,λj => ?_⟩;by_cases hj:j<n
 .refine zp6 (z:=sI (k+1) (λc=>(if c<k then sgI (at' (O.getD c []) j) else sgI (at' r0 j))*u c)) ?_ (zp5 λc _ => ?_)
  .rw [<- hsum,main j hj];grind
  .have:=hu c;split
   .exact Zas (zji _ _) this
   .exact Zas (zji _ _) this
 .rw [j5 (by rw [h.len];omega)];exact Dn.zero _ _
theorem zhw {fr:List Nat} {f:Nat->List Rat} {b:Nat} (h:b<fr.length):(fr.map f).getD b []=f (fr.getD b 0):=by
 rw [Zaa,List.getElem?_map,gN (d:=0) h];rfl
theorem Dw.den {n i k R Bd:Nat} {lines:List (List Int)} {fr:List Nat} {P:List (List Rat)} {ps:List Nat} {D:List (Nat×List Rat)} {r f:List Rat} (hD:Dv n lines i fr P ps D) (h:Dw n lines i fr P ps k r f) (hi:i<lines.length) (hk:k<=P.length) (hR:k<=R) (hB:(R+1) ^ R<(Bd+1)*(Bd+1)):∃ t,1<=t/\t<=Bd/\∀ j,Dn t ((R+2)*Bd) (at' f j):=by
 obtain ⟨hrl,hfl,⟨g,hgl,hfg,hrt⟩,aB,za4⟩:=h;have hol:=hD.tv.olen;rw [Zai] at hol
 obtain ⟨t,h1,h2,h3⟩:=hrt.den hD.tv (bI ..) (λj=>zhv n lines i j) hk hR hB (λa=>n+fr.getD a 0) (λa ha b hb=>by
  show at' _ (n+fr.getD a 0)=_;have hfa:=hD.frl _ (yI (l:=fr) (i:=a) (d:=0) (by omega));rw [zhw (by omega),lhQ,mF (yQ ..),vM];by_cases e:a=b
  .rw [if_pos ⟨by rw [e],by omega⟩,if_pos e]
  .rw [if_neg λq=>e ?_,if_neg e];have ga:=gN (l:=fr) (i:=a) (d:=0) (by omega);have gb:=gN (l:=fr) (i:=b) (d:=0) (by omega);rw [q.1,<- ga] at gb;exact ((List.getElem?_inj (show b<fr.length by omega) hD.nd).1 gb).symm) (λa ha=>by
  have hfa:=hD.frl _ (yI (l:=fr) (i:=a) (d:=0) (by omega));show n+_<_;omega)
 have hle:(k+1)*Bd<=(R+1)*Bd:=Zax _ (by omega);have e2:(R+2)*Bd=(R+1)*Bd+Bd:=by rw [show R+2=R+1+1 from rfl,Zaz (R+1) 1,Zcl]
 refine ⟨t,h1,h2,λj => ?_⟩;have h4:=h3 (n+j);rw [mF hrl] at h4;rw [hfg j];have hu:Sg (at' (uI lines.length i) j):=(pF lines.length i j).elim (λe=>.inr (.inl e)) λe=>.inr (.inr e);exact ((hu.dn (M:=Bd) h2).sub h4).mono (by omega)
theorem Dv.zwm {n i:Nat} {lines:List (List Int)} {fr:List Nat} {P:List (List Rat)} {ps:List Nat} {D:List (Nat×List Rat)} {r f:List Rat} (hD:Dv n lines i fr P ps D) (h:Dw n lines i fr P ps P.length r f) (hi:i<lines.length) (hP:P.length<=11) (hz:∀ j,at' r j=0):Dv n lines (i+1) fr P ps (D++[(i,f.take i)]):=by
 obtain ⟨t,d1,d2,d3⟩:=h.den (R:=11) (Bd:=HB) hD hi (Zaf _) hP (by decide);obtain ⟨hrl,hfl,⟨g,hgl,hfg,hrt⟩,aB,za4⟩:=h;refine ⟨hD.tv,hD.pr,by rw [Zae,Zbf,<- Zcj,hD.cnt],hD.nd,λx hx=>Nat.lt_succ_of_lt (hD.frl x hx),λq hq j hj=>hD.sup q hq j (by omega),λj hj φ hφ hq => ?_,λd hd => ?_⟩
 .by_cases e:j=i
  .rw [e,<- za4 φ hφ hq];exact kX _ _ hz
  .exact hD.cov j (by omega) φ hφ hq
 rcases List.mem_append.1 hd with hd | hd
 .exact hD.dep d hd
 obtain rfl:=List.mem_singleton.1 hd;have htk:∀ j,at' (f.take i) j=if j<i then at' f j else 0:=λj=>by
  by_cases e:j<i
  .rw [if_pos e,mE e]
  .rw [if_neg e,j5 (by rw [Zal];omega)]
 refine ⟨hi,by show (f.take i).length=i;rw [Zal];omega,⟨t,d1,d2,λj => ?_⟩,λc hc => ?_⟩
 .show Dn t _ (at' (f.take i) j);rw [htk j];split
  .exact d3 j
  .exact Dn.zero _ _
 obtain ⟨ψ,hψ⟩:∃ ψ:List Rat,ψ=(List.range lines.length).map λj => -(at' (liQ n lines j) c):=⟨_,rfl⟩;have hψl:ψ.length=lines.length:=by rw [hψ,Zai,Zdm]
 have hψa:∀ j,j<lines.length->at' ψ j = -(at' (liQ n lines j) c):=λj hj=>by
  rw [hψ,at',Zaa,List.getElem?_map,List.getElem?_range hj];rfl
 have kill:∀ j,j<lines.length->dot (lhQ n lines j) (uI n c++ψ)=0:=λj hj=>by
  rw [lhQ,dD _ _ _ _ (by rw [yQ,j9]),zky (yQ ..) hc,zhu _ _ (by rw [j9,hψl]),j9,xB (i:=j) (x:=λb=>at' ψ b) λb hb => ?_,if_pos hj,hψa j hj]
  .grind
  .rw [vM];by_cases e:j=b
   .rw [if_pos ⟨e,hb⟩,if_pos e]
   .rw [if_neg (by omega),if_neg e]
 have e1:=hrt.eq (uI n c++ψ) (by rw [Zae,j9,hψl]) λb hb=>by
  have hol:=hD.tv.olen;rw [Zai] at hol;rw [zhw (by omega)];exact kill _ (by have:=hD.frl _ (yI (l:=fr) (i:=b) (d:=0) (by omega));omega)
 rw [kill i hi,dD _ _ _ _ (by rw [hrl,j9]),kX _ _ hz,zhu _ _ (by rw [hgl,hψl]),hgl] at e1;have cut:∀ k,k<=lines.length->sR k (λj=>at' g j*at' ψ j)=sR (min k i) (λj=>at' f j*at' (liQ n lines j) c)-if i<k then at' (liQ n lines i) c else 0:=by
  intro k
  induction k with
  | zero=>intro _;rw [Nat.zero_min,if_neg (by omega)];show (0:Rat)=0-0;grind
  | succ k ih =>
   intro hk;have e2:=ih (by omega);have e3:=hfg k;have e4:=vM lines.length i k;rw [sR,e2,hψa k (by omega)];rcases Zgc k i with q | q | q
   .rw [if_neg (by omega)] at e4;rw [Zbn (by omega),Zbn (by omega),if_neg (by omega),if_neg (by omega),sR];grind
   .subst q;rw [if_pos ⟨rfl,by omega⟩] at e4;have e5:=aB k (Zaf _);rw [Zbn (by omega),Zfh (by omega),if_neg (by omega),if_pos (by omega)];grind
   .rw [if_neg (by omega)] at e4;have e5:=aB k (by omega);rw [Zfh (by omega),Zfh (by omega),if_pos q,if_pos (by omega)];grind
 rw [cut _ (Zaf _),Zfh (by omega),if_pos hi] at e1;show at' (liQ n lines i) c=sR i λk=>at' (f.take i) k*at' (liQ n lines k) c;rw [uV (G:=λj=>at' f j*at' (liQ n lines j) c) λk hk=>by rw [htk k,if_pos hk]]
 grind
theorem Dv.zwn {n i p:Nat} {lines:List (List Int)} {fr:List Nat} {P:List (List Rat)} {ps:List Nat} {D:List (Nat×List Rat)} {r f:List Rat} (hD:Dv n lines i fr P ps D) (h:Dw n lines i fr P ps P.length r f) (hi:i<lines.length) (hp:p<n) (hv:at' r p≠0):Dv n lines (i+1) (fr++[i]) (P++[yY (at' r p)⁻¹ r++yY (at' r p)⁻¹ ((yY (-1) f).set i 1)]) (ps++[p]) D/\(yY (at' r p)⁻¹ r).length=n:=by
 obtain ⟨hrl,hfl,⟨g,hgl,hfg,hrt⟩,aB,za4⟩:=h;have hgf:(yY (-1) f).set i 1=g:=by
  have hl:((yY (-1) f).set i 1).length=g.length:=by rw [Zbc,jW];omega
  refine Zbq λj => ?_;by_cases hj:j<g.length
  .rw [uD (q:=g) hj,uD (q:=(yY (-1) f).set i 1) (by omega)]
   congr 1
   have e3:=hfg j;rw [vM] at e3;by_cases e:i=j
   .subst e;rw [if_pos ⟨rfl,by omega⟩,aB i (Zaf _)] at e3;rw [at',Zaa,List.getElem?_set_self (by rw [jW];omega)];show (1:Rat)=_
    grind
   .rw [if_neg (by omega)] at e3;rw [at',Zaa,List.getElem?_set_ne e,<- Zaa];show at' (yY (-1) f) j=_;rw [gR];grind
  .rw [List.getElem?_eq_none (by omega),List.getElem?_eq_none (by omega)]
 have hlr:(yY (at' r p)⁻¹ r).length=n:=by rw [jW];exact hrl
 refine ⟨?_,hlr⟩;rw [hgf,<- za3];have ht:=hD.tv.add (p:=p) hrt (bI ..) (λj=>zhv n lines i j) (by omega) (by rw [mG hrl hp];exact hv);rw [mG hrl hp] at ht;refine ⟨by rw [Zbe];exact ht,λx hx => ?_,by rw [Zae,Zbf,<- hD.cnt];omega,?_,λx hx => ?_,λq hq j hj => ?_,λj hj φ hφ hq => ?_,hD.dep⟩
 .rcases List.mem_append.1 hx with q | q
  .exact hD.pr x q
  .rw [List.mem_singleton.1 q];exact hp
 .refine List.nodup_append.2 ⟨hD.nd,by simp,λa ha b hb => ?_⟩;rw [List.mem_singleton.1 hb];have:=hD.frl a ha;omega
 .rcases List.mem_append.1 hx with q | q
  .exact Nat.lt_succ_of_lt (hD.frl x q)
  .rw [List.mem_singleton.1 q];exact Nat.lt_succ_self i
 .rcases List.mem_append.1 hq with q1 | q1
  .exact hD.sup q q1 j (by omega)
  .rw [List.mem_singleton.1 q1,gR,mF hrl];have e3:=hfg j;rw [vM,if_neg (by omega),aB j (by omega)] at e3
   grind
 .have old:∀ q∈P,dot (q.take n) φ=0:=λq hm=>hq q (Zco _ hm);by_cases e:j=i
  .have:=hq _ (Zdf _ (List.mem_singleton.2 rfl));rw [za3,Zdr hlr,u9] at this;rw [e,<- za4 φ hφ old]
   grind
  .exact hD.cov j (by omega) φ hφ old
end Go.Ev
namespace Go.Ev
open Go Go.Proofs
variable {B:Nat}
set_option maxRecDepth 100000
theorem Dn.sml {t M:Nat} {q:Rat} (ht:1<=t) (htM:t<=M) (hM:M<9223372036854775808) (h:Dn t M q):Sml q:=by
 obtain ⟨z,e,hz⟩:=h;have h0:((t:Int):Rat)≠0:=wM (by omega);have eq:q=Rat.divInt z (t:Int):=by rw [Zgb];grind
 obtain ⟨d1,d2⟩:=qF (n:=z) (d:=(t:Int)) (by omega);have a1:q.num.natAbs<=z.natAbs:=by
  rw [eq,d1,Zeb (Zfg ..)];exact Zcz _ _
 have a2:(q.den:Int).natAbs<=t:=by
  rw [eq,d2,Zeb (Zfa ..)];exact Zcz _ _
 rw [Zbr] at a2;exact ⟨by omega,by omega⟩
theorem zjk {n:Nat} {O Q:List (List Rat)} {ps:List Nat} (hS:Sv n O Q ps) (hQ:Q.length<=11) (c:Nat):∀ x∈rT n Q ps c,Sml x:=by
 obtain ⟨t,h1,h2,h3⟩:=za2 hS hQ c;refine uT λj=>(h3 j).sml h1 h2 (by decide)
abbrev basL (n:Nat) (Q:List (List Rat)) (ps:List Nat):List (List Rat):=(frQ n ps).map (rT n Q ps)
theorem zse {n:Nat} {lines:List (List Int)} (hn:n<=256) (hl:lines.length<=12) (hll:∀ l∈lines,l.length<=256) (he:gA (n:Int) lines=0):Pure Tryz.prog B 23 [.agg [I (n:Int),wu lines]] (λv=>∃ Q ps,zp3 n lines Q ps/\v=.tup [.lst 1 (frQ n ps).length (zcd n (basL n Q ps)),I 0]):=by
 obtain ⟨n',hn',_,_,_,hasc⟩:=zhp he;have en:n'=n:=by omega
 rw [en] at hasc;have hr:∀ l∈lines,∀ c∈l,0<=c/\c<(n:Int):=λl hlm=>(hasc l hlm).2.2;refine zX λh nx K H0 hK=>zM zO yD 1000 λhf => ?_;rw [F23.go,F23.t11,zA,F23.zx];refine H0.box (l:=[I (n:Int),wu lines]) rfl λb1 h1 nx1 H1 => ?_;rw [zA,zA,F23.zu,H1.zn (k:=0) (n:=2) rfl rfl];refine zt9 (λq hq=>by have:=hll q hq;omega) _ _ _ _ ?_;rintro _ rfl _;rw [he,zA,F23.je,di,Zac rfl,Zaj,zB,F23.v5,zC,zE,zA,F23.fQ,H1.zn (k:=0) (n:=2) rfl rfl];refine zkw hn (by omega) hll hr _ _ _ _ ?_;rintro _ ⟨Q,ps,⟨⟨O,hS⟩,hQ,hdot,hcv⟩,cb,hcl,hcr,rfl⟩ _;have hfl:(basL n Q ps).length=(frQ n ps).length:=Zai ..;rw [jQ];refine zjj hcl hcr (λb hb => ?_) (by omega) (by rw [hfl];exact Zas (zdh n ps) (by omega)) (λb hb => ?_) _ _ _ _ ?_
 .obtain ⟨c,_,rfl⟩:=List.mem_map.1 hb;exact mC ..
 .obtain ⟨c,_,rfl⟩:=List.mem_map.1 hb;exact zjk hS (by omega) c
 rintro _ rfl _;rw [jK,jJ];simp only [zH,zP];rw [F23.ret];refine hK _ _ _ _ _ H1 (uC (zY (kV λv hv => ?_)) (zY rfl)) ⟨Q,ps,⟨⟨O,hS⟩,hQ,hdot,hcv⟩,by rw [hfl]⟩;obtain ⟨x,_,rfl⟩:=List.mem_map.1 hv;exact kV λv hv=>by obtain ⟨x,_,rfl⟩:=List.mem_map.1 hv;rfl
theorem za5 {α:Type} {f:α->List AV} {e:Nat} (he:∀ x,(f x).length=e):∀ l:List α,(l.flatMap f).length=l.length*e
 | []=>by simp
 | x::l=>by rw [Zbx,Zae,he,za5 he l,Zba,Zaz,Zcl,Zdb]
theorem zdn {α:Type} {f:α->List AV} {e:Nat} (he:∀ x,(f x).length=e):∀ {l:List α} {k:Nat} {x:α},l[k]? = some x->((l.flatMap f).drop (k*e)).take e=f x
 | [],_,_,h=>by simp at h
 | y::l,0,x,h=>by
  obtain rfl:=Option.some.inj h;rw [Zbx,Nat.zero_mul,Zdg,Zdr (he _)]
 | y::l,k+1,x,h=>by
  rw [Zbx,Zaz,Zcl,Zdb,<- Zeg,Zes (he _)];exact zdn he (by simpa using h)
def knF (n m:Nat) (z:Pa×Pa×Nat):List AV:=[rwV n z.1,rwV m z.2.1,I ((z.2.2:Nat):Int)]
def aO (d:Nat×List Rat):List AV:=[I ((d.1:Nat):Int),.lst 1 d.1 (wP d.2)]
abbrev ML (n m:Nat) (o5 o6:Option Pa) (Z:List (Pa×Pa×Nat)) (cs cg:List (List AV)) (D:List (Nat×List Rat)) (T:List Ob):List Ob :=
 .gro o5 3 Z.length (Z.flatMap (knF n m))::.gro o6 2 D.length (D.flatMap aO)::(List.zipWith Ob.arr (Z.map (·.1)) cs++(List.zipWith Ob.arr (Z.map (·.2.1)) cg++T))
theorem zhx {C:Calls Prop} {e b n:Nat} {o:Option Pa} {x:AV} {h:T Blk} {nx:Pa} {K:Kw Prop}:zd7 C e b (xq o e n) x h nx K=sK e b (xq o e n) x h nx K:=by cases o <;> rfl
theorem zwo {f r a b:Ob} {A G U:List Ob}:(f::r::a::b::(A++(G++U))).Perm (a::b::((A++[r])++((G++[f])++U))):=by
 have e:(f::r::a::b::(A++(G++U))).Perm (a::b::f::r::(A++(G++U))) :=
  (List.perm_append_comm (l₁:=[f,r]) (l₂:=[a,b])).append_right _
 refine e.trans (.cons _ (.cons _ ?_));rw [Zbi,Zbi];refine ((List.Perm.swap ..).trans (.cons r (?_:(f::(A++(G++U))).Perm (A++(G++([f]++U))))) |>.trans ?_)
 .refine (Zcw (l₁:=A) (l₂:=G++U) (a:=f)).symm.trans ?_;exact (Zcw (l₁:=G) (l₂:=U) (a:=f)).symm.append_left A
 .exact (Zcw (l₁:=A) (l₂:=G++([f]++U)) (a:=r)).symm
theorem fI.cut {c:List AV} {q:List Rat} {i:Nat} (h:fI c q):fI (c.take (i*4)) (q.take i):=by
 refine ⟨by rw [Zal,Zal,h.1];omega,λj x hx => ?_⟩;rw [List.getElem?_take] at hx;split at hx
 case isFalse=>cases hx
 rename_i hj;obtain ⟨s,w,s',w',e,h1,h2⟩:=h.2 j x hx;refine ⟨s,w,s',w',?_,h1,h2⟩;rw [<- e];refine zph λt ht => ?_;rw [List.getElem?_take_of_lt (by omega)]
theorem zjl {M N:Nat} {a b:Rat} (ha:xg M a) (hb:xg N b):xg (M*N) (a*b):=by
 have key:∀ {M:Nat} {a:Rat},xg M a->Dn a.den M a:=λ{M a} h=>⟨a.num,by
  have e:=qQ a;rw [Zgb] at e;have:=wM (u3 a)
  grind,h.1⟩
 exact ((key ha).mul (key hb)).nm (Nat.mul_pos a.den_pos b.den_pos) (Zbg ha.2 hb.2)
theorem zp8 {M:Nat} (h:1<=M):xg M 0:=(Dn.zero 1 M).nm (Zaf 1) h
theorem zug {rs:List Pa} {cs:List (List AV)} {Q:List (List Rat)} (S:SM rs cs Q) {a:Nat} {r:Pa} {T:List Ob} (hr:rs[a]? = some r):(List.zipWith Ob.arr rs cs++T)[a]? = some (.arr r (cs.getD a [])):=by
 have ha:=(List.getElem?_eq_some_iff.1 hr).1;have hc:cs[a]? = some (cs.getD a []):=gN (by rw [S.lc,<- S.lr];exact ha);rw [List.getElem?_append_left (by rw [kQ S,<- S.lr];exact ha),List.getElem?_zipWith,hr,hc]
def zzw (n:Nat) (lines:List (List Int)) (D:List (Nat×List Rat)):Prop:=∃ fr P ps,Dv n lines lines.length fr P ps D
theorem zf0 {n:Nat} {lines:List (List Int)} (hn:n<=256) (hl:lines.length<=12) (hll:∀ l∈lines,l.length<=256) (he:gA (n:Int) lines=0):Pure Tryz.prog B 31 [.agg [I (n:Int),wu lines]] (λv=>∃ D,zzw n lines D/\v=.tup [.lst 2 D.length (D.flatMap aO),I 0]):=by
 obtain ⟨n',hn',_,_,_,hasc⟩:=zhp he;have en:n'=n:=by omega
 rw [en] at hasc;have hr:∀ l∈lines,∀ c∈l,0<=c/\c<(n:Int):=λl hlm=>(hasc l hlm).2.2;refine zX λh nx K H0 hK=>zM zO yD 1000 λhf => ?_;rw [F31.go,F31.t77,zA,F31.zx];refine H0.box (l:=[I (n:Int),wu lines]) rfl λb1 h1 nx1 H1 => ?_;rw [zA,zA,F31.zu,H1.zn (k:=0) (n:=2) rfl rfl];refine zt9 (λq hq=>by have:=hll q hq;omega) _ _ _ _ ?_;rintro _ rfl _;have H1:=(H1.tY 2).tY 3;rw [he,zA,F31.je,di,Zac rfl,Zaj,zB,F31.v17,zC,zE,zA,F31.fQ,zA,F31.nu,zA,zA,F31.rH,sFx,H1.load (k:=2) (i:=0+1) rfl rfl,zV,zJ];refine F31.zxn (λm x5 x6 x20 h' nx'=>∃ (i:Nat) (o5 o6:Option Pa) (Z:List (Pa×Pa×Nat)) (cs cg:List (List AV)) (fr:List Nat) (P:List (List Rat)) (D:List (Nat×List Rat)),x5=xq o5 3 Z.length/\x6=xq o6 2 D.length/\x20=I (i:Int)/\m+i=lines.length/\SM (Z.map (·.1)) cs (P.map (·.take n))/\SM (Z.map (·.2.1)) cg (P.map (·.drop n))/\Dv n lines i fr P (Z.map (·.2.2)) D/\Hp h h' nx' (ML n lines.length o5 o6 Z cs cg D [.arr b1 [I (n:Int),wu lines]])) (m:=lines.length) (by omega) ⟨0,none,none,[],[],[],[],[],[],rfl,rfl,rfl,rfl,⟨rfl,rfl,λa ha=>by simp at ha⟩,⟨rfl,rfl,λa ha=>by simp at ha⟩,Dv.nil n lines,H1⟩ ?_;rintro m z2 z3 z5 z6 z7 z8 z9 z10 z11 z12 z13 z14 z15 z16 z20 z21 z22 z23 z24 z25 z26 z27 h3 nx3 R ⟨i,o5,o6,Z,cs,cg,fr,P,D,rfl,rfl,rfl,hm,S1,S2,hD,H3⟩ hR;have hZP:Z.length=P.length:=by have:=S1.lr;rwa [Zai,Zai] at this
 have hPi:P.length<=i:=by rw [<- hD.cnt];exact Nat.le_add_right _ _
 have hDi:D.length<=i:=by rw [<- hD.cnt];exact Nat.le_add_left _ _
 obtain ⟨T,hT⟩:∃ T:List Ob,T=[.arr b1 [I (n:Int),wu lines]]:=⟨_,rfl⟩;rw [<- hT] at H3;have l3:∀ z,(knF n lines.length z).length=3:=λ_=>rfl;have l2:∀ d,(aO d).length=2:=λ_=>rfl;rw [F31.t67,zA,F31.mh,ji,zA,zB,F31.v21];by_cases ci:i<lines.length
 case neg =>
  rw [Zab (by omega),zC,yA,yF,zA,F31.zlp];simp only [zH,zP];rw [F31.ret];have ei:i=lines.length:=by omega
  rw [ei] at hD;refine hK _ _ _ _ _ H3 (uC (H3.zc3 (k:=1) rfl λv hv => ?_) (.int _ _)) ⟨D,⟨fr,P,_,hD⟩,rfl⟩;obtain ⟨d,_,hd⟩:=List.mem_flatMap.1 hv;rcases List.mem_cons.1 hd with rfl | hd
  .rfl
  .rw [List.mem_singleton.1 hd];exact kV λv hv=>by obtain ⟨x,_,rfl⟩:=List.mem_map.1 hv;rfl
 have hxi:(lines.map Go.Ev.encI)[i]? = some (Go.Ev.encI (lines.getD i [])):=by rw [List.getElem?_map,gN (d:=[]) ci];rfl
 have hmi:=hll _ (yI (d:=[]) ci);have zl1:(List.zipWith Ob.arr (Z.map (·.1)) cs).length=P.length:=by have:=kQ S1;rwa [Zai] at this
 have zl2:(List.zipWith Ob.arr (Z.map (·.2.1)) cg).length=P.length:=by have:=kQ S2;rwa [Zai] at this
 have tl:∀ (X:List Ob),(X++ML n lines.length o5 o6 Z cs cg D T)[X.length+(P.length+P.length+2)]? = some (.arr b1 [I (n:Int),wu lines]):=λX=>by
  rw [List.getElem?_append_right (by omega),Zbh];show (List.zipWith Ob.arr (Z.map (·.1)) cs++(List.zipWith Ob.arr (Z.map (·.2.1)) cg++T))[P.length+P.length]? = _;rw [List.getElem?_append_right (by omega),zl1,Zbh,List.getElem?_append_right (by omega),zl2,Zcd,hT];rfl
 have r1:∀ (X:List Ob) {k:Nat} {z:Pa×Pa×Nat},Z[k]? = some z->(X++ML n lines.length o5 o6 Z cs cg D T)[X.length+(k+2)]? = some (.arr z.1 (cs.getD k [])):=λX {k z} hz=>by
  rw [List.getElem?_append_right (by omega),Zbh];exact zug S1 (by rw [List.getElem?_map,hz];rfl)
 have r2:∀ (X:List Ob) {k:Nat} {z:Pa×Pa×Nat},Z[k]? = some z->(X++ML n lines.length o5 o6 Z cs cg D T)[X.length+(P.length+k+2)]? = some (.arr z.2.1 (cg.getD k [])):=λX {k z} hz=>by
  rw [List.getElem?_append_right (by omega),Zbh];show (List.zipWith Ob.arr (Z.map (·.1)) cs++(List.zipWith Ob.arr (Z.map (·.2.1)) cg++T))[P.length+k]? = _;rw [List.getElem?_append_right (by omega),zl1,Zbh];exact zug S2 (by rw [List.getElem?_map,hz];rfl)
 have a0:∀ op:AV->OP,zI (.ptr b1 (0+0)) h3 op=op (I (n:Int)):=λop=>H3.load (i:=0+0) (tl []) rfl;have a1:∀ op:AV->OP,zI (.ptr b1 (0+1)) h3 op=op (wu lines):=λop=>H3.load (i:=0+1) (tl []) rfl;rw [Zac (by omega),zD,zE,zA,zJ,zA,F31.fK,bR (i:=i) rfl ci,ldL hxi,zA,F31.rJ,sFx,a0,sFx,a1,zV];refine xG H3 (by omega) (by omega) (za1 hr ci) λr cr h4 nx4 hcr H4 => ?_;have b1':∀ op:AV->OP,zI (.ptr b1 (0+1)) h4 op=op (wu lines):=λop=>H4.load (i:=0+1) (tl [_]) rfl;rw [zV,zF,b1',zF,sFx,zF];refine zau H4 (by omega) λf cf h5 nx5 hcf H5 => ?_;rw [zA,zA,F31.tZ,H5.o8 (k:=2) rfl,zJ];refine F31.zxh (λm x24 h' nx'=>∃ (k:Nat) (cr cf:List AV) (qr qf:List Rat),x24=I (k:Int)/\m+k=Z.length/\fI cr qr/\fI cf qf/\Dw n lines i fr P (Z.map (·.2.2)) k qr qf/\Hp h h' nx' (.arr f cf::.arr r cr::ML n lines.length o5 o6 Z cs cg D T)) (m:=Z.length) (by omega) ⟨0,cr,cf,_,_,rfl,rfl,hcr,hcf,Dw.start,H5⟩ ?_
 clear hcr hcf H4 H5 b1'
 rintro m2 y11 y12 y24 y25 h6 nx6 R2 ⟨k,cr,cf,qr,qf,rfl,hmk,hcr,hcf,hw,H6⟩ hR2;rw [F31.t29,zA,F31.sJ,ji,zA,zB,F31.v25];by_cases ck:k<Z.length
 .obtain ⟨z,hz⟩:∃ z,Z[k]? = some z:=⟨_,List.getElem?_eq_getElem ck⟩;have hps:(Z.map (·.2.2)).getD k 0=z.2.2:=by rw [Zaa,List.getElem?_map,hz];rfl
  have hpn:z.2.2<n:=by rw [<- hps];exact hD.pr _ (yI (by rw [Zai];exact ck))
  have hPk:=yI (l:=P) (i:=k) (d:=[]) (by omega);have hpl:=hD.tv.row _ hPk;have e1:(P.map (·.take n)).getD k []=(P.getD k []).take n:=by rw [Zaa,List.getElem?_map,gN (d:=[]) (show k<P.length by omega)];rfl
  have e2:(P.map (·.drop n)).getD k []=(P.getD k []).drop n:=by rw [Zaa,List.getElem?_map,gN (d:=[]) (show k<P.length by omega)];rfl
  have row1:=S1.row k (by rw [Zai];omega);have row2:=S2.row k (by rw [Zai];omega);rw [e1] at row1;rw [e2] at row2;obtain ⟨c1,c2⟩:=hw.col (R:=10) (Bd:=161051) hD (by omega) (by omega) (by decide) (by decide);have hN:∀ {q:Rat},(∃ t,1<=t/\t<=161051/\Dn t ((10+2)*161051) q)->xg 1932612 q:=λ⟨t,t1,t2,t3⟩=>t3.nm t1 (by omega);have kn:∀ j,xg 861979 (at' (P.getD k []) j):=λj=>by
   obtain ⟨t,t1,t2,t3⟩:=hD.tv.kn (k:=k) (R:=11) (Bd:=861979) (by omega) (by omega) (by decide) (by decide) j;exact t3.nm t1 t2
  have kn1:∀ j,xg 861979 (at' ((P.getD k []).take n) j):=λj=>by
   by_cases hj:j<n
   .rw [mE hj];exact kn j
   .rw [j5 (by rw [Zal];omega)];exact zp8 (by decide)
  have kn2:∀ j,xg 861979 (at' ((P.getD k []).drop n) j):=λj=>by rw [zfy];exact kn _
  obtain ⟨id5,g5,d5⟩:=H6.zwl (k:=2) (j:=k) (e:=3) rfl ck (za5 l3 Z) (zdn l3 hz);obtain ⟨cs2,q1,q2,_,fv⟩:=hcr.get (uD (q:=qr) (j:=z.2.2) (by rw [hw.rl];exact hpn));obtain ⟨s,w,s',w',hcs,f1,f2⟩:=fv;obtain rfl:cs2=[s,w,s',w']:=by injection hcs
  have fv:jE (.agg [s,w,s',w']) (at' qr z.2.2):=⟨s,w,s',w',rfl,f1,f2⟩;have hb:=hN (c1 z.2.2);rw [Zac (by omega),zD,zE,zA,zJ,zA,F31.aP,g5,d5];refine H6.alloc λb11 h7 nx7 H7 => ?_;refine H7.yx (k:=0) (l2:=knF n lines.length z) rfl rfl rfl λh8 H8 => ?_;rw [zA,F31.nQ,sFx,H8.load (k:=0) (i:=0+2) rfl rfl,sQ (j:=z.2.2) rfl hpn,H8.gu (k:=2) rfl q2 q1];refine H8.alloc λb12 h9 nx9 H9 => ?_;refine H9.yx (k:=0) (l2:=[s,w,s',w']) rfl rfl rfl λh10 H10 => ?_;have H10:Hp h h10 nx9 ([.arr b12 [s,w,s',w'],.arr b11 (knF n lines.length z),.arr f cf,.arr r cr]++ML n lines.length o5 o6 Z cs cg D T):=H10;rw [zA,F31.zdr,H10.zn (k:=0) (n:=4) rfl rfl,sFx,H10.load (k:=1) (i:=0+0) rfl rfl]
  refine pU (kr:=3) (M:=1932612) (N:=861979) (P:=1932612) (R:=1932612*861979) H10 rfl (r1 _ hz) (by show 4+(k+2)≠3;omega) hcr row1 hw.rl (by rw [Zal];omega) (by omega) fv hb (uT λj=>hN (c1 j)) (uT kn1) (λx hx=>by
   obtain ⟨j,_,rfl⟩:=vI hx;exact zjl hb (kn1 j)) (by decide) (by decide) λcr' h11 nx11 hcr' H11 => ?_
  have H11:Hp h h11 nx11 ([.arr b12 [s,w,s',w'],.arr b11 (knF n lines.length z),.arr f cf,.arr r cr']++ML n lines.length o5 o6 Z cs cg D T):=H11;rw [F31.zk1,H11.zn (k:=0) (n:=4) rfl rfl,sFx,H11.load (k:=1) (i:=0+1) rfl rfl];refine mX fv _ _ _ _ ?_;rintro v4 fv4 _;rw [H11.load (k:=1) (i:=0+1) rfl rfl,zF,sFx,zF,zF]
  refine pU (kr:=2) (M:=1932612) (N:=861979) (P:=1932612) (R:=1932612*861979) H11 rfl (r2 _ hz) (by show 4+(P.length+k+2)≠2;omega) hcf row2 hw.fl (by rw [Zcc];omega) (by omega) fv4 hb.neg (uT λj=>hN (c2 j)) (uT kn2) (λx hx=>by
   obtain ⟨j,_,rfl⟩:=vI hx;exact zjl hb.neg (kn2 j)) (by decide) (by decide) λcf' h12 nx12 hcf' H12 => ?_
  have H12:Hp h h12 nx12 ([.arr b12 [s,w,s',w'],.arr b11 (knF n lines.length z),.arr f cf',.arr r cr']++ML n lines.length o5 o6 Z cs cg D T):=H12;have hw':=hw.next hD (by omega);rw [hps] at hw';rw [F31.zxg,gq (by omega)];exact hR2 (m2-1) _ _ _ _ _ _ (by omega) ⟨k+1,cr',cf',_,_,by congr 1,by omega,hcr',hcf',hw',H12.drop.drop⟩
 obtain rfl:k=Z.length:=by omega
 rw [hZP] at hw;rw [Zab (by omega),zC,yA,yF,zA,F31.zba];refine zp7 (k:=1) H6 rfl hcr hw.rl (by omega) (λh0 => ?_) λp hp hv => ?_
 .-- the line is a sum
  rw [zA,zA,F31.af,ji,Zac (by decide),zB,F31.v26,zD,zA,F31.zxi,zsb (by omega)];refine H6.dm (l:=[.sl f 0 i (some i) 4]) rfl λtb h7 nx7 H7 => ?_;have hfl:(qf.take i).length=i:=by rw [Zal,hw.fl];omega
  have hcl:i*4<=cf.length:=by rw [hcf.1,hw.fl];omega
  obtain ⟨h8,k8,H8,fz⟩:=H7.zsd hcl hcf.fix;obtain ⟨c1,c2⟩:=hw.col (R:=11) (Bd:=HB) hD (Zaf _) (by omega) (by decide) (by decide);refine oP k8 (.cons fz .nil) ?_;refine zjj (n:=i) (cb:=[cf.take (i*4)]) (Bs:=[qf.take i]) rfl (λa ha => ?_) (λb hb => ?_) (by omega) (by show 1<=1000;decide) (λb hb => ?_) _ _ _ _ ?_
  .obtain rfl:a=0:=by simpa using ha
   exact hcf.cut
  .rw [List.mem_singleton.1 hb];exact hfl
  .rw [List.mem_singleton.1 hb];refine uT λj => ?_;by_cases hj:j<i
   .rw [mE hj];obtain ⟨t,t1,t2,t3⟩:=c2 j;exact t3.sml t1 (Zas t2 (by decide)) (by decide)
   .rw [j5 (by omega)];exact (Dn.zero 1 1).sml (Zaf _) (Zaf _) (by decide)
  rintro _ rfl _;rw [jK,jJ,zA,zA,F31.zlm,di,Zac rfl,Zaj,zB,F31.v27,zC,zE,zA,F31.zlo,bR (j:=0) (i:=0) rfl (by show 0<1;decide),ldL rfl];have bd:∀ {x:Int} {n:Nat} {l:List AV} {K:AV->OP},gF [(I 0),.zb] [(0,1,I x),(1,1,.lst 1 n l)] K=K (.agg [I x,.lst 1 n l]):=nr rfl;rw [bd];refine H8.dm (l:=aO (i,qf.take i)) rfl λtd h9 nx9 H9 => ?_;rw [zhx];refine H9.appN (k:=3) (o:=o6) (c:=1) (new:=aO (i,qf.take i)) rfl (qa.rd (l:=aO (i,qf.take i)) (n:=1) (H9.own _ (Zak ..)) rfl) rfl rfl (by decide) (by decide) (by omega) λo6' h10 nx10 _ H10 => ?_;have H11:=H10.drop.drop;rw [yA,yF,F31.zsu,gq (by omega)];refine hR (m-1) _ _ _ _ _ _ _ _ _ _ _ _ _ _ _ _ _ _ _ _ _ _ _ _ (by omega) ⟨i+1,o5,o6',Z,cs,cg,fr,P,D++[(i,qf.take i)],rfl,by rw [Zae];rfl,by congr 1,by omega,S1,S2,hD.zwm hw ci (by omega) h0,H11.cast ?_⟩;rw [<- hT];show _=Ob.gro o5 3 Z.length (Z.flatMap (knF n lines.length))::Ob.gro o6' 2 (D++[(i,qf.take i)]).length ((D++[(i,qf.take i)]).flatMap aO)::_;rw [Zfp,Zae];simp
 .-- a new row
  obtain ⟨c1,c2⟩:=hw.col (R:=11) (Bd:=HB) hD (Zaf _) (by omega) (by decide) (by decide);have hN:∀ {q:Rat},(∃ t,1<=t/\t<=HB/\Dn t ((11+2)*HB) q)->xg 11205727 q:=λ⟨t,t1,t2,t3⟩=>t3.nm t1 (Zas t2 (by decide));rw [zA,zA,F31.af,ji,Zab (by omega),zB,F31.v26,zC,zE,zA,F31.zxj];refine zb3 (by unfold fA;omega) _ _ _ _ ?_;rintro v1 f1 _;have sg1:xg 1 (((-1:Int):Rat)):=Sg.q1 (.inl rfl);refine pH (kr:=0) (M:=1) (N:=11205727) H6 rfl hcf hw.fl (by omega) f1 sg1 (uT λj=>hN (c2 j)) (by decide) λcf1 h7 nx7 hcf1 H7 => ?_;have H7:Hp h h7 nx7 (.arr f cf1::.arr r cr::ML n lines.length o5 o6 Z cs cg D T):=H7;rw [zA,F31.zxk];refine zb3 (by unfold fA;omega) _ _ _ _ ?_;rintro _ ⟨s,w,s',w',rfl,i1,i2⟩ _;rw [rat1] at i1 i2;have hcl:=hcf1.1;rw [jW,hw.fl] at hcl;rw [sQ (j:=i) rfl ci];refine H7.sj (k:=0) (off:=i*4) rfl (by omega) rfl λh8 H8 => ?_;have hcf2:=hcf1.put (j:=i) (by rw [jW,hw.fl];exact ci) i1 i2;have H8:Hp h h8 nx7 (.arr f (j3 cf1 (i*4) [s,w,s',w'])::.arr r cr::ML n lines.length o5 o6 Z cs cg D T):=H8;obtain ⟨cs2,q1,q2,_,fv⟩:=hcr.get (uD (q:=qr) (j:=p) (by rw [hw.rl];exact hp));rw [zA,F31.zxl,sQ (j:=p) rfl hp,H8.gu (k:=1) rfl q2 q1];refine zb5 fv hv _ _ _ _ ?_;rintro _ ⟨t,u,t',u',rfl,j1,j2⟩ _;have fi:jE (.agg [t,u,t',u']) (at' qr p)⁻¹:=⟨t,u,t',u',rfl,j1,j2⟩;have hb:=(hN (c1 p)).inv;refine H8.alloc λb16 h9 nx9 H9 => ?_;refine H9.yx (k:=0) (l2:=[t,u,t',u']) rfl rfl rfl λh10 H10 => ?_;have H10:Hp h h10 nx9 (.arr b16 [t,u,t',u']::.arr f (j3 cf1 (i*4) [s,w,s',w'])::.arr r cr::ML n lines.length o5 o6 Z cs cg D T):=H10;rw [zA,F31.zxm,H10.zn (k:=0) (n:=4) rfl rfl];refine pH (kr:=2) (M:=11205727) (N:=11205727) H10 rfl hcr hw.rl (by omega) fi hb (uT λj=>hN (c1 j)) (by decide) λcr1 h11 nx11 hcr1 H11 => ?_;have H11:Hp h h11 nx11 (.arr b16 [t,u,t',u']::.arr f (j3 cf1 (i*4) [s,w,s',w'])::.arr r cr1::ML n lines.length o5 o6 Z cs cg D T):=H11;rw [zA,F31.zd0,H11.zn (k:=0) (n:=4) rfl rfl];refine pH (kr:=1) (M:=11205727) (N:=11205727) H11 rfl hcf2 (by rw [Zbc,jW,hw.fl]) (by omega) fi hb (uT λj => ?_) (by decide) λcf3 h12 nx12 hcf3 H12 => ?_
  .by_cases e:i=j
   .subst e;rw [at',Zaa,List.getElem?_set_self (by rw [jW,hw.fl];exact ci)];exact (Sg.q1 (.inr (.inr rfl))).mono (by decide)
   .rw [at',Zaa,List.getElem?_set_ne e,<- Zaa];show xg _ (at' (yY _ qf) j);rw [gR,show at' qf j*(((-1:Int):Rat)) = -at' qf j by rw [Zbw,rat1];grind];exact (hN (c2 j)).neg
  have H12:Hp h h12 nx12 (.arr b16 [t,u,t',u']::.arr f cf3::.arr r cr1::ML n lines.length o5 o6 Z cs cg D T):=H12;have bd:∀ {a b:Nat} {x y:Pa} {z:Int} {K:AV->OP},gF [.zb,.zb,(I 0)] [(0,1,rwV a x),(1,1,rwV b y),(2,1,I z)] K=K (.agg [rwV a x,rwV b y,I z]):=nr rfl;rw [F31.zdw,bd];refine H12.dm (l:=knF n lines.length (r,f,p)) rfl λtb h13 nx13 H13 => ?_;refine H13.appN (k:=4) (o:=o5) (c:=1) (new:=knF n lines.length (r,f,p)) rfl (qa.rd (l:=knF n lines.length (r,f,p)) (n:=1) (H13.own _ (Zak ..)) rfl) rfl rfl (by decide) (by decide) (by omega) λo5' h14 nx14 _ H14 => ?_;have H15:Hp h h14 nx14 (.arr f cf3::.arr r cr1::.gro o5' 3 (Z.length+1) (Z.flatMap (knF n lines.length)++knF n lines.length (r,f,p))::.gro o6 2 D.length (D.flatMap aO)::(List.zipWith Ob.arr (Z.map (·.1)) cs++(List.zipWith Ob.arr (Z.map (·.2.1)) cg++T))):=H14.drop.drop;have H16:=H15.perm zwo;obtain ⟨hDn,hln⟩:=hD.zwn hw ci hp hv;have sl:yY (((-1:Int):Rat)) qf=yY (-1) qf:=by rw [Zbw,rat1]
  rw [sl] at hcf3;rw [F31.zsu,gq (by omega)];refine hR (m-1) _ _ _ _ _ _ _ _ _ _ _ _ _ _ _ _ _ _ _ _ _ _ _ _ (by omega) ⟨i+1,o5',o6,Z++[(r,f,p)],cs++[cr1],cg++[cf3],fr++[i],_,D,by rw [Zae];rfl,rfl,by congr 1,by omega,?_,?_,by rw [Zbe];exact hDn,H16.cast ?_⟩
  .rw [Zbe,Zbe,Zdh,Zdh,Zdr hln];exact S1.add hcr1
  .rw [Zbe,Zbe,Zdh,Zdh,Zes hln];exact S2.add hcf3
  .rw [<- hT,ML,Zfp,Zae,Zbe,Zbe,Zdh,Zdh,bF (by rw [S1.lr,S1.lc]),bF (by rw [S2.lr,S2.lc])];simp
end Go.Ev
namespace Go.Ev
theorem zf1:∀ (l r:List Int),l.Nodup->(∀ x∈l,x∈r)->∃ s,r.Perm (l++s)
 | [],r,_,_=>⟨r,.refl _⟩
 | a::l,r,hn,hs=>by
  obtain ⟨h1,h2⟩:=List.nodup_cons.1 hn;have ha:=hs a (by simp);obtain ⟨s,hp⟩:=zf1 l (r.erase a) h2 λx hx=>(List.mem_erase_of_ne (by rintro rfl;exact h1 hx)).2 (hs x (by simp [hx]));exact ⟨s,(List.perm_cons_erase ha).trans (.cons a hp)⟩
abbrev upTo (n:Nat):List Int:=(List.range n).map λ(i:Nat)=>(i:Int)+1
def Rv (l cur:List Int) (i:Nat):Prop:=cur.length=l.length/\∀ t,t<l.length->cur[t]? = if t<i\/l.length<=t+i then l[l.length-1-t]? else l[t]?
theorem Rv.start (l:List Int):Rv l l 0:=⟨rfl,λt ht=>by rw [if_neg (by omega)]⟩
theorem Rv.done {l cur:List Int} {i:Nat} (h:Rv l cur i) (hi:l.length<=2*i+1):cur=l.reverse:=by
 refine Zbq λt => ?_;by_cases ht:t<l.length
 .rw [h.2 t ht,List.getElem?_reverse ht];by_cases c:t<i\/l.length<=t+i
  .rw [if_pos c]
  .rw [if_neg c,show l.length-1-t=t by omega]
 .rw [List.getElem?_eq_none (by rw [h.1];omega),List.getElem?_eq_none (by simp;omega)]
theorem Rv.step {l cur:List Int} {i j:Nat} {a b:Int} (h:Rv l cur i) (hij:i<j) (hs:i+j+1=l.length) (ha:cur[i]? = some a) (hb:cur[j]? = some b):Rv l ((cur.set i b).set j a) (i+1):=by
 obtain ⟨hl,hg⟩:=h;refine ⟨by simp [hl],λt ht => ?_⟩;have e1:=hg i (by omega);have e2:=hg j (by omega);rw [if_neg (by omega),ha] at e1;rw [if_neg (by omega),hb] at e2;rw [List.getElem?_set,List.getElem?_set,Zbc];by_cases c1:j=t
 .subst c1;rw [if_pos rfl,if_pos (by omega),if_pos (by omega),show l.length-1-j=i by omega];exact e1
 .rw [if_neg c1];by_cases c2:i=t
  .subst c2;rw [if_pos rfl,if_pos (by omega),if_pos (by omega),show l.length-1-i=j by omega];exact e2
  .rw [if_neg c2,hg t ht];by_cases c3:t<i\/l.length<=t+i
   .rw [if_pos c3,if_pos (by omega)]
   .rw [if_neg c3,if_neg (by omega)]
section
variable {σ α:Type}
end
end Go.Ev
namespace Go.Ev
def zjm (ag:List Int->Bool) (n:Nat):Nat->List Int->List (List Int)
 | 0,pre=>if ag pre then [pre] else []
 | r+1,pre=>if ag pre then (upTo n).flatMap λx=>if x∈pre then [] else zjm ag n r (pre++[x]) else []
def SpOK (M:Int) (q:List (Int×Int)):Prop:=q.Pairwise (λa b=>a.1<b.1)/\∀ p∈q,0<=p.1/\p.1<=M
theorem SpOK.len {q:List (Int×Int)} (h:SpOK 9000 q):q.length<=9001:=by
 obtain ⟨t,ht⟩:=zf1 (q.map (·.1)) ((List.range 9001).map λ(i:Nat)=>(i:Int)) (by
  rw [Zeo,List.pairwise_map];exact h.1.imp λ{a b} q e=>by omega) λx hx=>by
  obtain ⟨p,hp,rfl⟩:=List.mem_map.1 hx;have:=h.2 p hp;exact List.mem_map.2 ⟨p.1.toNat,List.mem_range.2 (by omega),by omega⟩
 have:=ht.length_eq;rw [Zai,Zdm,Zae,Zai] at this;omega
def Here (ag:List Int->Bool):Prop:=∀ pre x,ag (pre++[x])=true->ag pre=true
theorem Here.down {ag q:List Int->Bool} {n:Nat} (hh:Here ag):∀ {r:Nat} {pre f:List Int},f∈zjm q n r pre->ag f=true->ag pre=true
 | 0,pre,f,h,ha=>by
  rw [zjm] at h;split at h
  .simp at h;subst h;exact ha
  .simp at h
 | r+1,pre,f,h,ha=>by
  rw [zjm] at h;split at h
  .obtain ⟨x,_,hx⟩:=List.mem_flatMap.1 h;split at hx
   .simp at hx
   .exact hh _ _ (Here.down hh hx ha)
  .simp at h
end Go.Ev
namespace Go.Ev
open Go Go.Proofs
variable {B:Nat}
set_option maxRecDepth 100000
theorem dU {α:Type} [DecidableEq α]:∀ (l r:List α),l.Nodup->(∀ x∈l,x∈r)->∃ s,r.Perm (l++s)
 | [],r,_,_=>⟨r,.refl _⟩
 | a::l,r,hn,hs=>by
  obtain ⟨h1,h2⟩:=List.nodup_cons.1 hn;have ha:=hs a (by simp);obtain ⟨s,hp⟩:=dU l (r.erase a) h2 λx hx=>(List.mem_erase_of_ne (by rintro rfl;exact h1 hx)).2 (hs x (by simp [hx]));exact ⟨s,(List.perm_cons_erase ha).trans (.cons a hp)⟩
theorem zdo {α:Type} [DecidableEq α] {l r:List α} (h1:l.Nodup) (h2:∀ x∈l,x∈r) (h3:r.length<=l.length):r.Perm l:=by
 obtain ⟨s,hs⟩:=dU l r h1 h2;have hl:=hs.length_eq;obtain rfl:s=[]:=Zci (by rw [Zae] at hl;omega);simpa using hs
end Go.Ev
namespace Go.Ev
open Go Go.Proofs
structure Tr (n:Nat) (P:List (List Rat)) (ps:List Nat):Prop where
 len:ps.length=P.length
 row:∀ q∈P,q.length=n
 rng:∀ p∈ps,p<n
 one:∀ a,a<P.length->at' (P.getD a []) (ps.getD a 0)=1
 low:∀ a b,a<P.length->b<a->at' (P.getD a []) (ps.getD b 0)=0
theorem bH {n:Nat} {P Bs:List (List Rat)} {ps:List Nat} (h:Tr n P ps) (hB:∀ b∈Bs,b.length=n/\∀ j,Sg (at' b j)) (hb:Bs.length<=11) (hk:∀ f:List Rat,f.length=n->(∀ b∈Bs,dot b f=0)->∀ q∈P,dot q f=0):P.length<=Bs.length:=by
 refine Zfd λhlt => ?_;have hps:=h.len;obtain ⟨x,⟨b,hb1,hb0⟩,_,hz⟩:=zdj (R:=11) (Bd:=HB) hb (by decide) (λi c=>sgI (at' (Bs.getD i []) (ps.getD c 0))) λi c=>za0 _;have hc:∀ i,i<Bs.length+1->ps.getD i 0<n:=λi hi=>h.rng _ (yI (by omega));have hP:=hk (plF n (λi=>ps.getD i 0) (λi=>(x i:Rat)) (Bs.length+1)) (qD _) λo ho=>by
  obtain ⟨i,hi⟩:=List.mem_iff_getElem?.1 ho;have hil:=(List.getElem?_eq_some_iff.1 hi).1;have hio:Bs.getD i []=o:=by rw [Zaa,hi];rfl
  rw [xH (hB o ho).1 _ hc];have:=hz i hil;rw [show (0:Rat)=((0:Int):Rat) from rfl,<- this,<- vP];exact uV λc _=>by rw [hio,Zcm,((hB o ho).2 _).int]
 have down:∀ d i,i<=Bs.length->Bs.length<i+d->x i=0:=by
  intro d
  induction d with
  | zero=>intro i h1 h2;omega
  | succ d ih =>
   intro i h1 h2;by_cases c:Bs.length<i+d
   .exact ih i h1 c
   have hil:i<P.length:=by omega
   have e:=hP _ (yI (d:=[]) hil);rw [xH (h.row _ (yI hil)) _ hc,xB (i:=i) (x:=λb=>(x b:Rat)) λb hb => ?_,if_pos (by omega)] at e
   .exact Classical.byContradiction λq=>wM q e
   .rcases Zgc b i with q | q | q
    .rw [h.low i b hil q,if_neg (by omega)]
    .subst q;rw [h.one _ hil,if_pos rfl]
    .rw [if_neg (by omega),ih b (by omega) (by omega),show ((0:Int):Rat)=0 from rfl];grind
 exact hb0 (down (Bs.length+1) b hb1 (by omega))
theorem zk0 {n:Nat} {ps:List Nat} (hnd:ps.Nodup) (hr:∀ p∈ps,p<n):(frQ n ps).length+ps.length=n:=by
 have h1:((List.range n).filter λx=>decide (x∈ps)).length=ps.length:=by
  refine (zdo (l:=ps) hnd (λx hx => ?_) ?_).length_eq
  .exact List.mem_filter.2 ⟨List.mem_range.2 (hr x hx),by simpa using hx⟩
  .have hn2:((List.range n).filter λx=>decide (x∈ps)).Nodup:=(List.nodup_range (n:=n)).sublist List.filter_sublist;obtain ⟨s,hs⟩:=dU _ ps hn2 λx hx=>by simpa using (List.mem_filter.1 hx).2
   have:=hs.length_eq;rw [Zae] at this;omega
 have h2:=List.length_eq_countP_add_countP (λx=>decide (x∈ps)) (l:=List.range n);rw [Zdm,List.countP_eq_length_filter,List.countP_eq_length_filter,h1] at h2;have e:(List.range n).filter (λa=>decide (¬ (λx=>decide (x∈ps)) a=true))=frQ n ps:=by
  unfold frQ;refine List.filter_congr λx _ => ?_;by_cases c:x∈ps <;> simp [c]
 rw [e] at h2;omega
theorem zsf {n extra:Nat} {lines:List (List Int)} {Q P:List (List Rat)} {ps ps2 fr:List Nat} {D:List (Nat×List Rat)} (hl:lines.length<=12) (hR:zp3 n lines Q ps) (hD:Dv n lines lines.length fr P ps2 D) (he:extra=if lines≠[]/\∃ c∈frQ n ps,dot (liQ n lines 0) (rT n Q ps c)≠0 then 1 else 0):(frQ n ps).length+lines.length=n+D.length+extra:=by
 obtain ⟨⟨O,hS⟩,hq,hdot,hmg⟩:=hR;have hT:=hD.tv;have hol:=hT.olen;rw [Zai] at hol;have hcnt:=hD.cnt;have hfc:=zk0 hS.nodup hS.rng;have hsl:=hS.len;have t1:Tr n (P.map (·.take n)) ps2:=by
  have g:∀ {a b:Nat},a<P.length->b<=a->at' ((P.map (·.take n)).getD a []) (ps2.getD b 0)=at' (P.getD a []) (ps2.getD b 0):=λ{a b} ha hb=>by
   have e1:(P.map (·.take n)).getD a []=(P.getD a []).take n:=by rw [Zaa,List.getElem?_map,gN (d:=[]) ha];rfl
   have hl2:=hT.len;rw [e1,mE (hD.pr _ (yI (by omega)))]
  refine ⟨by rw [Zai];exact hT.len,λq hq => ?_,hD.pr,λa ha => ?_,λa b ha hb => ?_⟩
  .obtain ⟨p,hp,rfl⟩:=List.mem_map.1 hq;rw [Zal,hT.row p hp];omega
  .rw [Zai] at ha;rw [g ha (Zaf _)];exact hT.one a ha
  .rw [Zai] at ha;rw [g ha (Nat.le_of_lt hb)];exact hT.low a b ha hb
 have t2:Tr n Q ps:=⟨hS.len,hS.row,hS.rng,λa ha=>by rw [hS.one a a ha ha,if_pos rfl],λa b ha hb=>by rw [hS.one a b ha (by omega),if_neg (by omega)]⟩;have hpl:(P.map (·.take n)).length=P.length:=Zai ..;have sgL:∀ b,(liQ n lines b).length=n/\∀ j,Sg (at' (liQ n lines b) j):=λb=>⟨yQ ..,λj=>(pX n _ j).elim (λe=>.inr (.inl e)) λe=>.inr (.inr e)⟩;have f2:∀ f:List Rat,f.length=n->(∀ b∈fr,dot (liQ n lines b) f=0)->∀ q∈P.map (·.take n),dot q f=0:=λf hf hz q hq=>by
  obtain ⟨p,hp,rfl⟩:=List.mem_map.1 hq;obtain ⟨a,ha⟩:=List.mem_iff_getElem?.1 hp;have hal:=(List.getElem?_eq_some_iff.1 ha).1;have hpa:P.getD a []=p:=by rw [Zaa,ha];rfl
  have hpn:=hT.row p hp;have e:=hT.ker a hal (f++List.replicate lines.length 0) (by rw [Zae,hf,Zav]) λb hb=>by
   rw [zhw (by omega),lhQ,dD _ _ _ _ (by rw [yQ,hf]),hz _ (yI (by omega)),zfx];grind
  rw [hpa,<- Zee n p,dD _ _ _ _ (by rw [Zal,hf];omega),zfx,Zew] at e;exact e
 have f3:∀ f:List Rat,f.length=n->(∀ b∈fr,dot (liQ n lines b) f=0)->∀ j,j<lines.length->dot (liQ n lines j) f=0:=λf hf hz j hj=>hD.cov j hj f hf λq hq=>f2 f hf hz _ (List.mem_map.2 ⟨q,hq,rfl⟩)
 have f4:∀ f:List Rat,f.length=n->(∀ j,j<lines.length->dot (liQ n lines j) f=0)->Mgf n lines f:=λf hf hz=>⟨hf,λl hl=>by
  obtain ⟨j,hj⟩:=List.mem_iff_getElem?.1 hl;have hjl:=(List.getElem?_eq_some_iff.1 hj).1;have hjd:lines.getD j []=l:=by rw [Zaa,hj];rfl
  have e:=hz j hjl;rw [liQ,hjd] at e;rw [e];exact (hz 0 (by omega)).symm⟩
 have f5:∀ f:List Rat,Mgf n lines f->dot (liQ n lines 0) f=0->∀ j,j<lines.length->dot (liQ n lines j) f=0:=λf hf h0 j hj=>by rw [hf.2 _ (yI hj)];exact h0
 have frL:∀ b∈fr,b<lines.length:=hD.frl;have kO:∀ f:List Rat,f.length=n->(∀ o∈O,dot o f=0)->Mgf n lines f:=λf hf hz=>hmg f hf (hS.ker f hf hz);have bsF:∀ b∈fr.map (liQ n lines),b.length=n/\∀ j,Sg (at' b j):=λb hb=>by
  obtain ⟨i,_,rfl⟩:=List.mem_map.1 hb;exact sgL i
 have bsO:∀ b∈O,b.length=n/\∀ j,Sg (at' b j):=λb hb=>⟨hS.orow b hb,hS.osg b hb⟩;have hfl:(fr.map (liQ n lines)).length=P.length:=by rw [Zai];exact hol
 have hol2:=hS.olen;by_cases hx:lines≠[]/\∃ c∈frQ n ps,dot (liQ n lines 0) (rT n Q ps c)≠0
 .rw [if_pos hx] at he;obtain ⟨hne,c,hc,hv⟩:=hx;have hm0:0<lines.length:=List.length_pos_iff.2 hne;obtain ⟨hcr,hcp⟩:=List.mem_filter.1 hc;have hcn:=List.mem_range.1 hcr;have hcps:c∉ps:=by simpa using hcp
  have hker:=zr7 hS hcn hcps;have le1:P.length<=Q.length+1:=by
   by_cases q11:Q.length=11
   .omega
   have:=bH (Bs:=liQ n lines 0::O) t1 (λb hb=>by
    rcases List.mem_cons.1 hb with rfl | hb
    .exact sgL 0
    .exact bsO b hb) (by rw [Zba];omega) λf hf hz=>f2 f hf λb hb=>f5 f (kO f hf λo ho=>hz o (Zar _ ho)) (hz _ (Zak ..)) b (frL b hb)
   rw [hpl,Zba] at this;omega
  have le2:Q.length+1<=P.length:=by
   by_cases k12:12<=P.length
   .omega
   have hr:=RkG.allV (g:=liQ n lines 0) hS (yQ ..) Q.length (Zaf _);have hlz:(nU Q ps).length=Q.length:=by unfold nU;rw [Zfo,hS.len,Nat.min_self]
   rw [Zap (by omega)] at hr;obtain ⟨r,hre⟩:∃ r,r=sH (nU Q ps) (liQ n lines 0):=⟨_,rfl⟩;rw [<- hre] at hr;have hrd:∀ f:List Rat,(∀ q∈Q,dot q f=0)->dot r f=dot (liQ n lines 0) f:=λf hf=>by
    rw [hre];exact xW (n:=n) (f:=f) (nU Q ps) _ (λx hx=>⟨hS.row _ (Zda hx).1,hf _ (Zda hx).1⟩) (yQ ..)
   obtain ⟨j,hj⟩:∃ j,at' r j≠0:=Classical.byContradiction λhn=>hv (by
    rw [<- hrd _ hker];exact kX _ _ λj=>Classical.byContradiction λq=>hn ⟨j,q⟩)
   have hjn:j<n:=Nat.lt_of_not_le λq=>hj (j5 (by rw [hr.len];exact q));have t3:Tr n (Q++[yY (at' r j)⁻¹ r]) (ps++[j]):=by
    have ga:∀ {α:Type} {l:List α} {x d:α} {a:Nat},a<l.length->(l++[x]).getD a d=l.getD a d:=λh=>by
     rw [Zaa,Zaa,List.getElem?_append_left h]
    have gl:∀ {α:Type} {l:List α} {x d:α} {a:Nat},a=l.length->(l++[x]).getD a d=x:=λh=>by
     subst h;rw [Zaa,List.getElem?_append_right (Zaf _),Zcd];rfl
    refine ⟨by simp [hsl],λq hq => ?_,λq hq => ?_,λa ha => ?_,λa b ha hb => ?_⟩
    .rcases List.mem_append.1 hq with q1 | q1
     .exact hS.row _ q1
     .rw [List.mem_singleton.1 q1,jW];exact hr.len
    .rcases List.mem_append.1 hq with q1 | q1
     .exact hS.rng _ q1
     .rw [List.mem_singleton.1 q1];exact hjn
    .rw [Zae,Zbf] at ha;by_cases e:a<Q.length
     .rw [ga e,ga (by omega)];exact t2.one a e
     .rw [gl (by omega),gl (by omega),gR];grind
    .rw [Zae,Zbf] at ha;rw [ga (l:=ps) (by omega)];by_cases e:a<Q.length
     .rw [ga e];exact t2.low a b e hb
     .rw [gl (by omega),gR,hr.done b (by omega) (by omega),Zcs]
   have:=bH (Bs:=fr.map (liQ n lines)) t3 bsF (by rw [hfl];omega) λf hf hz q hq=>by
    have al:=f3 f hf λb hb=>hz _ (List.mem_map.2 ⟨b,hb,rfl⟩);have hQ:=hdot f (f4 f hf al);rcases List.mem_append.1 hq with q1 | q1
    .exact hQ q q1
    .rw [List.mem_singleton.1 q1,u9,hrd f hQ,al 0 hm0,Zbk]
   rw [Zae,Zbf,hfl] at this;exact this
  omega
 .rw [if_neg hx] at he;have al:∀ f:List Rat,Mgf n lines f->∀ j,j<lines.length->dot (liQ n lines j) f=0:=λf hf j hj=>by
   refine f5 f hf (zwk hS (yQ ..) (hdot f hf) λc hc hcp => ?_) j hj;rw [dot_comm];refine Classical.byContradiction λq=>hx ⟨λe=>by rw [e] at hj;simp at hj,c,List.mem_filter.2 ⟨List.mem_range.2 hc,by simpa using hcp⟩,q⟩
  have le1:P.length<=Q.length:=by
   have:=bH (Bs:=O) t1 bsO (by omega) λf hf hz=>f2 f hf λb hb=>al f (kO f hf hz) b (frL b hb);rw [hpl] at this;omega
  have le2:Q.length<=P.length:=by
   by_cases k12:12<=P.length
   .omega
   have:=bH (Bs:=fr.map (liQ n lines)) t2 bsF (by rw [hfl];omega) λf hf hz=>hdot f (f4 f hf (f3 f hf λb hb=>hz _ (List.mem_map.2 ⟨b,hb,rfl⟩)));rw [hfl] at this;exact this
  omega
end Go.Ev
