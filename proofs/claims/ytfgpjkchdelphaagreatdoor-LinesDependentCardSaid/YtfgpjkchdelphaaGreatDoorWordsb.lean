import Derived.Test.YtfgpjkchdelphaaGreatDoorWordsa
import Derived.Test.YtfgpjkchdelphaaGreatDoorEvD
import Derived.Test.YtfgpjkchdelphaaGreatDoorCodea
import Derived.Test.YtfgpjkchdelphaaGreatDoorCodeb
set_option linter.unusedSimpArgs false
set_option linter.unusedVariables false
namespace Go.Ev
open Go Go.Proofs
variable {B:Nat}
set_option maxRecDepth 100000
abbrev D (m:Nat):AV:=I (m:Int)
def vw (l:List Nat):AV:=.lst 1 l.length (l.map D)
theorem zqk (l:List Nat):∀ v∈l.map D,nu v=true:=λv hv=>by obtain ⟨x,_,rfl⟩:=List.mem_map.1 hv;rfl
theorem kM (l:List Nat):nu (vw l)=true:=xK (zqk l)
theorem dGet {l:List Nat} {i x:Nat} (h:l[i]? = some x):(l.map D)[i]? = some (D x):=by rw [List.getElem?_map,h];rfl
theorem dLen {l:List Nat} {K:AV->OP}:sLen (vw l) K=K (I l.length):=zX ..
theorem dIx {l:List Nat} {i:Nat} {j:Int} {op:AV->OP} (hj:j=(i:Int)) (hi:i<l.length):zK 1 (vw l) (I j) op=op (.fp ((l.map D).drop (i*1))):=fF hj hi
theorem dLd {l:List Nat} {i x:Nat} {h:T Blk} {op:AV->OP} (hx:l[i]? = some x):zH (.fp ((l.map D).drop (i*1))) h op=op (D x):=ldL (dGet hx)
theorem Hp.letD {h0 h:T Blk} {nx:Pa} {L:List Ob} {id:Pa} {l:List Nat} {n:Nat} (H:Hp h0 h nx (.arr id (l.map D)::L)) (hn:l.length=n):∃ h',uU h' h/\Hp h0 h' nx L/\sH h' h (.sl id 0 n (some n) 1) (vw l):=by
 subst hn;exact ⟨_,pI,H.zda,um.frz (H.own _ (Zaj ..)) (T.get_set_same _ _ _ _) (Zaf _) (by simp) (zqk l)⟩
theorem zwq {l:List Nat} {i:Nat} {op:AV->OP} (hl:1<=l.length) (hi:i<=l.length):qP 1 (vw l) none (some (I (i:Int))) none op=op (vw (l.take i)):=by
 show (bif Nat.beq 1 1&&Nat.ble 1 l.length then (match bnd (some (I (i:Int))) l.length l.length with | none=>Out.no 17 | some h=>match bnd none h 0 with | none=>.no 17 | some q=>op (.lst 1 (h-q) (((l.map D).drop (q*1)).take ((h-q)*1)))) else .no 17)=_;rw [Zag hl];have:bnd (some (I (i:Int))) l.length l.length=some i:=by
  show (bif Nat.ble i l.length then some i else none)=_;rw [Zag hi];rfl
 rw [this];show op (.lst 1 (i-0) (((l.map D).drop (0*1)).take ((i-0)*1)))=_;unfold vw;rw [Zai,Zbp hi,Zfw];simp
theorem Hp.sw {h0 h:T Blk} {nx:Pa} {L:List Ob} (H:Hp h0 h nx L) (e:Nat):Hp h0 h nx (.gro none e 0 []::L) :=
  ⟨H.keep,fun x hx=>by rcases List.mem_cons.1 hx with rfl | q;· exact ⟨rfl,rfl⟩
                       . exact H.own x q,λn hn=>H.off n (by simpa [Ob.names] using hn),by have:=H.nd;simpa [Ob.names] using this,H.fr⟩
theorem zew {l:List Nat} (hd:Dg 1000000000 l) (hl:l.length<=1000000):Pure Tryz.prog B 269 [vw l] (· = vw (dg 1000000000 (bv 1000000000 l))):=by
 refine zT λh nx K H0 hK=>zM zQ yA 1000010 λhf => ?_;rw [jv.go,jv.t12,zA,jv.zw,zA,zI];refine jv.t7_L (λm x0 h' nx'=>x0=vw (l.take m)/\m<=l.length/\bv 1000000000 (l.take m)=bv 1000000000 l/\Hp h h' nx' []) (m:=l.length) (by omega) ⟨by rw [Zcx],by omega,by rw [Zcx],H0⟩ ?_;rintro m z0 z2 h3 nx3 R ⟨rfl,hm,hb,H3⟩ hR;have fin:Nm (l.take m)->K (vw (l.take m)) h3 nx3=.ok True:=λhn=>hK _ _ _ _ _ H3 (zV (kM _)) (by rw [<- hb,<- bI (by decide) hd.take hn]);have hlen:(l.take m).length=m:=by rw [Zai];omega
 rw [jv.t6,zA,zA,jv.zu,jv.sD,jv.sF,dLen,di,hlen];cases m with
 | zero =>
  rw [Zab (by omega)];simp only [jH];rw [jv.tO,jv.rU];simp only [jH,zZ];rw [zB,jv.v2,zC,zW,yD,zA,jv.nP];simp only [zF,zN];rw [jv.ret];exact fin (by simp [Nm])
 | succ k =>
  have e:l[k]? = some (l.getD k 0):=getD_some (by omega);have e':(l.take (k+1))[k]? = some (l.getD k 0):=by rw [List.getElem?_take_of_lt (by omega),e]
  rw [Zac (by omega)];simp only [yO];rw [dLen,hlen,dh (by omega),jv.tO,jv.rU];simp only [yO];rw [dIx (i:=k) (by omega) (by omega),dLd e',wm,zY,zB,jv.v2];by_cases d:l.getD k 0=0
  .rw [Zac (by omega),zD,zE,zI,jv.fG,dLen,hlen,dh (by omega),show ((k+1:Nat):Int)-1=((k:Nat):Int) by omega,zwq (by omega) (by omega),List.take_take,Zbp (by omega)];refine hR k _ _ _ _ (by omega) ⟨rfl,by omega,?_,H3⟩;rw [vF e,d] at hb;simpa using hb
  .rw [Zab (by omega),zC,zW,yD,zA,jv.nP];simp only [zF,zN];rw [jv.ret];exact fin (zsd e d)
def eP (z:Int):AV:=.agg [.bool (decide (z<0)),vw (dg 1000000000 z.natAbs)]
theorem zwr {b:Bool} {l:List Nat} {K:AV->OP}:j6 [(.bool false),.za] [(0,1,.bool b),(1,1,vw l)] K=K (.agg [.bool b,vw l]):=nr rfl
theorem dAgg {N:Pa->Prop} {O:AV->Prop} {hh:T Blk} {b:Bool} {l:List Nat}:Frz True N O hh (.agg [.bool b,vw l]) (.agg [.bool b,vw l]):=uAgg λv hv=>by
 simp only [Zao,List.not_mem_nil,or_false] at hv;rcases hv with rfl | rfl
 .rfl
 .exact kM l
theorem zex {n:Nat} (h:n≠0):1<=(dg 1000000000 n).length:=by rw [kN (by decide) h];simp
theorem xA {b:Bool} {l:List Nat} (hd:Dg 1000000000 l) (hl:l.length<=1000000):Pure Tryz.prog B 214 [.bool b,vw l] (· = eP (if b then -(bv 1000000000 l:Int) else (bv 1000000000 l:Int))):=by
 refine zT λh nx K H0 hK=>zM zQ yA 100 λhf => ?_;rw [bf.go,bf.t5,zA,bf.zw];refine H0.alloc λp h1 nx1 H1 => ?_;rw [zA,bf.zu];refine zew hd hl _ _ _ _ ?_;rintro _ rfl _;rw [zA,bf.jd];have key:∀ c:Bool,c=(b&&decide (0<bv 1000000000 l))->(j6 [(.bool false),.za] [(0,1,.bool c),(1,1,vw (dg 1000000000 (bv 1000000000 l)))] λv5=>zS 2 (.ptr p 0) v5 h1 nx1 λv6 h7 n8=>IR.run .ret (CS Tryz.prog B) 100 (fnO bf.res K) (zi bf.res K) (bf.fr (.bool b) (vw (dg 1000000000 (bv 1000000000 l))) (.ptr p 0)) h7 n8)=.ok True:=by
  intro c hc;rw [zwr];refine H1.jb (l2:=[.bool c,vw (dg 1000000000 (bv 1000000000 l))]) (k:=0) rfl rfl rfl λh2 H2 => ?_;simp only [zF,zN];rw [bf.ret,H2.zm (k:=0) (n:=2) rfl rfl];refine hK _ _ _ _ _ H2 dAgg ?_;unfold eP;subst hc;cases b with
  | false=>rw [if_neg (by decide),Zbk,Zab (show ¬ ((bv 1000000000 l:Int)<0) by omega)];rfl
  | true =>
   rw [if_pos rfl,Zdr,Zbk,Bool.true_and]
   congr 3
   exact decide_eq_decide.2 (by omega)
 cases b with
 | false =>
  simp only [jH,zZ];exact key _ rfl
 | true =>
  simp only [yO];rw [dLen,di,zY];refine key _ ?_;rw [Bool.true_and];refine decide_eq_decide.2 ?_;rcases Zgs (bv 1000000000 l) with q | q
  .rw [q,gM];simp
  .have:=zex (n:=bv 1000000000 l) (by omega);omega
theorem zso {a b:List Nat} (ha:a.length<=1000000) (hb:b.length<=1000000):Pure Tryz.prog B 216 [vw a,vw b] (· = I (cmpW a b)):=by
 refine zT λh nx K H0 hK=>zM zQ yA 1000010 λhf' => ?_;have ret:∀ {h1 nx1 L} {z:Int},Hp h h1 nx1 L->z=cmpW a b->K (I z) h1 nx1=.ok True:=λH e=>hK _ _ _ _ _ H (zV rfl) (by rw [e]);rw [yc.go,yc.t38,zA,yc.zw,zA,zA,yc.zu,dLen,dLen,bq,zB,yc.v4];by_cases c:a.length=b.length
 case neg =>
  rw [Zab (by omega),Zan,zD,zA,zA,yc.jd,dLen,dLen,jk,zB,yc.v5];by_cases d:a.length<b.length
  .rw [Zac (by omega),zD,zA,yc.pu];simp only [zF,zN];rw [yc.ret];exact ret H0 (by rw [cmpW,if_pos c,if_pos d])
  .rw [Zab (by omega),zC,zE,zA,yc.fe];simp only [zF,zN];rw [yc.ret];exact ret H0 (by rw [cmpW,if_pos c,if_neg d])
 rw [Zac (by omega),Zap,zC,zE,zA,zA,yc.rF,dLen,dh (by omega),zI];refine yc.zmv (λm x3 h' nx'=>∃ k:Nat,x3=I ((k:Int)-1)/\m=k/\k<=a.length/\cmpT a b k=cmpT a b a.length/\Hp h h' nx' []) (m:=a.length) (by omega) ⟨a.length,rfl,rfl,by omega,rfl,H0⟩ ?_;rintro m z2 z3 z6 z7 z8 h3 nx3 R ⟨k,rfl,rfl,hk,hc,H3⟩ hR;rw [yc.t30,zA,zA,yc.nS,fC];cases m with
 | zero =>
  rw [Zab (by omega),zB,yc.v6,zC,zW,yD,zA,yc.eT];simp only [zF,zN];rw [yc.ret];exact ret H3 (by rw [cmpW,if_neg (λq=>q c),<- hc];rfl)
 | succ k =>
  have ea:=getD_some (l:=a) (k:=k) (by omega);have eb:=getD_some (l:=b) (k:=k) (by omega);rw [cmpT] at hc;rw [Zac (by omega),zB,yc.v6,zD,zE,zA,zI,zA,zA,yc.rG,dIx (i:=k) (by omega) (by omega),dLd ea,dIx (i:=k) (by omega) (by omega),dLd eb,jk,zB,yc.v7];by_cases e:a.getD k 0<b.getD k 0
  .rw [if_neg (by omega),if_pos e] at hc;rw [Zac (by omega),zD,zA,yc.tT];simp only [zF,dB,zN];rw [yc.ret];exact ret H3 (by rw [cmpW,if_neg (λq=>q c),<- hc])
  rw [Zab (by omega),zC,zE,zA,yc.oM,dIx (i:=k) (by omega) (by omega),dLd ea,dIx (i:=k) (by omega) (by omega),dLd eb,di,zB,yc.v8];by_cases d:a.getD k 0=b.getD k 0
  .rw [if_pos d] at hc;rw [Zab (by omega),zC,zE,yc.zfc,dh (by omega)];exact hR k _ _ _ _ _ _ _ (by omega) ⟨k,by congr 1;omega,rfl,by omega,hc,H3⟩
  .rw [if_neg d,if_neg e] at hc;rw [Zac (by omega),zD,zA,yc.rW];simp only [zF,dB,zN];rw [yc.ret];exact ret H3 (by rw [cmpW,if_neg (λq=>q c),<- hc])
theorem aQ.two {s w:AV} {z:Int} (h:aQ s w z):(s=I z/\w=.za /\ -9223372036854775808<=z/\z<=9223372036854775807/\∀ K:AV->OP,zb .eql (.nil .sl) w .za K=K (.bool true))\/(z≠0/\∀ K:AV->OP,zb .eql (.nil .sl) w .za K=K (.bool false)):=by
 rcases h with ⟨rfl,rfl,h1,h2⟩ | ⟨n,rfl,rfl,hs,hb⟩
 .exact .inl ⟨rfl,rfl,h1,h2,λ_=>zwo⟩
 .exact .inr ⟨by omega,λ_=>zwp (zz1 (by omega))⟩
theorem zha {a b:Int} {K:AV->OP} (ha : -9223372036854775808<=a/\a<=9223372036854775807) (hb:1<=b):zb .quo .int (I a) (I b) K=K (I (a.tdiv b)):=by
 have e:zb .quo .int (I a) (I b) K=(bif ieq b 0 then Out.no 5 else qi (IntKind.i64.wrap (a.tdiv b)) λz=>K (.int .i64 z)):=rfl;have h0:ieq b 0=false:=by rw [wT];exact Zab (by omega)
 rw [e,h0,cond_false,jM,Go.IntWalk.i64_quo' a b ⟨ha.1,ha.2,hb⟩]
theorem zhb {a b:Int} {K:AV->OP} (hb:1<=b):zb .rem .int (I a) (I b) K=K (I (a.tmod b)):=by
 have e:zb .rem .int (I a) (I b) K=(bif ieq b 0 then Out.no 5 else qi (a.tmod b) λz=>K (.int .i64 z)):=rfl;have h0:ieq b 0=false:=by rw [wT];exact Zab (by omega)
 rw [e,h0,cond_false,jM]
theorem Hp.aB {h0 h:T Blk} {nx:Pa} {L:List Ob} {o:Option Pa} {n bytes:Nat} {l:List AV} {z v:AV} {K:Kw Prop} (H:Hp h0 h nx (.gro o 1 n l::L)) (hn:n+1<=1000000) (hb:bytes*1000000<=70368744177664) (hv:v.cells=some [v]) (hs:uo v=true)
  (hK:∀ o' h' nx',Hp h0 h' nx' (.gro o' 1 (n+1) (l++[v])::L)->K (cu o' 1 (n+1)) h' nx'=.ok True) :
  (yV 1 1 [z] [(0,1,v)] h nx λv2 h3 n4=>rJ 1 bytes (cu o 1 n) v2 h3 n4 K)=.ok True:=by
 have fill:gE (fB 1 [z]) [(0,1,v)]=some [v]:=by simp only [gE,hv];rfl
 refine H.dz (l:=[v]) fill λid h1 n1 H1 => ?_;refine H1.appN (k:=1) (new:=[v]) (c:=1) rfl ((H1.own _ (Zaj ..)).rd (n:=1) (e:=1) rfl) rfl (by simp [hs]) (by omega) hb hn λo' h2 n2 _ H2 => ?_;exact hK o' h2 n2 (Hp.drop H2)
theorem Hp.zkv {h0 h:T Blk} {nx:Pa} {L:List Ob} {o:Option Pa} {n:Nat} {Z:List Nat} (H:Hp h0 h nx (.gro o 1 n (Z.map D)::L)) (hn:Z.length=n):∃ h',uU h' h/\Hp h0 h' nx L/\sH h' h (cu o 1 n) (vw Z):=by
 obtain ⟨h',a,b,c⟩:=H.zv5 (zqk Z);exact ⟨h',a,b,by rw [vw,hn];exact c⟩
theorem sMkD {n:Nat} {x:Int} {h0 h:T Blk} {nx:Pa} {L:List Ob} {K:Kw Prop} (H:Hp h0 h nx L) (hx:x=(n:Int)) (hn:n<=1000000)
  (hK:∀ id h' nx',Hp h0 h' nx' (.arr id ((List.replicate n 0).map D)::L)->K (.sl id 0 n (some n) 1) h' nx'=.ok True):qQ 1 8 [(I 0)] (I x) (I x) h nx K=.ok True :=
 H.mk1 n hx hx hn (by omega) λid h' nx' H'=>hK id h' nx' (by rw [List.map_replicate];exact H')
theorem zhc {l:List Nat} {d:Nat} (hd:1<=d) (hdN:d<1000000000) (hl:Dg 1000000000 l) (hs:l.length<=100000):Pure Tryz.prog B 268 [vw l,D d] (· = .tup [vw (dg 1000000000 (bv 1000000000 l / d)),D (bv 1000000000 l%d)]):=by
 refine zT λh nx K H0 hK=>zM zQ yA 1000010 λhf => ?_;rw [jc.go,jc.t24,zA,jc.zw,zA,jc.zu,dLen];refine sMkD (n:=l.length) H0 rfl (by omega) λid h1 nx1 H1 => ?_;rw [zA,jc.jd,zA,zA,jc.pu,dLen,dh (by omega),zI];refine jc.zcn (λm x5 x6 h' nx'=>∃ (r:Nat) (Q:List Nat),x5=D r/\x6=I ((m:Int)-1)/\m<=l.length/\Q.length=l.length-m/\Dg 1000000000 Q/\r<d/\bv 1000000000 (l.drop m)=bv 1000000000 Q*d+r/\Hp h h' nx' [.arr id ((List.replicate m 0++Q).map D)]) (m:=l.length) (by omega) ⟨0,[],rfl,rfl,by omega,by simp,λ_ h=>by simp at h,by omega,by simp [bv],by simpa using H1⟩ ?_;rintro m z5 z6 z7 z8 h3 nx3 R ⟨r,Q,rfl,rfl,hm,hQ,hdQ,hr,hv,H3⟩ hR;rw [jc.t15,zA,zA,jc.fG,fC];cases m with
 | zero =>
  rw [Zab (by omega),zB,jc.v8,zC,zW,yD,zA,jc.rH];simp only [List.replicate_zero,Zbl] at H3;obtain ⟨h5,hkp,H5,hF⟩:=H3.letD (n:=l.length) (by omega);refine pR hkp (.cons hF .nil) ?_;refine zew hdQ (by omega) _ _ _ _ ?_;rintro _ rfl _;simp only [zF,zN];rw [jc.ret];refine hK _ _ _ _ _ H5 (gD (zV (kM _)) (zV rfl)) ?_;rw [Zcs] at hv;obtain ⟨a1,a2⟩:=zwh hv hr;rw [a1,a2]
 | succ k =>
  have ea:=getD_some (l:=l) (k:=k) (by omega);have haW:=mF (k:=k) (by decide) hl;have e0:l.drop k=l.getD k 0::l.drop (k+1):=by
   have ea:=ea;rw [List.getElem?_eq_getElem (by omega)] at ea;rw [Zbg (by omega),Option.some.inj ea]
  generalize hX:l.getD k 0=x at *
  have hdm:r*1000000000+x=(r*1000000000+x) / d*d+(r*1000000000+x)%d:=by
   rw [Zbu _ d];exact (Nat.div_add_mod _ _).symm
  have hqW:(r*1000000000+x) / d<1000000000:=by
   rw [Zgb (by omega)];have:(r+1)*1000000000<=d*1000000000:=Zbc _ hr;omega
  have hrd:(r*1000000000+x)%d<d:=Zdk _ (by omega);have eq1:((r:Int)*1000000000+(x:Int)).tdiv (d:Int)=(((r*1000000000+x) / d:Nat):Int):=by rw [Int.tdiv_eq_ediv_of_nonneg (by omega)];simp
  have eq2:((r:Int)*1000000000+(x:Int)).tmod (d:Int)=(((r*1000000000+x)%d:Nat):Int):=by rw [Zez (by omega)];simp
  rw [Zac (by omega),zB,jc.v8,zD,zE,zA,zI,zA,jc.fe,nk (by omega),dIx (i:=k) (by omega) (by omega),dLd ea,ug (by omega),zA,jc.fE];rw [zha (by omega) (by omega),eq1,sIx (i:=k) (by omega) (by omega)];rw [zqi] at H3;refine H3.store (k:=0) rfl (by simp) rfl λh4 H4 => ?_;rw [jc.nP,zhb (by omega),eq2]
  generalize hQ':(r*1000000000+x) / d=q at *
  simp only [Zfj] at H4;rw [Zaz,Zey,dH (by simp)] at H4;rw [jc.nS,dh (by omega)];refine hR k _ _ _ _ _ _ (by omega) ⟨_,q::Q,rfl,by congr 1;omega,by omega,by simp;omega,?_,hrd,?_,by simpa using H4⟩
  .exact (Dg.one hqW).append hdQ
  .rw [e0,bv,bv];exact zqh hv hdm
theorem Hp.appE {h0 h:T Blk} {nx e:Pa} {L:List Ob} {K:Kw Prop} {w:AV} {new:List AV} {c bytes:Nat} (H:Hp h0 h nx (.arr e []::L)) (hr:∀ (no:OP) (K':List AV->Nat->OP),wQ w h no K'=K' new c) (hl:new.length=c) (hs:new.all uo=true) (hb:bytes*1000000<=70368744177664) (hc1:1<=c) (hc:c<=1000000)
  (hK:∀ id h' nx',Hp h0 h' nx' (.gro (some id) 1 c new::L)->K (.sl id 0 c none 1) h' nx'=.ok True) :
  rJ 1 bytes (.sl e 0 0 (some 0) 1) w h nx K=.ok True:=by
 unfold rJ appA;rw [hr];have hcc:(Nat.ble (bytes*1000000) 70368744177664&&Nat.beq new.length (c*1)&&Nat.ble 1 1&&new.all uo)=true:=by
  simp only [Zal,hs,and_true];exact ⟨⟨Zag hb,by rw [hl,Zby];exact Zbv _⟩,rfl⟩
 rw [hcc,cond_true];obtain ⟨op,t,g1,g2⟩:um h e []:=H.own _ (Zaj ..);show (bif Nat.beq 1 1&&Nat.ble (0+c) 1000000 then uy (T.get .no e h) _ (.no 35) else .no 36)=_;rw [g1,Zag (by omega)];show (bif Nat.ble (0+c) 0 then (bif Nat.ble (0+(0+c)*1) 0 then q9 e 0 0 (some 0) 1 op 0 t new c h nx _ else .no 32) else q8 0 0 1 t new c h nx _)=_;rw [bleF (by omega),cond_false];unfold q8;rw [yL,yK,Zbe,show yQ t 0 (0*1)++new=new from rfl];refine hK nx _ _ (Hp.new (x:=.gro (some nx) 1 c new) H.drop rfl λh' q => ?_);refine ⟨_,by rw [q,hl,Zby],by rw [hl,Zby],?_⟩;have:=qM new;rw [hl] at this;rw [Zby];exact this
theorem Hp.af {h0 h:T Blk} {nx id:Pa} {L:List Ob} {n:Nat} {l:List AV} (H:Hp h0 h nx (.gro (some id) 1 n l::L)):Hp h0 h nx (.arr id l::L):=by
 obtain ⟨t,h1,h2,h3⟩:=H.own _ (Zaj ..);rw [Zby] at h1 h2 h3;refine ⟨H.keep,λx hx => ?_,λn hn=>H.off n (by simpa [Ob.names] using hn),by have:=H.nd;simpa [Ob.names] using this,H.fr⟩;rcases List.mem_cons.1 hx with rfl | q
 .exact ⟨true,t,by rw [h1,h2],by rw [h2];exact h3⟩
 .exact H.own x (Zam _ q)
theorem Hp.zws {h0 h:T Blk} {nx:Pa} {L:List Ob} {id:Pa} {n bytes:Nat} {l:List AV} {z v:AV} {K:Kw Prop} (H:Hp h0 h nx (.gro (some id) 1 n l::L)) (hn:n+1<=1000000) (hb:bytes*1000000<=70368744177664) (hv:v.cells=some [v]) (hs:uo v=true)
  (hK:∀ id' h' nx',Hp h0 h' nx' (.gro (some id') 1 (n+1) (l++[v])::L)->K (.sl id' 0 (n+1) none 1) h' nx'=.ok True) :
  (yV 1 1 [z] [(0,1,v)] h nx λv2 h3 n4=>rJ 1 bytes (.sl id 0 n none 1) v2 h3 n4 K)=.ok True:=by
 have fill:gE (fB 1 [z]) [(0,1,v)]=some [v]:=by simp only [gE,hv];rfl
 refine H.dz (l:=[v]) fill λid1 h1 n1 H1 => ?_;refine H1.appN (k:=1) (o:=some id) (new:=[v]) (c:=1) rfl ((H1.own _ (Zaj ..)).rd (n:=1) (e:=1) rfl) rfl (by simp [hs]) (by omega) hb hn λo' h2 n2 ho H2 => ?_;cases o' with
 | none=>exact absurd rfl (ho (.inr (by omega)))
 | some id'=>exact hK id' h2 n2 (Hp.drop H2)
theorem zz2 {id:Pa} {n i:Nat} {op:AV->OP} (hi:i<=n):qP 1 (.sl id 0 n none 1) none (some (I (i:Int))) none op=op (.sl id 0 i none 1):=by
 have e:qP 1 (.sl id 0 n none 1) none (some (I (i:Int))) none op=(match bnd (some (I (i:Int))) n n with
  | none=>Out.no 17
  | some h=>op (.sl id 0 h none 1)):=rfl
 rw [e,kF hi]
def S9 (n:Nat):Prop:=(dg 1000000000 n).length<=99990
theorem zb4 {b d:Nat} (hb:2<=b) (h:(dg b d).length=1):dg b d=[d]/\d<b:=by
 have od:=qB hb d;have e1:dg b d=[d]:=by
  cases hdd:dg b d with
  | nil=>rw [hdd] at h;cases h
  | cons x l =>
   rw [hdd] at h;have:l=[]:=by cases l with
    | nil=>rfl
    | cons y l=>simp at h
   subst this;have:=od.1;rw [hdd] at this;simp [bv] at this;rw [this]
 exact ⟨e1,od.2.1 d (by rw [e1];simp)⟩
theorem bH {a d:Nat} (hd:1<=d) (hdN:d<1000000000) (ha:S9 a) (hds:S9 d):Pure Tryz.prog B 213 [vw (dg 1000000000 a),vw (dg 1000000000 d)] (· = .tup [vw (dg 1000000000 (a / d)),vw (dg 1000000000 (a%d))]):=by
 refine zT λh nx K H0 hK=>zM zQ yA 1000010 λhf => ?_;have oa:=qB (b:=1000000000) (by decide) a;have od:=qB (b:=1000000000) (by decide) d;unfold S9 at ha hds;rw [kg.go,kg.t109,zA,kg.zw,zA,zA,kg.zu];refine zso (by omega) (by omega) _ _ _ _ ?_;rintro _ rfl _;rw [zsi (by decide),jk,zB,kg.v21];by_cases c:a<d
 .rw [Zac (by rw [cmpN,if_pos c];decide),zD,zA,kg.jd];simp only [zF,zN];rw [kg.ret];refine hK _ _ _ _ _ H0 (gD (.og 1) (zV (kM _))) ?_;rw [Zes c,Zch c,gM];rfl
 rw [Zab (by rw [cmpN,if_neg c];split <;> decide),zC,zE,zA,zA,kg.ku,dLen,wm,zB,kg.v22];have hla:(dg 1000000000 d).length<=(dg 1000000000 a).length:=by
  rcases Zcz (dg 1000000000 a).length (dg 1000000000 d).length with q | q
  .have:=wM (b:=1000000000) (by decide) q;omega
  .exact q
 have hld1:1<=(dg 1000000000 d).length:=zex (by omega);by_cases c1:(dg 1000000000 d).length=1
 .obtain ⟨e1,hdW⟩:=zb4 (b:=1000000000) (by decide) c1;rw [Zac (by omega),zD,e1,zA,kg.fe,dIx (l:=[d]) (i:=0) (j:=0) rfl (by simp),dLd (x:=d) rfl];refine zhc hd hdW oa.2.1 (by omega) _ _ _ _ ?_;rintro _ rfl _;rw [jD,jC,oa.1,zA,kg.fE];have hml:=Zdk a (show 0<d by omega);refine H0.dz (l:=[D (a%d)]) rfl λtb h1 nx1 H1 => ?_;obtain ⟨h2,hkp,H2,hF⟩:=H1.letD (l:=[a%d]) (n:=1) rfl;refine pR hkp (.cons hF .nil) ?_;refine zew (Dg.one (by omega)) (by simp) _ _ _ _ ?_;rintro _ rfl _;simp only [zF,zN];rw [kg.ret];exact hK _ _ _ _ _ H2 (gD (zV (kM _)) (zV (kM _))) (by simp [bv])
 exact absurd (by rw [kN (by decide) (by omega),Zes hdN,gM];rfl) c1
def Z9 (k:Nat) (z:Int):Prop:=z.natAbs<1000000000 ^ k
theorem Z9.len {k:Nat} {z:Int} (h:Z9 k z):(dg 1000000000 z.natAbs).length<=k:=kO (by decide) h
theorem Z9.mono {k m:Nat} {z:Int} (h:Z9 k z) (hkm:k<=m):Z9 m z:=Zcm h (Zcy (by decide) hkm)
theorem Z9.mul {k m:Nat} {a b:Int} (ha:Z9 k a) (hb:Z9 m b):Z9 (k+m) (a*b):=by
 unfold Z9 at *
 rw [Zcc,Zek];exact Zdt ha hb
theorem Z9.add {k:Nat} {a b:Int} (ha:Z9 k a) (hb:Z9 k b):Z9 (k+1) (a+b):=by
 unfold Z9 at *
 have h1:=Zdy a b;have h2:1000000000 ^ (k+1)=1000000000 ^ k*1000000000:=Zde ..;omega
theorem pK {b x y:Nat} (hb:2<=b) (h:x<=y):(dg b x).length<=(dg b y).length:=by
 rcases Zcz (dg b y).length (dg b x).length with q | q
 .have:=wM (b:=b) hb q;omega
 .exact q
theorem xW (z:Int):eP z=.agg [.bool (decide (z<0)),vw (dg 1000000000 z.natAbs)]:=rfl
theorem zhd {a:Int} {k:Nat} (hk:k<=90000) (ha:Z9 k a):Pure Tryz.prog B 212 [eP a] (· = eP (-a)):=by
 have oa:=qB (b:=1000000000) (by decide) a.natAbs;have la:=ha.len;rw [xW];refine zT λh nx K H0 hK=>zM zQ yA 100 λhf => ?_;rw [fP.go,fP.t3,zA,fP.zw];refine H0.box (l:=[.bool (decide (a<0)),vw (dg 1000000000 a.natAbs)]) rfl λpa h1 nx1 H1 => ?_;refine H1.alloc λp h3 nx3 H3 => ?_;rw [zA,fP.zu,sFx,H3.load (k:=1) (i:=0+0) rfl rfl,jF,sFx,H3.load (k:=1) (i:=0+1) rfl rfl];refine xA oa.2.1 (by omega) _ _ _ _ ?_;rintro _ rfl _;have e:(if !decide (a<0) then -(bv 1000000000 (dg 1000000000 a.natAbs):Int) else (bv 1000000000 (dg 1000000000 a.natAbs):Int)) = -a:=by
  rw [oa.1];by_cases d:a<0
  .rw [Zac d,if_neg (by decide)];omega
  .rw [Zab d,if_pos (by decide)];omega
 rw [e];refine H3.jb (l2:=[.bool (decide (-a<0)),vw (dg 1000000000 (-a).natAbs)]) (k:=0) rfl rfl rfl λh4 H4 => ?_;simp only [zF,zN];rw [fP.ret,H4.zm (k:=0) (n:=2) rfl rfl];exact hK _ _ _ _ _ H4 dAgg rfl
theorem zmi {a b:Nat} (hbN:b<1000000000) (ha:S9 a) (hb:S9 b):Pure Tryz.prog B 208 [vw (dg 1000000000 a),vw (dg 1000000000 b)] (· = vw (dg 1000000000 (Nat.gcd a b))):=by
 refine zT λh nx K H0 hK=>zM zQ yA (b+100) λhf => ?_;rw [uj.go,uj.t14,zA,uj.zw,zA,zI];refine uj.t9_L (λm x0 x1 h' nx'=>∃ x y:Nat,x0=vw (dg 1000000000 x)/\x1=vw (dg 1000000000 y)/\m=y/\y<1000000000/\S9 x/\S9 y/\Nat.gcd x y=Nat.gcd a b/\h'=h/\nx'=nx) (m:=b) (by omega) ⟨a,b,rfl,rfl,rfl,hbN,ha,hb,rfl,rfl,rfl⟩ ?_;rintro m z0 z1 z3 z4 h3 nx3 R ⟨x,y,rfl,rfl,rfl,hmN,hx,hy,hg,rfl,rfl⟩ hR;rw [uj.t8,zA,zA,uj.zu,dLen,di];by_cases c:m=0
 .subst c;rw [Zgr] at hg;rw [gM,Zab (by simp),zB,uj.v4,zC,zW,yD,zA,uj.dx];simp only [zF,zN];rw [uj.ret,hg];exact hK _ _ _ _ _ H0 (zV (kM _)) rfl
 .have hl:=zex c;rw [Zac (by omega),zB,uj.v4,zD,zE,zI,zA,uj.fG];refine bH (by omega) hmN hx hy _ _ _ _ ?_;rintro _ rfl _;have hlt:=Zdk x (show 0<m by omega);rw [jD,jC,uj.ny];refine hR (x%m) _ _ _ _ _ _ hlt ⟨m,x%m,rfl,rfl,rfl,by omega,hy,Zax (pK (by decide) (by omega)) hy,?_,rfl,rfl⟩;rw [<- hg,Zfh x m,Nat.gcd_rec m x,Zfh]
theorem zwt {a b:Nat} (ha:a<=9223372036854775807) (hb:b<=9223372036854775807):Pure Tryz.prog B 210 [I (a:Int),I (b:Int)] (· = I ((Nat.gcd a b:Nat):Int)):=by
 refine zT λh nx K H0 hK=>zM zQ yA (b+100) λhf => ?_;rw [qc.go,qc.t12,zA,qc.zw,zA,zI];refine qc.t7_L (λm x0 x1 h' nx'=>∃ x y:Nat,x0=I (x:Int)/\x1=I (y:Int)/\m=y/\y<=9223372036854775807/\Nat.gcd x y=Nat.gcd a b/\h'=h/\nx'=nx) (m:=b) (by omega) ⟨a,b,rfl,rfl,rfl,hb,rfl,rfl,rfl⟩ ?_;rintro m z0 z1 z3 h3 nx3 R ⟨x,y,rfl,rfl,rfl,hy,hg,rfl,rfl⟩ hR;rw [qc.t6,zA,zA,qc.zu,di];by_cases c:m=0
 .subst c;rw [Zgr] at hg;rw [Zab (by omega),zB,qc.v3,zC,zW,yD,zA,qc.nP];simp only [zF,zN];rw [qc.ret,hg];exact hK _ _ _ _ _ H0 (zV rfl) rfl
 .have hlt:=Zdk x (show 0<m by omega);rw [Zac (by omega),zB,qc.v3,zD,zE,zI,qc.fG,zhb (by omega),show (x:Int).tmod (m:Int)=((x%m:Nat):Int) by rw [Zez (by omega)];simp];refine hR (x%m) _ _ _ _ _ hlt ⟨m,x%m,rfl,rfl,rfl,by omega,?_,rfl,rfl⟩;rw [<- hg,Zfh x m,Nat.gcd_rec m x,Zfh]
theorem zql {z:Int} (hz : -9223372036854775808<=z/\z<=9223372036854775807):Pure Tryz.prog B 134 [I z] (· = eP z):=by
 refine zT λh nx K H0 hK=>zM zQ yA 9223372036854775900 λhf => ?_;have hN:9223372036854775808<9223372036854775900:=by decide
 generalize 9223372036854775900=N at hN ⊢
 rw [yt.go,yt.t25,zA,yt.zw];refine H0.alloc λp h1 nx1 H1 => ?_;rw [zA,yt.zu,zA,yt.jd,jk,zA,zI];refine yt.zxm (λm x0 x2 h' nx'=>∃ (y:Int) (i:Nat) (Z:List Nat) (o:Option Pa),x0=I y/\x2=cu o 1 i/\m=y.natAbs/\m<=9223372036854775808 /\ -9223372036854775808<=y/\y<=9223372036854775807/\Z.length=i/\Dg 1000000000 Z/\bv 1000000000 Z+1000000000 ^ i*m=z.natAbs/\i<=3/\m*1000000000 ^ i<=9223372036854775808/\Hp h h' nx' [.gro o 1 i (Z.map D),.arr p [.bool false,.za]]) (m:=z.natAbs) (by omega) ⟨z,0,[],none,rfl,rfl,rfl,by omega,hz.1,hz.2,rfl,λ_ h=>by simp at h,by simp [bv],by omega,by simp;omega,H1.sw 1⟩ ?_;rintro m z0 z2 z4 z5 z6 h3 nx3 R ⟨y,i,Z,o,rfl,rfl,rfl,hm,hy1,hy2,hZ,hd,hs,hi3,hb,H3⟩ hR;rw [yt.t17,zA,zA,yt.pu,bq];by_cases c:y=0
 .subst c;simp only [Int.natAbs_zero,Nat.mul_zero,Zel] at hs;rw [Zac rfl,Zap,zB,yt.v5,zC,zW,yD,yt.t21,zA,yt.sQ];obtain ⟨h5,hkp,H5,hF⟩:=H3.zkv hZ;refine pR hkp (.cons (.bool _) (.cons hF .nil)) ?_;refine xA hd (by omega) _ _ _ _ ?_;rintro _ rfl _;have e:(if decide (z<0) then -(bv 1000000000 Z:Int) else (bv 1000000000 Z:Int))=z:=by
   rw [hs];by_cases d:z<0
   .rw [Zac d,if_pos rfl];omega
   .rw [Zab d,if_neg (by decide)];omega
  rw [e];refine H5.jb (l2:=[.bool (decide (z<0)),vw (dg 1000000000 z.natAbs)]) (k:=0) rfl rfl rfl λh4 H4 => ?_;simp only [zF,zN];rw [yt.ret,H4.zm (k:=0) (n:=2) rfl rfl];exact hK _ _ _ _ _ H4 dAgg rfl
 .have i2:i<=2:=by
   rcases Zcz 2 i with q | q
   .exfalso
    have e:i=3:=by omega
    subst e;have:1*1000000000 ^ 3<=y.natAbs*1000000000 ^ 3:=Zbc _ (by omega);omega
   .exact q
  have et:(y.tmod 1000000000).natAbs=y.natAbs%1000000000:=by rw [Int.natAbs_tmod];rfl
  have eq:(y.tdiv 1000000000).natAbs=y.natAbs / 1000000000:=by rw [Int.natAbs_tdiv];rfl
  have hml:=Zdk y.natAbs (show 0<1000000000 by decide);have hdv:y.natAbs / 1000000000<y.natAbs:=Nat.div_lt_self (by omega) (by decide);have hmd:=Nat.mod_add_div y.natAbs 1000000000;have fin:∀ (z5 z6:AV) (w:Int),w=((y.natAbs%1000000000:Nat):Int)->yt.t13.run (CS Tryz.prog B) N (((fnO yt.res K).blk 0 (yt.t21.run (CS Tryz.prog B) N (fnO yt.res K) (zi yt.res K))).blk 1 R) R (yt.fr (I y) (.ptr p 0) (cu o 1 i) (.bool (decide (z<0))) (I w) z5 z6) h3 nx3=.ok True:=by
   rintro z5 z6 _ rfl;rw [yt.t13,zA,yt.dx];refine H3.aB (v:=D (y.natAbs%1000000000)) (by omega) (by decide) rfl rfl λo' h4 n4 H4 => ?_;rw [yt.rF,zha ⟨hy1,hy2⟩ (by omega)];refine hR _ _ _ _ _ _ _ _ (by rw [eq];exact hdv) ⟨y.tdiv 1000000000,i+1,Z++[y.natAbs%1000000000],o',rfl,rfl,rfl,by omega,by omega,by omega,by simp [hZ],hd.append (Dg.one hml),?_,by omega,?_,by rw [Zaz];exact H4⟩
   .rw [eq,cE,hZ,Zde,Zcq,Zec,<- Zei,hmd];exact hs
   .rw [eq,Zde,Zbu (1000000000 ^ i),<- Zec];exact Zax (Zbc _ (by omega)) hb
  rw [Zab c,Zan,zB,yt.v5,zD,zE,zI,zA,yt.ku,zhb (by omega),zA,zA,yt.fe,jk,zB,yt.v6];by_cases d:y.tmod 1000000000<0
  .rw [Zac d,zD,yt.fE,dh (by omega)];exact fin _ _ _ (by omega)
  .rw [Zab d,zC,zE];exact fin _ _ _ (by omega)
theorem ah (s:List UInt8) {K:AV->OP}:kV (.str s) K=K (I s.length):=by
 show (qz s.length λn=>K (.int .i64 (.ofNat n)))=_;rw [yK];rfl
theorem tCat {a b:List UInt8} {K:AV->OP} (h:a.length+b.length<=1000000):zb .add .str (.str a) (.str b) K=K (.str (a++b)):=by
 show (bif Nat.ble (a.length+b.length) 1000000 then K (.str (a++b)) else .no 5)=_;rw [Zag h];rfl
theorem tSub {s:List UInt8} {a b:Nat} {x y:Int} {K:AV->OP} (hx:x=(a:Int)) (hy:y=(b:Int)) (hab:a<=b) (hb:b<=s.length):gJ (.str s) (some (I x)) (some (I y)) K=K (.str ((s.drop a).take (b-a))):=by
 subst hx;subst hy
 show (match bnd (some (I (b:Int))) s.length s.length with
   | none=>Out.no 18
   | some h=>match bnd (some (I (a:Int))) h 0 with
    | none=>.no 18
    | some l=>K (.str ((s.drop l).take (h-l))))=_
 rw [kF hb]
 dsimp only
 rw [kF hab]
theorem zb5 {s:List UInt8} {a:Nat} {x:Int} {K:AV->OP} (hx:x=(a:Int)) (ha:a<=s.length):gJ (.str s) (some (I x)) none K=K (.str (s.drop a)):=by
 subst hx
 show (match bnd (some (I (a:Int))) s.length 0 with
    | none=>Out.no 18
    | some l=>K (.str ((s.drop l).take (s.length-l))))=_
 rw [kF ha]
 dsimp only
 rw [Zaq (by rw [Zcd];omega)]
theorem tTo {s:List UInt8} {b:Nat} {y:Int} {K:AV->OP} (hy:y=(b:Int)) (hb:b<=s.length):gJ (.str s) none (some (I y)) K=K (.str (s.take b)):=by
 subst hy
 show (match bnd (some (I (b:Int))) s.length s.length with
   | none=>Out.no 18
   | some h=>K (.str ((s.drop 0).take (h-0))))=_
 rw [kF hb];rfl
def dch (x:Nat):UInt8:=UInt8.ofNat (48+x)
def nW (n w:Nat):List Nat:=dg 10 n++List.replicate (w-(dg 10 n).length) 0
def qx (n w:Nat):List UInt8:=(nW n w).reverse.map dch
theorem zsp:∀ n<10,(([48,49,50,51,52,53,54,55,56,57]:List UInt8).drop n).take 1=[dch n]:=by decide +kernel
theorem zdj {y w:Nat} (h:0<y\/0<w):nW y w=y%10::nW (y / 10) (w-1):=by
 unfold nW;rcases Zgs y with e | e
 .subst e;obtain ⟨v,rfl⟩:∃ v,w=v+1:=⟨w-1,by omega⟩;rw [Nat.zero_div,gM]
  rfl
 .rw [kN (by decide) (by omega),Zca,Zbb,show w-((dg 10 (y / 10)).length+1)=w-1-(dg 10 (y / 10)).length by omega]
theorem zdk:nW 0 0=[]:=by unfold nW;rw [gM];rfl
theorem zhe {n w:Nat} (hn:n<10 ^ 19) (hw:w<=19):(nW n w).length<=19:=by
 have:=kO (b:=10) (by decide) hn;unfold nW;rw [Zae,Zau];omega
theorem vA {n w:Nat} (hn:n<=9223372036854775807) (hw:w<=19):Pure Tryz.prog B 211 [I (n:Int),I (w:Int)] (· = .str (qx n w)):=by
 refine zT λh nx K H0 hK=>zM zQ yA (n+w+10) λhf => ?_;rw [ja.go,ja.t16,zA,ja.zw,zA,ja.zu,zA,zI];refine ja.zmu (λm x0 x3 h' nx'=>∃ (y:Nat) (A:List Nat),x0=I (y:Int)/\x3=.str (A.reverse.map dch)/\m=y+(w-A.length)/\y<=9223372036854775807/\nW n w=A++nW y (w-A.length)/\h'=h/\nx'=nx) (m:=n+w) (by omega) ⟨n,[],rfl,rfl,rfl,hn,rfl,rfl,rfl⟩ ?_;rintro m z0 z3 z4 h3 nx3 R ⟨y,A,rfl,rfl,hm,hy,he,rfl,rfl⟩ hR;have hlen:=zhe (n:=n) (w:=w) (by omega) hw;have hAl:A.length<=19:=by
  have:=congrArg List.length he;rw [Zae] at this;omega
 have go:0<y\/0<w-A.length->ja.t3.run (CS Tryz.prog B) (n+w+10) ((fnO ja.res K).blk 0 (ja.t13.run (CS Tryz.prog B) (n+w+10) (fnO ja.res K) (zi ja.res K))) (ja.t8.run (CS Tryz.prog B) (n+w+10) ((fnO ja.res K).blk 0 (ja.t13.run (CS Tryz.prog B) (n+w+10) (fnO ja.res K) (zi ja.res K))) R) (ja.fr (I (y:Int)) (I (w:Int)) (.str []) (.str (A.reverse.map dch)) (.bool true)) h3 nx3=.ok True:=by
  intro hp;have hst:=zdj hp;rw [hst] at he;have e1:(y:Int).tmod 10=((y%10:Nat):Int):=by rw [Zez (by omega)];omega
  have e2:(y:Int).tdiv 10=((y / 10:Nat):Int):=by rw [Int.tdiv_eq_ediv_of_nonneg (by omega)];omega
  have hA1:A.length<=18:=by
   have:=congrArg List.length he;rw [Zae,Zbb] at this;omega
  rw [ja.t3,zB,ja.v4,zD,zE,ja.t8,zI,zA,ja.ny,zhb (by omega),e1,zhb (by omega),e1,ug (by omega),tSub (a:=y%10) (b:=y%10+1) rfl (by omega) (by omega) (by simp;omega),Zbz,zsp _ (Zdk _ (by decide)),tCat (by simp;omega),ja.ku,zha (by omega) (by omega),e2];refine hR (y / 10+(w-(A.length+1))) _ _ _ _ _ (by omega) ⟨y / 10,A++[y%10],rfl,by simp,by rw [Zae];rfl,by omega,by rw [he,Zbo];simp [Nat.sub_sub],rfl,rfl⟩
 rw [ja.t9,zA,zA,ja.jd,ja.r2_0,ja.zu8,di];by_cases c:0<y
 .rw [Zac (by omega)];simp only [j5,zgl,zY];exact go (.inl c)
 rw [Zab (by omega)];simp only [jB];rw [ah,jk];simp only [zZ];by_cases d:A.length<w
 .rw [Zac (by simp;omega)];exact go (.inr (by omega))
 obtain rfl:y=0:=by omega
 rw [show w-A.length=0 by omega,zdk,Zbh] at he;rw [Zab (by simp;omega),ja.t3,zB,ja.v4,zC,zW,yD,ja.t13,zA,ja.rF];simp only [zF,zN];rw [ja.ret];exact hK _ _ _ _ _ H0 (zV rfl) (by rw [qx,he])
theorem zhf (b:Nat):∀ k,bv b (List.replicate k 0)=0
 | 0=>rfl
 | k+1=>by rw [Zgl,bv,zhf b k];simp
theorem mA (n w:Nat):bv 10 (nW n w)=n:=by
 unfold nW;rw [qJ,(qB (b:=10) (by decide) n).1,zhf,Nat.mul_zero,Zel]
theorem xY (n w:Nat):Dg 10 (nW n w):=(qB (b:=10) (by decide) n).2.1.append (Dg.rep (by decide))
theorem bP {n w:Nat} (h:n<10 ^ w):(nW n w).length=w:=by
 have:=kO (b:=10) (by decide) h;unfold nW;rw [Zae,Zau];omega
theorem p9 {n:Nat} (h:n≠0):nW n 1=dg 10 n:=by
 have e:1<=(dg 10 n).length:=by rw [kN (by decide) h];simp
 unfold nW;rw [show 1-(dg 10 n).length=0 by omega];simp
theorem zmj {x V:Nat} (hx:x<1000000000) (hV:V≠0):dg 10 (x+1000000000*V)=nW x 9++dg 10 V:=by
 have oV:=qB (b:=10) (by decide) V;have e:bv 10 (nW x 9++dg 10 V)=x+1000000000*V:=by
  rw [qJ,mA,bP (by omega),oV.1]
 rw [<- e];refine (bI (by decide) ((xY x 9).append oV.2.1) ?_).symm;have hn:dg 10 V≠[]:=by rw [kN (by decide) hV];simp
 have:=oV.2.2;unfold Nm at *
 rw [List.getLast?_append];cases hl:(dg 10 V).getLast? with
 | none=>exact absurd (List.getLast?_eq_none_iff.1 hl) hn
 | some y=>rw [hl] at this;exact this
theorem zmk {x V:Nat} (hx:x<1000000000) (hV:V≠0):qx (x+1000000000*V) 1=qx V 1++qx x 9:=by
 have hs:x+1000000000*V≠0:=by omega
 unfold qx;rw [p9 hs,p9 hV,zmj hx hV];simp
def mg (z:Int):List UInt8:=(if z<0 then [45] else [])++qx z.natAbs 1
theorem vY {n k:Nat} (h:n<1000000000 ^ k):(qx n 1).length<=9*k+1:=by
 have e:1000000000 ^ k=10 ^ (9*k):=by rw [Nat.pow_mul]
 have:=kO (b:=10) (n:=9*k) (by decide) (by rw [<- e];exact h);unfold qx nW;simp;omega
theorem bJ:qx 0 1=[48]:=by unfold qx nW;rw [gM];rfl
theorem zkw {z:Int} {k:Nat} (hk:k<=90000) (hz:Z9 k z):Pure Tryz.prog B 133 [eP z] (· = .str (mg z)):=by
 have oz:=qB (b:=1000000000) (by decide) z.natAbs;have lz:=hz.len;rw [xW];refine zT λh nx K H0 hK=>zM zQ yA 1000010 λhf => ?_;rw [yu.go,yu.t30,zA,yu.zw];refine H0.box (l:=[.bool (decide (z<0)),vw (dg 1000000000 z.natAbs)]) rfl λpa h1 nx1 H1 => ?_;rw [zA,zA,yu.zu,sFx,H1.load (k:=0) (i:=0+1) rfl rfl,dLen,wm,zB,yu.v5];by_cases c:z.natAbs=0
 .rw [c,gM,Zac (by rfl),zD,zA,yu.jd];simp only [zF,zN];rw [yu.ret];refine hK _ _ _ _ _ H1 (zV rfl) ?_;rw [mg,c,if_neg (by omega),bJ];rfl
 have hn1:=zex c;obtain ⟨n,hn⟩:∃ n,(dg 1000000000 z.natAbs).length=n+1:=⟨(dg 1000000000 z.natAbs).length-1,by omega⟩;have htop:=getD_some (l:=dg 1000000000 z.natAbs) (k:=n) (by omega);have htW:=mF (k:=n) (by decide) oz.2.1;have ht1:(dg 1000000000 z.natAbs).getD n 0≠0:=by
  have:=oz.2.2;unfold Nm at this;rw [List.getLast?_eq_getElem?,hn,Nat.add_sub_cancel,htop] at this;intro q;rw [q] at this;exact this rfl
 rw [Zab (by omega),zC,zE,zA,yu.ku,sFx,H1.load (k:=0) (i:=0+1) rfl rfl,sFx,H1.load (k:=0) (i:=0+1) rfl rfl,dLen,dh (by omega),dIx (i:=n) (by omega) (by omega),dLd htop];refine vA (w:=1) (by omega) (by omega) _ _ _ _ ?_;rintro _ rfl _;rw [zA,zA,yu.fe,sFx,H1.load (k:=0) (i:=0+1) rfl rfl,dLen,dh (by omega),zI];have hdrop:∀ i,i<n+1->(dg 1000000000 z.natAbs).drop i=(dg 1000000000 z.natAbs).getD i 0::(dg 1000000000 z.natAbs).drop (i+1):=λi hi=>by
  have ea:=getD_some (l:=dg 1000000000 z.natAbs) (k:=i) (by omega);rw [List.getElem?_eq_getElem (by omega)] at ea;rw [Zbg (by omega),Option.some.inj ea]
 have hlast:(dg 1000000000 z.natAbs).drop (n+1)=[]:=Zbr (by omega);refine yu.zcn (λm x3 x4 h' nx'=>m<=n/\x3=.str (qx (bv 1000000000 ((dg 1000000000 z.natAbs).drop m)) 1)/\x4=I ((m:Int)-1)/\bv 1000000000 ((dg 1000000000 z.natAbs).drop m)≠0/\h'=h1/\nx'=nx1) (m:=n) (by omega) ⟨by omega,by rw [hdrop n (by omega),hlast];simp [bv],by congr 1;omega,by rw [hdrop n (by omega),hlast];simpa [bv] using ht1,rfl,rfl⟩ ?_;rintro m z3 z4 z6 h3 nx3 R ⟨hm,rfl,rfl,hV,rfl,rfl⟩ hR;rw [yu.t15,zA,zA,yu.fE,fC];cases m with
 | zero =>
  rw [Zcs,oz.1,Zab (show ¬ ((0:Int)<=((0:Nat):Int)-1) by omega),zB,yu.v6,zC,zW,yD,zA,zA,yu.rH,sFx,H1.load (k:=0) (i:=0+0) rfl rfl,zB,yu.v7];have hl:=vY hz;by_cases d:z<0
  .rw [Zac d,zD,zA,yu.sQ,tCat (by simp;omega)];simp only [zF,zN];rw [yu.ret];exact hK _ _ _ _ _ H1 (zV rfl) (by rw [mg,if_pos d])
  .rw [Zab d,zC,zE,zA,yu.zmw];simp only [zF,zN];rw [yu.ret];exact hK _ _ _ _ _ H1 (zV rfl) (by rw [mg,if_neg d];rfl)
 | succ m =>
  have ea:=getD_some (l:=dg 1000000000 z.natAbs) (k:=m) (by omega);have haW:=mF (k:=m) (by decide) oz.2.1;have hl:(qx (bv 1000000000 ((dg 1000000000 z.natAbs).drop (m+1))) 1).length<=9*k+1:=by
   refine vY (Zdf ?_ hz);have e:=zqj (b:=1000000000) (l:=dg 1000000000 z.natAbs) (k:=m+1) (by omega);rw [oz.1] at e;have e2:1*bv 1000000000 ((dg 1000000000 z.natAbs).drop (m+1))<=1000000000 ^ (m+1)*bv 1000000000 ((dg 1000000000 z.natAbs).drop (m+1)):=Zbc _ (Zgp (by decide));omega
  rw [Zac (show (0:Int)<=((m+1:Nat):Int)-1 by omega),zB,yu.v6,zD,zE,zA,zI,yu.dx,sFx,H1.load (k:=0) (i:=0+1) rfl rfl,dIx (i:=m) (by omega) (by omega),dLd ea];refine vA (w:=9) (by omega) (by omega) _ _ _ _ ?_;rintro _ rfl _;have h9:(qx ((dg 1000000000 z.natAbs).getD m 0) 9).length=9:=by unfold qx;rw [Zah,Zbq,bP (by omega)]
  have e:bv 1000000000 ((dg 1000000000 z.natAbs).drop m)=(dg 1000000000 z.natAbs).getD m 0+1000000000*bv 1000000000 ((dg 1000000000 z.natAbs).drop (m+1)):=by rw [hdrop m (by omega),bv]
  rw [tCat (by omega),yu.nS,dh (by omega)];refine hR m _ _ _ _ _ (by omega) ⟨by omega,by rw [e,zmk haW hV],by congr 1;omega,by rw [e];omega,rfl,rfl⟩
theorem tIdx {s:List UInt8} {i:Nat} {x:Int} {c:UInt8} {K:AV->OP} (hx:x=(i:Int)) (hc:s[i]? = some c):j0 (.str s) (I x) K=K (.int .u8 (c.toNat:Int)):=by
 subst hx
 show (match s[i]? with
   | some b=>qz b.toNat λn=>K (.int .u8 (.ofNat n))
   | none=>.no 16)=_
 rw [hc]
 dsimp only
 rw [yK];rfl
theorem zey {x:Nat} (h:x<10):(dch x).toNat=48+x:=by
 have:∀ x<10,(dch x).toNat=48+x:=by decide +kernel
 exact this x h
theorem zhg {l:List Nat} {i:Nat} (hi:i<l.length):bv 10 (l.take (i+1)).reverse=l.getD i 0+10*bv 10 (l.take i).reverse:=by
 rw [Zat,getD_some hi];simp [bv]
theorem bK {l:List Nat} (h:Dg 10 l):bv 10 l.reverse<10 ^ l.length:=by
 have:=zc9 (b:=10) (l:=l.reverse) (by decide) (λx hx=>h x (by simpa using hx))
 rwa [Zbq] at this
theorem zb6 {l:List Nat} (hd:Dg 10 l) (hl:l.length<=18):Pure Tryz.prog B 209 [.str (l.map dch)] (· = I ((bv 10 l.reverse:Nat):Int)):=by
 refine zT λh nx K H0 hK=>zM zQ yA 100 λhf => ?_;rw [gq.go,gq.t18,zA,gq.zw,zA,gq.zu,zA,zA,gq.jd,zI];refine gq.oN (λm x2 x3 h' nx'=>∃ i:Nat,x2=I ((bv 10 (l.take i).reverse:Nat):Int)/\x3=I (i:Int)/\m+i=l.length/\h'=h/\nx'=nx) (m:=l.length) (by omega) ⟨0,rfl,rfl,rfl,rfl,rfl⟩ ?_;rintro m z2 z3 z4 h3 nx3 R ⟨i,rfl,rfl,hm,rfl,rfl⟩ hR;rw [gq.t10,zA,zA,gq.pu,ah,Zah,jk];by_cases c:i<l.length
 .have hx:=mF (k:=i) (by decide) hd;have ec:(l.map dch)[i]? = some (dch (l.getD i 0)):=by rw [List.getElem?_map,getD_some c];rfl
  have hb:=bK (l:=l.take i) hd.take;rw [Zai,Zbp (by omega)] at hb;have hp:10 ^ i<=10 ^ 17:=Zcy (by decide) (by omega);have hs:=zhg c;rw [Zac (by omega),zB,gq.v4,zD,zE,zA,zI,gq.ku,nk (by omega),tIdx (i:=i) rfl ec,zey hx,zej (by omega),ug (by omega),dh (by omega),gq.fE,ug (by omega)];exact hR (m-1) _ _ _ _ _ (by omega) ⟨i+1,by congr 1;omega,rfl,by omega,rfl,rfl⟩
 .rw [Zab (by omega),zB,gq.v4,zC,zW,yD,zA,gq.nT];simp only [zF,zN];rw [gq.ret];exact hK _ _ _ _ _ H0 (zV rfl) (by rw [Zaq (by omega)])
theorem zqm {l:List Nat} {neg:Bool} (hd:Dg 10 l) (hl1:1<=l.length) (hl:l.length<=900000):Pure Tryz.prog B 205 [.str ((if neg then [45] else [])++l.map dch)] (· = eP (if neg then -((bv 10 l.reverse:Nat):Int) else ((bv 10 l.reverse:Nat):Int))):=by
 refine zT λh nx K H0 hK=>zM zQ yA 1000010 λhf => ?_;rw [yw.go,yw.t23,zA,yw.zw];refine H0.alloc λp h1 nx1 H1 => ?_;have main:∀ x4:AV,yw.t20.run (CS Tryz.prog B) 1000010 (fnO yw.res K) (zi yw.res K) (yw.fr (.str (l.map dch)) (.ptr p 0) (.bool neg) .u x4 .u) h1 nx1=.ok True:=by
  intro x4;rw [yw.t20,zA,yw.ku,zA,zI];refine yw.zfb (λm x0 x3 h' nx'=>∃ (i:Nat) (Z:List Nat) (o:Option Pa),x0=.str ((l.take m).map dch)/\x3=cu o 1 i/\1<=m/\m+9*i=l.length/\Z.length=i/\Dg 1000000000 Z/\bv 1000000000 Z+1000000000 ^ i*bv 10 (l.take m).reverse=bv 10 l.reverse/\Hp h h' nx' [.gro o 1 i (Z.map D),.arr p [.bool false,.za]]) (m:=l.length) (by omega) ⟨0,[],none,by rw [Zcx],rfl,hl1,rfl,rfl,λ_ h=>by simp at h,by simp [bv],H1.sw 1⟩ ?_;rintro m z0 z3 z5 h3 nx3 R ⟨i,Z,o,rfl,rfl,hm1,hm,hZ,hdZ,hs,H3⟩ hR;have hlm:(l.take m).length=m:=by rw [Zai];omega
  rw [yw.t14,zA,zA,yw.fe,ah,Zah,hlm,di];by_cases c:9<m
  .have hlt:(l.take m).take (m-9)=l.take (m-9):=by rw [List.take_take,Zbp (by omega)]
   have hpl:((l.take m).drop (m-9)).length=9:=by rw [Zcd];omega
   have hpd:Dg 10 ((l.take m).drop (m-9)):=λx hx=>hd x (Zeb (List.mem_of_mem_drop hx));have hpb:=bK hpd;rw [hpl] at hpb;have hsp:bv 10 (l.take m).reverse=bv 10 ((l.take m).drop (m-9)).reverse+1000000000*bv 10 (l.take (m-9)).reverse:=by
    have e:l.take m=l.take (m-9)++(l.take m).drop (m-9):=by rw [<- hlt,Zem]
    conv=>lhs;rw [e]
    rw [List.reverse_append,qJ,Zbq,hpl]
   rw [Zac (by omega),zB,yw.v5,zD,zE,zI,zA,yw.nX,ah,Zah,hlm,dh (by omega),zb5 (a:=m-9) (by omega) (by rw [Zah,hlm];omega),<- List.map_drop];refine zb6 hpd (by omega) _ _ _ _ ?_;rintro _ rfl _;refine H3.aB (v:=D (bv 10 ((l.take m).drop (m-9)).reverse)) (by omega) (by decide) rfl rfl λo' h4 n4 H4 => ?_;rw [yw.dx,ah,Zah,hlm,dh (by omega),tTo (b:=m-9) (by omega) (by rw [Zah,hlm];omega),<- Zfw,hlt];refine hR (m-9) _ _ _ _ _ (by omega) ⟨i+1,Z++[bv 10 ((l.take m).drop (m-9)).reverse],o',rfl,rfl,by omega,by omega,by simp [hZ],hdZ.append (Dg.one hpb),?_,by rw [Zaz];exact H4⟩;rw [cE,hZ,Zde,Zcq,Zec,<- Zei,<- hsp];exact hs
  .have hpd:Dg 10 (l.take m):=hd.take;have hpb:=bK hpd;rw [hlm] at hpb;have hp:10 ^ m<=10 ^ 9:=Zcy (by decide) (by omega);rw [Zab (by omega),zB,yw.v5,zC,zW,yD,zA,yw.tT];refine zb6 hpd (by omega) _ _ _ _ ?_;rintro _ rfl _;refine H3.aB (v:=D (bv 10 (l.take m).reverse)) (by omega) (by decide) rfl rfl λo' h4 n4 H4 => ?_;rw [show Z.map D++[D (bv 10 (l.take m).reverse)]=(Z++[bv 10 (l.take m).reverse]).map D by rw [Zaz];rfl] at H4;obtain ⟨h5,hkp,H5,hF⟩:=H4.zkv (by simp [hZ]);refine pR hkp (.cons (.bool _) (.cons hF .nil)) ?_;refine xA (hdZ.append (Dg.one (by omega))) (by simp;omega) _ _ _ _ ?_;rintro _ rfl _;rw [cE,hZ,hs]
   generalize (if neg=true then -((bv 10 l.reverse:Nat):Int) else ((bv 10 l.reverse:Nat):Int))=z at *
   refine H5.jb (l2:=[.bool (decide (z<0)),vw (dg 1000000000 z.natAbs)]) (k:=0) rfl rfl rfl λh6 H6 => ?_;simp only [zF,zN];rw [yw.ret,H6.zm (k:=0) (n:=2) rfl rfl];exact hK _ _ _ _ _ H6 dAgg rfl
 cases neg with
 | true =>
  rw [if_pos rfl,zA,yw.zu,ah,di,Zac (by simp)];simp only [yO];rw [tIdx (s:=[45]++l.map dch) (i:=0) (x:=0) (c:=45) rfl rfl,wm];simp only [zY];rw [show decide (((45:UInt8).toNat:Int)=45)=true from rfl,zA,zA,yw.jd,zB,yw.v4,zD,yw.pu,zb5 (s:=[45]++l.map dch) (a:=1) (x:=1) rfl (by simp)];exact main _
 | false =>
  have ec:(l.map dch)[0]? = some (dch (l.getD 0 0)):=by rw [List.getElem?_map,getD_some (by omega)];rfl
  have hx:=mF (k:=0) (by decide) hd;rw [if_neg (by decide),Zbl,zA,yw.zu,ah,Zah,di,Zac (by omega)];simp only [yO];rw [tIdx (i:=0) (x:=0) rfl ec,wm,zey hx];simp only [zY];rw [Zab (by omega),zA,zA,yw.jd,zB,yw.v4,zC,zE];exact main _
theorem zb7 {s:List UInt8} {j:Nat} (hl:s.length<=1000000) (hj:j<=s.length) (hb:∀ i c,i<j->s[i]? = some c->c≠47) (he:j=s.length\/s[j]? = some 47):Pure Tryz.prog B 206 [.str s] (· = I (j:Int)):=by
 refine zT λh nx K H0 hK=>zM zQ yA 1000010 λhf => ?_;rw [jl.go,jl.t20,zA,jl.zw,zA,zA,jl.zu,zI];refine jl.zmx (λm x2 h' nx'=>∃ i:Nat,x2=I (i:Int)/\m+i=j/\h'=h/\nx'=nx) (m:=j) (by omega) ⟨0,rfl,rfl,rfl,rfl⟩ ?_;rintro m z1 z2 z3 z4 h3 nx3 R ⟨i,rfl,hm,rfl,rfl⟩ hR;rw [jl.t13,zA,zA,jl.jd,ah,jk];by_cases c:i<s.length
 .have ec:=List.getElem?_eq_getElem c;rw [Zac (by omega),zB,jl.v3,zD,zE,zA,zI,zA,jl.ny,tIdx (i:=i) rfl ec,wm,zB,jl.v4];by_cases d:i<j
  .have hn:=hb i _ d ec
   have hn2:¬ ((s[i].toNat:Int)=47):=λq=>hn (by
    have:s[i].toNat=(47:UInt8).toNat:=by
     have e:(47:UInt8).toNat=47:=rfl;omega
    exact UInt8.toNat_inj.1 this)
   rw [Zab hn2,zC,zE,jl.dx,ug (by omega)];exact hR (m-1) _ _ _ _ _ _ (by omega) ⟨i+1,rfl,by omega,rfl,rfl⟩
  .obtain rfl:i=j:=by omega
   have e47:s[i]=47:=by
    rcases he with e | e
    .omega
    .rw [ec] at e;exact Option.some.inj e
   rw [e47,show decide (((47:UInt8).toNat:Int)=47)=true from rfl,zD,zA,jl.ku];simp only [zF,dB,zN];rw [jl.ret];exact hK _ _ _ _ _ H0 (zV rfl) rfl
 .obtain rfl:i=j:=by omega
  rw [Zab (by omega),zB,jl.v3,zC,zW,yD,zA,jl.tT,ah];simp only [zF,zN];rw [jl.ret];exact hK _ _ _ _ _ H0 (zV rfl) (by congr 1;omega)
def qg (q:Rat):List UInt8:=mg q.num++(if q.den=1 then [] else 47::mg (q.den:Int))
theorem zwu {x:Nat} (h:x<10):dch x≠47:=by
 have:∀ x<10,dch x≠47:=by decide +kernel
 exact this x h
theorem dR {z:Int} {c:UInt8} (h:c∈mg z):c≠47:=by
 unfold mg qx at h;rcases List.mem_append.1 h with q | q
 .split at q
  .rw [List.mem_singleton.1 q];decide
  .cases q
 .obtain ⟨x,hx,rfl⟩:=List.mem_map.1 q;exact zwu (xY _ _ x (by simpa using hx))
theorem xH {z:Int} {k:Nat} (h:Z9 k z):(mg z).length<=9*k+2:=by
 have:=vY h;unfold mg;rw [Zae];split <;> simp <;> omega
theorem zhh (n:Nat):1<=(nW n 1).length:=by unfold nW;rw [Zae,Zau];omega
theorem zjc {z:Int} {k:Nat} (hk:k<=90000) (hz:Z9 k z):Pure Tryz.prog B 205 [.str (mg z)] (· = eP z):=by
 have hl:=vY hz;unfold qx at hl;rw [Zah,Zbq] at hl;have hp:=zqm (B:=B) (l:=(nW z.natAbs 1).reverse) (neg:=decide (z<0)) (λx hx=>xY _ _ x (by simpa using hx)) (by rw [Zbq];exact zhh _) (by rw [Zbq];omega);rw [Zew,mA] at hp;have e1:(if decide (z<0)=true then [45] else [])++(nW z.natAbs 1).reverse.map dch=mg z:=by
  unfold mg qx;by_cases d:z<0
  .rw [if_pos d,if_pos (Zac d)]
  .rw [if_neg d,if_neg (by rw [Zab d];decide)]
 have e2:(if decide (z<0)=true then -((z.natAbs:Nat):Int) else ((z.natAbs:Nat):Int))=z:=by
  by_cases d:z<0
  .rw [if_pos (Zac d)];omega
  .rw [if_neg (by rw [Zab d];decide)];omega
 rw [e1,e2] at hp;exact hp
theorem zqn {q:Rat} {k:Nat} (hk:k<=40000) (hn:Z9 k q.num) (hd:Z9 k (q.den:Int)):Pure Tryz.prog B 129 [.str (qg q)] (· = .tup [eP q.num,eP (q.den:Int)]):=by
 refine zT λh nx K H0 hK=>zM zQ yA 100 λhf => ?_;have l1:=xH hn;have l2:=xH hd;rw [kz.go,kz.t13,zA,kz.zw];refine H0.alloc λp1 h1 nx1 H1 => ?_;refine H1.alloc λp2 h2 nx2 H2 => ?_;rw [zA,kz.zu,zA,kz.jd];by_cases c:q.den=1
 .have e:qg q=mg q.num:=by unfold qg;rw [if_pos c,Zbh]
  rw [e];refine zb7 (j:=(mg q.num).length) (by omega) (by omega) (λi c _ hc=>dR (Zad hc)) (.inl rfl) _ _ _ _ ?_;rintro _ rfl _;rw [zA,zA,kz.pu,ah,wm,Zac rfl,zB,kz.v5,zD,zA,kz.fG];refine zjc (by omega) hn _ _ _ _ ?_;rintro _ rfl _;refine zql (by omega) _ _ _ _ ?_;rintro _ rfl _;refine H2.jb (l2:=[.bool (decide (q.num<0)),vw (dg 1000000000 q.num.natAbs)]) (k:=1) rfl rfl rfl λh3 H3 => ?_;refine H3.jb (l2:=[.bool (decide ((1:Int)<0)),vw (dg 1000000000 (1:Int).natAbs)]) (k:=0) rfl rfl rfl λh4 H4 => ?_;simp only [zF,zN];rw [kz.ret,H4.zm (k:=1) (n:=2) rfl rfl,H4.zm (k:=0) (n:=2) rfl rfl];exact hK _ _ _ _ _ H4 (gD dAgg dAgg) (by rw [c];rfl)
 .have e:qg q=mg q.num++47::mg (q.den:Int):=by unfold qg;rw [if_neg c]
  have el:(qg q).length=(mg q.num).length+((mg (q.den:Int)).length+1):=by rw [e,Zae,Zbb]
  have et:(qg q).take (mg q.num).length=mg q.num:=by rw [e,Zeg];rfl
  have ed:(qg q).drop ((mg q.num).length+1)=mg (q.den:Int):=by rw [e,<- Zeo,Zgi];rfl;rfl
  refine zb7 (j:=(mg q.num).length) (by omega) (by omega) (λi c hi hc => ?_) (.inr ?_) _ _ _ _ ?_
  .rw [e,List.getElem?_append_left hi] at hc;exact dR (Zad hc)
  .rw [e,List.getElem?_append_right (Zaf _),Zcj];rfl
  rintro _ rfl _;rw [zA,zA,kz.pu,ah,wm,Zab (by omega),zB,kz.v5,zC,zE,zA,kz.fE,tTo (b:=(mg q.num).length) rfl (by omega),et,ug (by omega),zb5 (a:=(mg q.num).length+1) (by omega) (by omega),ed];refine zjc (by omega) hn _ _ _ _ ?_;rintro _ rfl _;rw [zb5 (a:=(mg q.num).length+1) (by omega) (by omega),ed,zG,ug (by omega)];simp only [zG];refine zjc (by omega) hd _ _ _ _ ?_;rintro _ rfl _;refine H2.jb (l2:=[.bool (decide (q.num<0)),vw (dg 1000000000 q.num.natAbs)]) (k:=1) rfl rfl rfl λh3 H3 => ?_;refine H3.jb (l2:=[.bool (decide ((q.den:Int)<0)),vw (dg 1000000000 (q.den:Int).natAbs)]) (k:=0) rfl rfl rfl λh4 H4 => ?_;simp only [zF,zN];rw [kz.ret,H4.zm (k:=1) (n:=2) rfl rfl,H4.zm (k:=0) (n:=2) rfl rfl];exact hK _ _ _ _ _ H4 (gD dAgg dAgg) rfl
def rE (q:Rat):List UInt8:=qx q.num.natAbs 1++(if q.den=1 then [] else 47::qx q.den 1)
theorem dN (q:Rat):qg q=(if q.num<0 then [45] else [])++rE q:=by
 unfold qg rE mg;rw [Zbo,if_neg (show ¬ ((q.den:Int)<0) by omega),Zbl,Zbk]
theorem mO (n:Nat):1<=(qx n 1).length:=by unfold qx;rw [Zah,Zbq];exact zhh n
theorem dW {n:Nat} {c:UInt8} (h:c∈qx n 1):c≠47/\c≠45:=by
 unfold qx at h;obtain ⟨x,hx,rfl⟩:=List.mem_map.1 h;have hx10:=xY n 1 x (by simpa using hx);have:∀ x<10,dch x≠47/\dch x≠45:=by decide +kernel
 exact this x hx10
theorem zqo {n:Nat} (hl:(qx n 1).length<=18):Pure Tryz.prog B 209 [.str (qx n 1)] (· = I (n:Int)):=by
 have hl2:=hl;unfold qx at hl2;rw [Zah] at hl2;have:=zb6 (B:=B) (l:=(nW n 1).reverse) (λx hx=>xY _ _ x (by simpa using hx)) hl2;rw [Zew,mA] at this;exact this
theorem zsq {n k:Nat} (hl:(qx n 1).length<=k):n<10 ^ k:=by
 have e:(nW n 1).length<=k:=by unfold qx at hl;simpa using hl
 have:=zc9 (b:=10) (by decide) (xY n 1);rw [mA] at this;exact Zcm this (Zcy (by decide) e)
theorem p7 {q:Rat} (hq1:q.num.natAbs<1000000000) (hq2:q.den<1000000000):Pure Tryz.prog B 127 [.str (qg q)] (· = .tup [I q.num,I (q.den:Int),.bool true]):=by
 refine zT λh nx K H0 hK=>zM zQ yA 100 λhf => ?_;have w9:∀ {n:Nat},n<1000000000->(qx n 1).length<=9:=λ{n} h=>by
  have:=kO (b:=10) (z:=n) (n:=9) (by decide) h;unfold qx nW;rw [Zah,Zbq,Zae,Zau];omega
 have h9n:=w9 hq1;have h9d:=w9 hq2;have hcut:qg q=(if q.num<0 then [45] else [])++rE q:=dN q;have hd1:=mO q.num.natAbs;have hbl:(rE q).length=(qx q.num.natAbs 1).length+(if q.den=1 then [] else 47::qx q.den 1).length:=by rw [rE,Zae]
 have hb19:(rE q).length<=(qx q.num.natAbs 1).length+10:=by rw [hbl];split <;> simp;omega
 have hr20:(qg q).length<=20:=by rw [hcut,Zae];split <;> simp <;> omega
 rw [zo.go,zo.t38,zA,zo.zw,zA,zo.zu,zA,zA,zo.jd,ah,di,zB,zo.v9];rw [Zab (by omega),zC,zE];have main:∀ x10:AV,zo.t33.run (CS Tryz.prog B) 100 (fnO zo.res K) (zi zo.res K) (zo.fr (.str (qg q)) (I 0) (I 0) (.bool false) (.str (rE q)) (.bool (decide (q.num<0))) .u .u .u (.bool false) x10 .u .u .u) h nx=.ok True:=by
  intro x10;have zz3:∀ i c,i<(qx q.num.natAbs 1).length->(rE q)[i]? = some c->c≠47:=λi c hi hc=>by
   rw [rE,List.getElem?_append_left hi] at hc;exact (dW (Zad hc)).1
  have hat:(qx q.num.natAbs 1).length=(rE q).length\/(rE q)[(qx q.num.natAbs 1).length]? = some 47:=by
   by_cases c:q.den=1
   .rw [if_pos c] at hbl;exact .inl (by simpa using hbl.symm)
   .right
    rw [rE,if_neg c,List.getElem?_append_right (Zaf _),Zcj];rfl
  have ht:(rE q).take (qx q.num.natAbs 1).length=qx q.num.natAbs 1:=by rw [rE,Zeg];rfl
  rw [zo.t33,zA,zo.rF];refine zb7 (j:=(qx q.num.natAbs 1).length) (by omega) (by omega) zz3 hat _ _ _ _ ?_;rintro _ rfl _;rw [zA,zA,zo.nS,zo.r8_0,zo.zhy,di];rw [Zab (by omega)];simp only [jB];rw [ah,dh (by omega),di,zo.r8_1,zo.zhz];simp only [zZ];rw [zB,zo.v11];rw [Zab (by omega),zC,zE,zA,zo.aT,tTo (b:=(qx q.num.natAbs 1).length) rfl (by omega),ht];refine zqo (by omega) _ _ _ _ ?_;rintro _ rfl _;have fin:∀ x12:AV,zo.t29.run (CS Tryz.prog B) 100 (fnO zo.res K) (zi zo.res K) (zo.fr (.str (qg q)) (I 0) (I 0) (.bool false) (.str (rE q)) (.bool (decide (q.num<0))) (I ((qx q.num.natAbs 1).length:Int)) (I (q.num.natAbs:Int)) (I (q.den:Int)) (.bool false) x10 (.bool false) x12 .u) h nx=.ok True:=by
   intro x12;rw [zo.t29,zA,zA,zo.zff,zB,zo.v13];by_cases d:q.num<0
   .rw [Zac d,zD,zo.zmw,dh (by omega),zA,zo.zjm];simp only [zF,zN];rw [zo.ret];exact hK _ _ _ _ _ H0 (zgh (.int _ _) (.int _ _) (.bool _)) (by rw [show (0:Int)-(q.num.natAbs:Int)=q.num by omega])
   .rw [Zab d,zC,zE,zA,zo.zjm];simp only [zF,zN];rw [zo.ret];exact hK _ _ _ _ _ H0 (zgh (.int _ _) (.int _ _) (.bool _)) (by rw [show ((q.num.natAbs:Nat):Int)=q.num by omega])
  rw [zA,zA,zo.rH,ah,jk,zB,zo.v12];by_cases c:q.den=1
  .rw [if_pos c,Zfc,Zel] at hbl;rw [Zab (by omega),zC,zE];have:=fin (.bool false);rw [c] at this;exact this
  .rw [if_neg c,Zbb] at hbl;have ed:(rE q).drop ((qx q.num.natAbs 1).length+1)=qx q.den 1:=by rw [rE,if_neg c,<- Zeo,Zgi];rfl;rfl
   rw [Zac (by omega),zD,zo.sQ,ug (by omega),zb5 (a:=(qx q.num.natAbs 1).length+1) (by omega) (by omega),ed];refine zqo (by omega) _ _ _ _ ?_;rintro _ rfl _;exact fin _
 by_cases d:q.num<0
 .rw [if_pos d] at hcut;have e0:(qg q)[0]? = some 45:=by rw [hcut];rfl
  have el:(qg q).length=(rE q).length+1:=by rw [hcut];rfl
  have ed:(qg q).drop 1=rE q:=by rw [hcut];rfl
  rw [zA,zo.fe,ah,di,Zac (by omega)];simp only [yO];rw [tIdx (i:=0) (x:=0) rfl e0,wm];simp only [zY];rw [show decide (((45:UInt8).toNat:Int)=45)=true from rfl,zA,zA,zo.fE,zB,zo.v10,zD,zo.nP,zb5 (a:=1) (x:=1) rfl (by omega),ed];have:=main (.bool true);rw [Zac d] at this;exact this
 .rw [if_neg d,Zbl] at hcut;obtain ⟨c0',hc0⟩:∃ c,(qx q.num.natAbs 1)[0]? = some c:=⟨_,List.getElem?_eq_getElem (by omega)⟩;have e0:(qg q)[0]? = some c0':=by rw [hcut,rE,List.getElem?_append_left (by omega),hc0]
  have hne:=(dW (Zad hc0)).2
  have hne2:¬ ((c0'.toNat:Int)=45):=λh=>hne (by
   have e:(45:UInt8).toNat=45:=rfl;have:c0'.toNat=(45:UInt8).toNat:=by omega
   exact UInt8.toNat_inj.1 this)
  rw [zA,zo.fe,ah,di,Zac (by rw [hcut];omega)];simp only [yO];rw [tIdx (i:=0) (x:=0) rfl e0,wm];simp only [zY];rw [Zab hne2,zA,zA,zo.fE,zB,zo.v10,zC,zE];have:=main (.bool false);rw [Zab d] at this;rw [<- hcut] at this;exact this
theorem zux {a b:Int} {K:AV->OP}:sMin true (I a) [I b] K=K (I (max a b)):=by
 have e:sMin true (I a) [I b] K=K (.int .i64 (bif ilt a b then b else a)):=rfl;rw [e,wS]
 congr 2
 by_cases c:a<b
 .simp only [c,decide_true,cond_true];omega
 .simp only [c,decide_false,cond_false];omega
theorem zkx {n:Nat} (h:n<=9223372036854775807):(qx n 1).length<=20:=by
 unfold qx;rw [Zah,Zbq];have:=zhe (n:=n) (w:=1) (by omega) (by omega);omega
theorem zuy {a b:Int} (ha : -4000000000000000000<=a/\a<=4000000000000000000) (hb:0<b/\b<=4000000000000000000):Pure Tryz.prog B 128 [I a,I b] (· = .str (qg (Rat.divInt a b))):=by
 refine zT λh nx K H0 hK=>zM zQ yA 100 λhf => ?_;rw [zx.go,zx.t32,zA,zx.zw]
 have tail:∀ {a b:Int} {x5 x6:AV},(-4000000000000000000<=a/\a<=4000000000000000000)->(0<b/\b<=4000000000000000000)->(∀ v h' nx' L v',Hp h h' nx' L->sH h h' v v'->v'=.str (qg (Rat.divInt a b))->K v h' nx'=.ok True) ->
   zx.t29.run (CS Tryz.prog B) 100 (fnO zx.res K) (zi zx.res K) (zx.fr (I a) (I b) (.str []) .u .u x5 x6 .u .u) h nx=.ok True:=by
  intro a b x5 x6 ha hb hK;have hg:0<Nat.gcd a.natAbs b.natAbs:=Nat.gcd_pos_of_pos_right _ (by omega);have hgl:Nat.gcd a.natAbs b.natAbs<=b.natAbs:=Nat.le_of_dvd (by omega) (Nat.gcd_dvd_right ..);obtain ⟨d1,d2⟩:=kC (n:=a) (d:=b) hb.1;have eg:(Int.gcd a b:Int)=((Nat.gcd a.natAbs b.natAbs:Nat):Int):=rfl;have e1:a.tdiv ((Nat.gcd a.natAbs b.natAbs:Nat):Int)=(Rat.divInt a b).num:=by
   rw [d1,<- eg];exact Int.tdiv_eq_ediv_of_dvd (Zet ..)
  have e2:b.tdiv ((Nat.gcd a.natAbs b.natAbs:Nat):Int)=((Rat.divInt a b).den:Int):=by
   rw [d2,<- eg];exact Int.tdiv_eq_ediv_of_dvd (Zfs ..)
  have hn:(Rat.divInt a b).num.natAbs<=a.natAbs:=by
   rw [<- e1,Int.natAbs_tdiv,Zbk];exact Zcn _ _
  have hd:(Rat.divInt a b).den<=b.natAbs:=by
   have:=congrArg Int.natAbs e2;rw [Int.natAbs_tdiv,Zbk,Zbk] at this;rw [<- this];exact Zcn _ _
  rw [zx.t29,zA,zx.nX,dh (by omega),zux,show max a (0-a)=(a.natAbs:Int) by omega];have hbb:I b=I (b.natAbs:Int):=by congr 1;omega
  have hgc:∀ KK:Kw Prop,(∀ h2 n3,h2=h->n3=nx->KK (I ((Nat.gcd a.natAbs b.natAbs:Nat):Int)) h2 n3=.ok True)->(CS Tryz.prog B).fn 210 (.of 210) [I (a.natAbs:Int),I b] h nx KK=.ok True:=λKK q=>by
   rw [hbb];refine zwt (by omega) (by omega) _ _ _ _ ?_;rintro _ rfl _;exact q _ _ rfl rfl
  refine hgc _ ?_;rintro h2 n3 rfl rfl;rw [zA,zx.dx,zha (by omega) (by omega),zha (by omega) (by omega),e1,e2,zA,zx.rF,zA,zA,zx.nS,jk,zB,zx.v7]
  generalize Rat.divInt a b=q at *
  have l1:=zkx (n:=q.num.natAbs) (by omega);have l2:=zkx (n:=q.den) (by omega);have fin:∀ (sg:List UInt8) (x7:AV),sg=(if q.num<0 then [45] else [])->zx.t25.run (CS Tryz.prog B) 100 (fnO zx.res K) (zi zx.res K) (zx.fr (I q.num) (I (q.den:Int)) (.str []) (I ((Nat.gcd a.natAbs b.natAbs:Nat):Int)) (.str sg) x5 x6 x7 .u) h2 n3=.ok True:=by
   intro sg x7 hsg;have ls:sg.length<=1:=by rw [hsg];split <;> simp
   rw [zx.t25,zA,zx.tT,dh (by omega),zux,show max q.num (0-q.num)=(q.num.natAbs:Int) by omega];refine vA (w:=1) (by omega) (by omega) _ _ _ _ ?_;rintro _ rfl _;rw [tCat (by omega),zA,zA,zx.aT,di,zB,zx.v8];have hint:sg++qx q.num.natAbs 1=mg q.num:=by rw [hsg];rfl
   by_cases c:q.den=1
   .rw [Zab (by omega),zC,zE,zA,zx.rW];simp only [zF,zN];rw [zx.ret];exact hK _ _ _ _ _ H0 (zV rfl) (by rw [qg,if_pos c,Zbh,hint])
   .have hdp:=q.den_pos;rw [Zac (by omega),zD,zx.rH,tCat (by simp;omega)];refine vA (w:=1) (by omega) (by omega) _ _ _ _ ?_;rintro _ rfl _;rw [tCat (by simp;omega),zA,zx.rW];simp only [zF,zN];rw [zx.ret];refine hK _ _ _ _ _ H0 (zV rfl) ?_;rw [qg,if_neg c,<- hint,mg,if_neg (show ¬ ((q.den:Int)<0) by omega),Zbl,Zbk];simp
  by_cases d:q.num<0
  .rw [Zac d,zD,zx.nT];exact fin _ _ (by rw [if_pos d])
  .rw [Zab d,zC,zE];exact fin _ _ (by rw [if_neg d])
 rw [zA,zA,zx.zu,zx.sD,zx.sF,jk,Zab (by omega)];simp only [jB];rw [di];simp only [zZ];rw [Zab (by omega)];simp only [jB];rw [zx.tO,zx.rU];simp only [jB];rw [jk];simp only [zZ];rw [Zab (by omega)];simp only [jB];rw [di];simp only [zZ];rw [Zab (by omega),zB,zx.v5,zC,zE,zA,zA,zx.ku,jk,zB,zx.v6,Zab (by omega),zC,zE];exact tail ha hb hK
def Qd (q:Rat):Prop:=q.num.natAbs<1000000000/\q.den<1000000000
theorem zwv {p q:Rat} (hp:Qd p) (hq:Qd q):Pure Tryz.prog B 40 [.str (qg p),.str (qg q)] (· = .str (qg (p+q))):=by
 refine zT λh nx K H0 hK=>zM zQ yA 100 λhf => ?_;obtain ⟨p1,p2⟩:=hp;obtain ⟨q1,q2⟩:=hq;rw [F40.go,F40.t17,zA,F40.zw,zA,F40.zu];refine p7 p1 p2 _ _ _ _ ?_;rintro _ rfl _;rw [jD,jC,gA,zA,F40.jd];refine p7 q1 q2 _ _ _ _ ?_;rintro _ rfl _;rw [jD,jC,gA,zA,zA,F40.pu];simp only [yO,zY];have m1:(p.num*(q.den:Int)).natAbs<10 ^ 9*10 ^ 9:=by rw [Zcc];exact Zdt p1 (by omega)
 have m2:(q.num*(p.den:Int)).natAbs<10 ^ 9*10 ^ 9:=by rw [Zcc];exact Zdt q1 (by omega)
 have m3:((p.den:Int)*(q.den:Int)).natAbs<10 ^ 9*10 ^ 9:=by rw [Zcc];exact Zdt (by omega) (by omega)
 have m4:0<(p.den:Int)*(q.den:Int):=Int.mul_pos (Int.natCast_pos.2 p.den_pos) (Int.natCast_pos.2 q.den_pos);rw [zB,F40.v13,zD,zA,F40.fG,nk (by omega),nk (by omega),ug (by omega),nk (by omega)];refine zuy (by omega) (by omega) _ _ _ _ ?_;rintro _ rfl _;rw [zdd];simp only [zF,zN];rw [F40.ret];exact hK _ _ _ _ _ H0 (zV rfl) rfl
theorem zqp {p q:Rat} (hp:Qd p) (hq:Qd q):Pure Tryz.prog B 41 [.str (qg p),.str (qg q)] (· = .str (qg (p*q))):=by
 refine zT λh nx K H0 hK=>zM zQ yA 100 λhf => ?_;obtain ⟨p1,p2⟩:=hp;obtain ⟨q1,q2⟩:=hq;rw [F41.go,F41.t17,zA,F41.zw,zA,F41.zu];refine p7 p1 p2 _ _ _ _ ?_;rintro _ rfl _;rw [jD,jC,gA,zA,F41.jd];refine p7 q1 q2 _ _ _ _ ?_;rintro _ rfl _;rw [jD,jC,gA,zA,zA,F41.pu];simp only [yO,zY];have m1:(p.num*q.num).natAbs<10 ^ 9*10 ^ 9:=by rw [Zcc];exact Zdt p1 q1
 have m3:((p.den:Int)*(q.den:Int)).natAbs<10 ^ 9*10 ^ 9:=by rw [Zcc];exact Zdt (by omega) (by omega)
 have m4:0<(p.den:Int)*(q.den:Int):=Int.mul_pos (Int.natCast_pos.2 p.den_pos) (Int.natCast_pos.2 q.den_pos);rw [zB,F41.v13,zD,zA,F41.fG,nk (by omega),nk (by omega)];refine zuy (by omega) (by omega) _ _ _ _ ?_;rintro _ rfl _;rw [zdc];simp only [zF,zN];rw [F41.ret];exact hK _ _ _ _ _ H0 (zV rfl) rfl
theorem zsr:dg 1000000000 1=[1]:=by rw [kN (by decide) (by decide),show 1 / 1000000000=0 from rfl,gM]
theorem zss {a g:Int} (hg:0<g) (hd:g∣a):(if decide (a<0)=true then -((a.natAbs / g.natAbs:Nat):Int) else ((a.natAbs / g.natAbs:Nat):Int))=a / g:=by
 obtain ⟨t,rfl⟩:=hd;rw [Zcc,Nat.mul_div_cancel_left _ (by omega),Int.mul_ediv_cancel_left _ (by omega)];by_cases d:t<0
 .rw [if_pos (Zac (Int.mul_neg_of_pos_of_neg hg d))];omega
 .have:0<=g*t:=Zgn (by omega) (by omega);rw [if_neg (by rw [Zab (by omega)];decide)];omega
theorem zhi {a b:Int} {k:Nat} (hk:k<=40000) (ha:Z9 k a) (hb:Z9 k b) (hb0:b≠0) (hbN:b.natAbs<1000000000):Pure Tryz.prog B 130 [eP a,eP b] (· = .str (qg (Rat.divInt a b))):=by
 refine zT λh nx K H0 hK=>zM zQ yA 100 λhf => ?_;rw [yg.go,yg.t22,zA,yg.zw];refine H0.box (l:=[.bool (decide (a<0)),vw (dg 1000000000 a.natAbs)]) rfl λpa h1 nx1 H1 => ?_;refine H1.box (l:=[.bool (decide (b<0)),vw (dg 1000000000 b.natAbs)]) rfl λpb h2 nx2 H2 => ?_
 have tail:∀ {h3:T Blk} {nx3:Pa} {a b:Int} {x9:AV},Z9 k a->Z9 k b->0<b->b.natAbs<1000000000->(∀ v h' nx' L v',Hp h h' nx' L->sH h h' v v'->v'=.str (qg (Rat.divInt a b))->K v h' nx'=.ok True)->Hp h h3 nx3 [.arr pb [.bool (decide (b<0)),vw (dg 1000000000 b.natAbs)],.arr pa [.bool (decide (a<0)),vw (dg 1000000000 a.natAbs)]]->∀ {x0 x1:AV},
   IR.run yg.t20 (CS Tryz.prog B) 100 (fnO yg.res K) (zi yg.res K) (yg.fr x0 x1 (.ptr pa 0) (.ptr pb 0) (.str []) .u .u .u .u x9 .u) h3 nx3=.ok True:=by
  intro h3 nx3 a b x9 ha hb hb0 hbN hK H x0 x1;have la:=ha.len;have lb:=hb.len;have hg:0<Nat.gcd a.natAbs b.natAbs:=Nat.gcd_pos_of_pos_right _ (by omega);have hgl:Nat.gcd a.natAbs b.natAbs<=b.natAbs:=Nat.le_of_dvd (by omega) (Nat.gcd_dvd_right ..);obtain ⟨d1,d2⟩:=kC (n:=a) (d:=b) hb0;have eg:(Int.gcd a b:Int)=((Nat.gcd a.natAbs b.natAbs:Nat):Int):=rfl;have hsg:=zss (a:=a) (g:=(Int.gcd a b:Int)) (by rw [eg];omega) (Zet ..);rw [<- d1,eg,Zbk] at hsg;have hden:(Rat.divInt a b).den=b.natAbs / Nat.gcd a.natAbs b.natAbs:=by
   have e3:b / ((Nat.gcd a.natAbs b.natAbs:Nat):Int)=((b.natAbs / Nat.gcd a.natAbs b.natAbs:Nat):Int):=by
    rw [Int.natCast_ediv]
    congr 1
    omega
   rw [eg,e3] at d2;exact Int.natCast_inj.1 d2
  have hqn:Z9 k (Rat.divInt a b).num:=by
   unfold Z9 at *
   have e4:(Rat.divInt a b).num.natAbs=a.natAbs / Nat.gcd a.natAbs b.natAbs:=by
    rw [<- hsg];split
    .rw [Zdr,Zbk]
    .rw [Zbk]
   rw [e4];exact Zdf (Zcn _ _) ha
  have hqd:Z9 k ((Rat.divInt a b).den:Int):=by
   unfold Z9 at *
   rw [hden,Zbk];exact Zdf (Zcn _ _) hb
  have l1:=xH hqn;have l2:=xH hqd;have oq:=qB (b:=1000000000) (by decide) (a.natAbs / Nat.gcd a.natAbs b.natAbs);have lq:=pK (b:=1000000000) (by decide) (Zcn a.natAbs (Nat.gcd a.natAbs b.natAbs));have Sg:S9 (Nat.gcd a.natAbs b.natAbs):=by
   have:=pK (b:=1000000000) (by decide) hgl;unfold S9;omega
  rw [yg.t20,zA,yg.ny,sFx,H.load (k:=1) (i:=0+1) rfl rfl,sFx,H.load (k:=0) (i:=0+1) rfl rfl];refine zmi hbN (by unfold S9;omega) (by unfold S9;omega) _ _ _ _ ?_;rintro _ rfl _;rw [zA,yg.ku,sFx,H.load (k:=1) (i:=0+1) rfl rfl];refine bH hg (Zdf hgl hbN) (by unfold S9;omega) Sg _ _ _ _ ?_;rintro _ rfl _;rw [jD,jC,zA,yg.fe,sFx,H.load (k:=0) (i:=0+1) rfl rfl];refine bH hg (Zdf hgl hbN) (by unfold S9;omega) Sg _ _ _ _ ?_;rintro _ rfl _;rw [jD,jC,zA,yg.fE,sFx,H.load (k:=1) (i:=0+0) rfl rfl];refine xA oq.2.1 (by omega) _ _ _ _ ?_;rintro _ rfl _;rw [oq.1,hsg];refine zkw (by omega) hqn _ _ _ _ ?_;rintro _ rfl _;rw [<- hden,zA,zA,yg.nP]
  generalize Rat.divInt a b=q at *
  have od:=qB (b:=1000000000) (by decide) q.den;by_cases c:q.den=1
  .rw [c,zsr,yg.om,yg.eD,dLen,wm,Zac (by rfl)];simp only [yO];rw [dIx (l:=[1]) (i:=0) (j:=0) rfl (by simp),dLd (x:=1) rfl,wm,Zac (by rfl),yg.r6_1,yg.tV];simp only [zY];rw [zB,yg.v10,zD,zA,yg.nX];simp only [zF,zN];rw [yg.ret];exact hK _ _ _ _ _ H (zV rfl) (by rw [qg,if_pos c,Zbh])
  .have fin:∀ x10:AV,IR.run yg.t15 (CS Tryz.prog B) 100 (fnO yg.res K) (zi yg.res K) (yg.fr x0 x1 (.ptr pa 0) (.ptr pb 0) (.str []) (vw (dg 1000000000 (Nat.gcd a.natAbs b.natAbs))) (vw (dg 1000000000 (a.natAbs / Nat.gcd a.natAbs b.natAbs))) (vw (dg 1000000000 q.den)) (.str (mg q.num)) x9 x10) h3 nx3=.ok True:=by
    intro x10;rw [yg.t15,zA,yg.nT,tCat (by simp;omega)];refine xA od.2.1 (by have:=hqd.len;rw [Zbk] at this;omega) _ _ _ _ ?_;rintro _ rfl _;rw [if_neg (by decide),od.1];refine zkw (by omega) hqd _ _ _ _ ?_;rintro _ rfl _;rw [tCat (by simp;omega)];simp only [zF,zN];rw [yg.ret];exact hK _ _ _ _ _ H (zV rfl) (by rw [qg,if_neg c,Zbo];rfl)
   rw [yg.om,yg.eD,dLen,wm];by_cases e:(dg 1000000000 q.den).length=1
   .obtain ⟨e1,e2⟩:=zb4 (b:=1000000000) (by decide) e;rw [Zac (by omega)];simp only [yO];rw [e1,dIx (l:=[q.den]) (i:=0) (j:=0) rfl (by simp),dLd (x:=q.den) rfl,wm,Zab (by omega),yg.r6_1,yg.tV];simp only [zY];rw [zB,yg.v10,zC,zE];rw [<- e1];exact fin _
   .rw [Zab (by omega)];simp only [jH,zgl];rw [yg.r6_1,yg.tV];simp only [zZ];rw [zB,yg.v10,zC,zE];exact fin _
 rw [zA,zA,yg.zu,sFx,H2.load (k:=0) (i:=0+0) rfl rfl,zB,yg.v9];by_cases c:b<0
 .rw [Zac c,zD,yg.jd,H2.zm (k:=1) (n:=2) rfl rfl,H2.zm (k:=0) (n:=2) rfl rfl];have hma:Z9 k (-a):=by unfold Z9 at *;omega
  have hmb:Z9 k (-b):=by unfold Z9 at *;omega
  rw [<- xW a,<- xW b];refine zhd (by omega) ha _ _ _ _ ?_;rintro _ rfl _;rw [H2.zm (k:=0) (n:=2) rfl rfl,<- xW b,zG];refine zhd (by omega) hb _ _ _ _ ?_;rintro _ rfl _;refine H2.jb (l2:=[.bool (decide (-a<0)),vw (dg 1000000000 (-a).natAbs)]) (k:=1) rfl rfl rfl λh3 H3 => ?_;refine H3.jb (l2:=[.bool (decide (-b<0)),vw (dg 1000000000 (-b).natAbs)]) (k:=0) rfl rfl rfl λh4 H4 => ?_;exact tail hma hmb (by omega) (by omega) (by rw [Rat.neg_divInt_neg];exact hK) H4
 .rw [Zab c,zC,zE];exact tail ha hb (by omega) hbN hK (by rw [Zab c] at H2 ⊢;exact H2)
theorem zst {n:Nat} (h:qx n 1=[48]):n=0:=by
 have hlt:=zsq (n:=n) (k:=1) (by rw [h];simp);rcases Zgs n with e | e
 .exact e
 .exfalso
  have hd:dg 10 n=[n]:=by
   rw [kN (by decide) (by omega),show n / 10=0 by omega,gM,show n%10=n by omega]
  unfold qx at h;rw [p9 (by omega),hd] at h;have:∀ n<10,0<n->dch n≠48:=by decide +kernel
  exact this n (by omega) e (by simpa using h)
theorem aj {q:Rat}:qg q=[48]↔q=0:=by
 constructor
 .intro h;have hd1:=mO q.num.natAbs;have hlen:=congrArg List.length h;rw [dN] at h hlen;by_cases d:q.num<0
  .rw [if_pos d] at h;have:=congrArg List.head? h;simp at this
  .rw [if_neg d,Zbl] at h hlen;unfold rE at h hlen;by_cases c:q.den=1
   .rw [if_pos c,Zbh] at h;have:=zst h;exact Rat.num_eq_zero.1 (by omega)
   .rw [if_neg c] at hlen;simp at hlen;omega
 .rintro rfl;rw [qg,if_pos (show (0:Rat).den=1 from rfl),Zbh];show mg 0=[48];rw [mg,if_neg (by decide)];exact bJ
theorem zuz {a b:List UInt8} {K:AV->OP}:zb .eql .str (.str a) (.str b) K=K (.bool (decide (a=b))):=by
 have e:zb .eql .str (.str a) (.str b) K=K (.bool (gN a b)):=nr rfl;rw [e];by_cases c:a=b
 .rw [Zac c,mh.2 c]
 .rw [Zab c];cases q:gN a b with
  | true=>exact absurd (mh.1 q) c
  | false=>rfl
theorem zb8 {q:Rat} (d:q.num<0):qg q=45::rE q:=by rw [dN,if_pos d];rfl
theorem zhj {q:Rat} (d:¬ q.num<0):qg q=rE q/\∃ c,(qg q)[0]? = some c/\c≠45:=by
 have hd1:=mO q.num.natAbs;have hcut:qg q=rE q:=by rw [dN,if_neg d];rfl
 have hc0:=List.getElem?_eq_getElem (l:=qx q.num.natAbs 1) (i:=0) (by omega);exact ⟨hcut,_,by rw [hcut,rE,List.getElem?_append_left (by omega),hc0],(dW (Zad hc0)).2⟩
theorem zdl (q:Rat):1<=(qg q).length:=by
 have hd1:=mO q.num.natAbs;rw [dN,rE,Zae,Zae];omega
theorem zky {q:Rat} (hl:(qg q).length<=1000000):Pure Tryz.prog B 255 [.str (qg q)] (· = I (gX q.num)):=by
 refine zT λh nx K H0 hK=>zM zQ yA 100 λhf => ?_;have l1:=zdl q;rw [uq.go,uq.t15,zA,uq.zw,zA,zA,uq.zu,zuz,zB,uq.v2];by_cases c:q=0
 .rw [Zac (aj.2 c),zD,zA,uq.jd];simp only [zF,zN];rw [uq.ret];exact hK _ _ _ _ _ H0 (zV rfl) (by rw [c];rfl)
 .have hn:q.num≠0:=λe=>c (Rat.num_eq_zero.1 e);rw [Zab (λe=>c (aj.1 e)),zC,zE,zA,zA,uq.ku,ah,di,Zac (by omega)];simp only [yO];by_cases d:q.num<0
  .have e0:(qg q)[0]? = some 45:=by rw [zb8 d];rfl
   rw [tIdx (i:=0) (x:=0) rfl e0,wm];simp only [zY];rw [show decide (((45:UInt8).toNat:Int)=45)=true from rfl,zB,uq.v3,zD,zA,uq.fe];simp only [zF,zN];rw [uq.ret];exact hK _ _ _ _ _ H0 (zV rfl) (by unfold gX;rw [if_pos d])
  .obtain ⟨_,c',e0,hne⟩:=zhj d
   have hne2:¬ ((c'.toNat:Int)=45):=λh=>hne (by
    have e:(45:UInt8).toNat=45:=rfl;have:c'.toNat=(45:UInt8).toNat:=by omega
    exact UInt8.toNat_inj.1 this)
   rw [tIdx (i:=0) (x:=0) rfl e0,wm];simp only [zY];rw [Zab hne2,zB,uq.v3,zC,zE,zA,uq.dx];simp only [zF,zN];rw [uq.ret];exact hK _ _ _ _ _ H0 (zV rfl) (by unfold gX;rw [if_neg d,if_pos (by omega)])
theorem zhk (q:Rat):rE (-q)=rE q:=by unfold rE;rw [Zft,Rat.neg_den,Zdr]
theorem zww {q:Rat} (hl:(qg q).length<=900000):Pure Tryz.prog B 189 [.str (qg q)] (· = .str (qg (-q))):=by
 refine zT λh nx K H0 hK=>zM zQ yA 100 λhf => ?_;have l1:=zdl q;rw [uw.go,uw.t15,zA,uw.zw,zA,zA,uw.zu];refine zky (by omega) _ _ _ _ ?_;rintro _ rfl _;rw [jk,zB,uw.v2];by_cases d:q.num<0
 .rw [Zac (by unfold gX;rw [if_pos d];decide),zD,zA,uw.jd,zb5 (a:=1) (x:=1) rfl l1,zb8 d];simp only [zF,zN];rw [uw.ret];exact hK _ _ _ _ _ H0 (zV rfl) (by rw [dN (-q),if_neg (by rw [Zft];omega),zhk];rfl)
 .rw [Zab (by unfold gX;rw [if_neg d];split <;> decide),zC,zE,zA,zA,uw.ku];refine zky (by omega) _ _ _ _ ?_;rintro _ rfl _;rw [wm,zB,uw.v3];by_cases c:q.num=0
  .have hq:=Rat.num_eq_zero.1 c;rw [Zac (by unfold gX;rw [if_neg d,if_neg (by omega)]),zD,zA,uw.fe];simp only [zF,zN];rw [uw.ret];exact hK _ _ _ _ _ H0 (zV rfl) (by rw [hq];rfl)
  .rw [Zab (by unfold gX;rw [if_neg d,if_pos (by omega)];decide),zC,zE,zA,uw.dx,tCat (by simp;omega)];simp only [zF,zN];rw [uw.ret];exact hK _ _ _ _ _ H0 (zV rfl) (by rw [(zhj d).1,zb8 (by rw [Zft];omega),zhk];rfl)
theorem Qd.neg {q:Rat} (h:Qd q):Qd (-q):=⟨by rw [Zft,Zdr];exact h.1,by rw [Rat.neg_den];exact h.2⟩
theorem Qd.z9 {q:Rat} (h:Qd q):Z9 1 q.num/\Z9 1 (q.den:Int):=⟨by unfold Z9;exact h.1,by unfold Z9;rw [Zbk];exact h.2⟩
theorem Qd.txt {q:Rat} (h:Qd q):(qg q).length<=100:=by
 have l1:=xH h.z9.1;have l2:=xH h.z9.2;unfold qg;rw [Zae];split <;> simp <;> omega
theorem zwx {p q:Rat} (hp:Qd p) (hq:Qd q):Pure Tryz.prog B 99 [.str (qg p),.str (qg q)] (· = .str (qg (p-q))):=by
 refine zT λh nx K H0 hK=>zM zQ yA 100 λhf => ?_;have tq:=hq.txt;rw [F99.go,F99.t3,zA,F99.zw,zA,F99.zu];refine zww (by omega) _ _ _ _ ?_;rintro _ rfl _;refine zwv hp hq.neg _ _ _ _ ?_;rintro _ rfl _;simp only [zF,zN];rw [F99.ret];exact hK _ _ _ _ _ H0 (zV rfl) (by rw [Zfi])
theorem zcm {p:Rat} (hp:Qd p) (h0:p≠0):Pure Tryz.prog B 203 [.str (qg p)] (· = .str (qg p⁻¹)):=by
 refine zT λh nx K H0 hK=>zM zQ yA 100 λhf => ?_;rw [cO.go,cO.t5,zA,cO.zw,zA,cO.zu];refine zqn (k:=1) (by decide) hp.z9.1 hp.z9.2 _ _ _ _ ?_;rintro _ rfl _;rw [jD,jC];refine H0.alloc λp1 h1 nx1 H1 => ?_;refine H1.alloc λp2 h2 nx2 H2 => ?_;refine H2.jb (l2:=[.bool (decide (p.num<0)),vw (dg 1000000000 p.num.natAbs)]) (k:=1) rfl rfl rfl λh3 H3 => ?_;refine H3.jb (l2:=[.bool (decide ((p.den:Int)<0)),vw (dg 1000000000 (p.den:Int).natAbs)]) (k:=0) rfl rfl rfl λh4 H4 => ?_;rw [zA,cO.jd,H4.zm (k:=0) (n:=2) rfl rfl,H4.zm (k:=1) (n:=2) rfl rfl,<- xW,<- xW];refine zhi (k:=1) (by decide) hp.z9.2 hp.z9.1 (λe=>h0 (Rat.num_eq_zero.1 e)) hp.1 _ _ _ _ ?_;rintro _ rfl _;simp only [zF,zN];rw [cO.ret];exact hK _ _ _ _ _ H4 (zV rfl) (by rw [<- Rat.inv_def])
theorem zdm {q:Rat}:Pure Tryz.prog B 39 [.str (qg q)] (· = .bool (decide (q=0))):=by
 refine zT λh nx K H0 hK=>zM zQ yA 100 λhf => ?_;rw [F39.go,F39.t3,zA,F39.zw,zA,F39.zu,zuz];simp only [zF,zN];rw [F39.ret];exact hK _ _ _ _ _ H0 (zV rfl) (by congr 1;exact decide_eq_decide.2 aj)
abbrev T9 (q:Rat):AV:=.str (qg q)
def gS (l:List Rat):AV:=.lst 1 l.length (l.map T9)
def wL (M:List (List Rat)):AV:=.lst 1 M.length (M.map gS)
def rv9 (w:Nat) (r:Pa):AV:=.sl r 0 w none 1
def yS (rs:List Pa) (M:List (List Rat)):List Ob:=List.zipWith (λr l=>Ob.arr r (l.map T9)) rs M
theorem wF {rs:List Pa} {M:List (List Rat)} {r:Pa} {l:List Rat} (h:rs.length=M.length):yS (rs++[r]) (M++[l])=yS rs M++[.arr r (l.map T9)]:=by
 unfold yS;rw [Zgk h];rfl
theorem zkz (l:List Rat):(l.map T9).all uo=true:=by simp [Zaw,uo]
theorem zwy {M:List (List Rat)} {w:Nat} {h0 h:T Blk} {nx p0:Pa} {K:Kw Prop} (H0:Hp h0 h nx []) (hw:1<=w) (hws:w<=1000000) (hM:∀ l∈M,l.length=w) (hMs:M.length<=100000)
  (hK:∀ (o:Option Pa) (rs:List Pa) (h':T Blk) (nx':Pa),rs.length=M.length->Hp h0 h' nx' (.gro o 1 M.length (rs.map (rv9 w))::yS rs M)->K (cu o 1 M.length) h' nx'=.ok True) :
  (CS Tryz.prog B).fn 256 p0 [wL M] h nx K=.ok True:=by
 refine uO (p:=.of 256) (K:=K) (zM zQ yA 100010 λhf => ?_) λ_ _ _ _ q=>q;rw [gu.go,gu.t18,zA,gu.zw,zA,gu.zu,zA,zA,gu.jd,zI];refine gu.oN (λm x2 x3 h' nx'=>∃ (i:Nat) (o:Option Pa) (rs:List Pa),x2=cu o 1 i/\x3=I (i:Int)/\m+i=M.length/\rs.length=i/\Hp h0 h' nx' (.gro o 1 i (rs.map (rv9 w))::yS rs (M.take i))) (m:=M.length) (by omega) ⟨0,none,[],rfl,rfl,rfl,rfl,H0.sw 1⟩ ?_;rintro m z2 z3 z4 h3 nx3 R ⟨i,o,rs,rfl,rfl,hm,hrs,H3⟩ hR;rw [gu.t10,zA,zA,gu.pu,wL,zX,jk];by_cases c:i<M.length
 .have er:=List.getElem?_eq_getElem c;have hl:=hM M[i] (Zav c);have zz4:(M.map gS)[i]? = some (gS M[i]):=by rw [List.getElem?_map,er];rfl
  rw [Zac (by omega),zB,gu.v4,zD,zE,zA,zI,gu.ku];refine H3.dz (l:=[]) rfl λe h4 nx4 H4 => ?_;rw [fF (i:=i) rfl c,ldL zz4];refine H4.appE (new:=M[i].map T9) (c:=w) (λno K'=>by rw [gS,hl];rfl) (by simp [hl]) (zkz _) (by decide) hw hws λid h5 nx5 H5 => ?_;have H6:=H5.af.perm (.swap _ _ _);refine H6.aB (v:=rv9 w id) (by omega) (by decide) rfl rfl λo' h7 nx7 H7 => ?_;rw [gu.fE,ug (by omega)];refine hR (m-1) _ _ _ _ _ (by omega) ⟨i+1,o',rs++[id],rfl,by congr 1,by omega,by simp [hrs],?_⟩;have ht:M.take (i+1)=M.take i++[M[i]]:=by rw [Zat,er];rfl
  rw [ht,wF (by rw [Zai];omega),Zaz];exact H7.perm ((Zdl _ _).symm.cons _)
 .obtain rfl:i=M.length:=by omega
  rw [Zaq (by omega)] at H3;rw [Zab (by omega),zB,gu.v4,zC,zW,yD,zA,gu.nT];simp only [zF,zN];rw [gu.ret];exact hK o rs _ _ hrs H3
def zk0 (c:UInt8):Nat:=c.toNat-48
theorem zml {x:Nat} (h:x<10):zk0 (dch x)=x:=by unfold zk0;rw [zey h];omega
theorem zhl (n w:Nat):bv 10 ((qx n w).map zk0).reverse=n:=by
 have e:((qx n w).map zk0).reverse=nW n w:=by
  unfold qx;rw [List.map_map,<- List.map_reverse,Zew]
  conv=>rhs;rw [<- List.map_id (nW n w)]
  exact Zfb λx hx=>zml (xY n w x hx)
 rw [e,mA]
theorem zhm {n m w:Nat} (h:qx n w=qx m w):n=m:=by rw [<- zhl n w,h,zhl]
theorem zhn {a b:Int} (h:mg a=mg b):a=b:=by
 have key:∀ {a b:Int},a<0->¬ b<0->mg a≠mg b:=λ{a b} h1 h2 e=>by
  unfold mg at e;rw [if_pos h1,if_neg h2,Zbl] at e;have hm:(45:UInt8)∈qx b.natAbs 1:=by rw [<- e];simp
  exact (dW hm).2 rfl
 by_cases h1:a<0
 .by_cases h2:b<0
  .unfold mg at h;rw [if_pos h1,if_pos h2] at h;have:=zhm (List.append_cancel_left h);omega
  .exact absurd h (key h1 h2)
 .by_cases h2:b<0
  .exact absurd h.symm (key h2 h1)
  .unfold mg at h;rw [if_neg h1,if_neg h2,Zbl,Zbl] at h;have:=zhm h;omega
theorem zz5 {a b c d:List UInt8} (ha:∀ x∈a,x≠47) (hb:∀ x∈b,x≠47) (hc:c=[]\/∃ l,c=47::l) (hd:d=[]\/∃ l,d=47::l) (h:a++c=b++d):a=b/\c=d:=by
 have tw:∀ {a c:List UInt8},(∀ x∈a,x≠47)->(c=[]\/∃ l,c=47::l)->(a++c).takeWhile (· != 47)=a:=λ{a c} ha hc=>by
  rw [List.takeWhile_append_of_pos λx hx=>by simpa using ha x hx];rcases hc with rfl | ⟨l,rfl⟩ <;> simp
 have e:=congrArg (List.takeWhile (· != 47)) h;rw [tw ha hc,tw hb hd] at e;subst e;exact ⟨rfl,List.append_cancel_left h⟩
theorem zqq {p q:Rat} (h:qg p=qg q):p=q:=by
 unfold qg at h;have sh:∀ q:Rat,(if q.den=1 then [] else 47::mg (q.den:Int))=[]\/∃ l,(if q.den=1 then [] else 47::mg (q.den:Int))=47::l:=λq=>by
  split
  .exact .inl rfl
  .exact .inr ⟨_,rfl⟩
 obtain ⟨h1,h2⟩:=zz5 (λx hx=>dR hx) (λx hx=>dR hx) (sh p) (sh q) h;refine Rat.ext (zhn h1) ?_;split at h2 <;> split at h2
 .omega
 .cases h2
 .cases h2
 .have:=zhn (List.cons.inj h2).2;omega
theorem zwz {a b:List UInt8} {K:AV->OP}:zb .neq .str (.str a) (.str b) K=K (.bool (!decide (a=b))):=by
 have e:zb .neq .str (.str a) (.str b) K=K (.bool (!gN a b)):=nr rfl;rw [e];by_cases c:a=b
 .rw [Zac c,mh.2 c]
 .rw [Zab c];cases q:gN a b with
  | true=>exact absurd (mh.1 q) c
  | false=>rfl
theorem zjd {p q:List Rat} (hp:p.length<=1000000):Pure Tryz.prog B 29 [gS p,gS q] (· = .bool (decide (p=q))):=by
 refine zT λh nx K H0 hK=>zM zQ yA 1000010 λhf => ?_;have ret:∀ {b:Bool},b=decide (p=q)->K (.bool b) h nx=.ok True:=λe=>hK _ _ _ _ _ H0 (zV rfl) (by rw [e]);rw [F29.go,F29.t26,zA,F29.zw,zA,zA,F29.zu,gS,gS,zX,zX,bq,zB,F29.v4];by_cases c:p.length=q.length
 case neg =>
  rw [Zab (by omega),Zan,zD,zA,F29.jd];simp only [zF,zN];rw [F29.ret];exact ret (Zab λe=>c (by rw [e])).symm
 rw [Zac (by omega),Zap,zC,zE,zA,zA,F29.ku,zI];refine F29.zmy (λm x3 h' nx'=>∃ i:Nat,x3=I (i:Int)/\m+i=p.length/\p.take i=q.take i/\h'=h/\nx'=nx) (m:=p.length) (by omega) ⟨0,rfl,rfl,rfl,rfl,rfl⟩ ?_;rintro m z2 z3 z5 z6 h3 nx3 R ⟨i,rfl,hm,ht,rfl,rfl⟩ hR;rw [F29.t18,zA,zA,F29.fe,zX,jk,zB,F29.v5];by_cases ci:i<p.length
 .have ep:=List.getElem?_eq_getElem ci;have eq:=List.getElem?_eq_getElem (show i<q.length by omega);have e1:(p.map T9)[i]? = some (T9 p[i]):=by rw [List.getElem?_map,ep];rfl
  have e2:(q.map T9)[i]? = some (T9 q[i]):=by rw [List.getElem?_map,eq];rfl
  rw [Zac (by omega),zD,zE,zA,zI,zA,F29.nX,fF (i:=i) rfl ci,ldL e1,fF (i:=i) rfl (by omega),ldL e2,zwz,zB,F29.v6];by_cases d:p[i]=q[i]
  .rw [Zac (by rw [d]),Zap,zC,zE,F29.rG,ug (by omega)];refine hR (m-1) _ _ _ _ _ _ (by omega) ⟨i+1,by congr 1,by omega,?_,rfl,rfl⟩;rw [Zat,Zat,ep,eq,ht,d]
  .rw [Zab (λe=>d (zqq e)),Zan,zD,zA,F29.dx];simp only [zF,dB,zN];rw [F29.ret];refine ret (Zab λe=>d ?_).symm;subst e
   rfl
 .rw [Zab (by omega),zC,zW,yD,zA,F29.rW];simp only [zF,zN];rw [F29.ret];rw [Zaq (by omega),Zaq (by omega)] at ht;exact ret (Zac ht).symm
theorem uM {rs:List Pa} {M:List (List Rat)} {y:Nat} {r:Pa} {l:List Rat} (hr:rs[y]? = some r) (hl:M[y]? = some l):(yS rs M)[y]? = some (.arr r (l.map T9)):=by
 unfold yS;rw [List.getElem?_zipWith,hr,hl]
theorem zb9:∀ {rs:List Pa} {M:List (List Rat)} {y:Nat} {r:Pa} {l:List Rat},rs[y]? = some r->(yS rs M).set y (.arr r (l.map T9))=yS rs (M.set y l)
 | [],_,_,_,_,h=>by simp at h
 | _::_,[],y,_,_,_=>by simp [yS]
 | a::rs,m::M,0,r,l,h=>by
  simp at h;subst h
  rfl
 | a::rs,m::M,y+1,r,l,h=>by
  have:=zb9 (rs:=rs) (M:=M) (y:=y) (r:=r) (l:=l) (by simpa using h);unfold yS at this ⊢;simp only [Zfu,Zfk];rw [this]
theorem xI {α:Type} {a b:List α} {i:Nat} {x:α} (h:a[i]? = some x):(a++b)[i]? = some x:=by
 rw [List.getElem?_append_left (List.getElem?_eq_some_iff.1 h).1];exact h
def PM (h0 h:T Blk) (nx tid:Pa) (rs:List Pa) (w:Nat) (L:List Ob) (M:List (List Rat)):Prop :=
 rs.length=M.length/\(∀ l∈M,l.length=w)/\Hp h0 h nx (.arr tid (rs.map (rv9 w))::(yS rs M++L))
theorem PM.tab {h0 h:T Blk} {nx tid:Pa} {rs:List Pa} {L:List Ob} {w:Nat} {M:List (List Rat)} (H:PM h0 h nx tid rs w L M) {y:Nat} (hy:y<M.length):∃ r,rs[y]? = some r/\∀ op:AV->OP,zH (.ptr tid y) h op=op (rv9 w r):=by
 obtain ⟨h1,_,h3⟩:=H;refine ⟨rs[y],List.getElem?_eq_getElem (by omega),λop => ?_⟩;exact h3.load (k:=0) rfl (by rw [List.getElem?_map,List.getElem?_eq_getElem (show y<rs.length by omega)];rfl)
theorem PM.cell {h0 h:T Blk} {nx tid:Pa} {rs:List Pa} {L:List Ob} {w:Nat} {M:List (List Rat)} (H:PM h0 h nx tid rs w L M) {y c:Nat} {r:Pa} {l:List Rat} {q:Rat} (hr:rs[y]? = some r) (hl:M[y]? = some l) (hq:l[c]? = some q) (op:AV->OP):zH (.ptr r c) h op=op (T9 q) :=
 H.2.2.load (k:=y+1) (by rw [List.getElem?_cons_succ];exact xI (uM hr hl)) (by rw [List.getElem?_map,hq];rfl)
theorem PM.put {h0 h:T Blk} {nx tid:Pa} {rs:List Pa} {L:List Ob} {w:Nat} {M:List (List Rat)} (H:PM h0 h nx tid rs w L M) {y c:Nat} {r:Pa} {l:List Rat} {q:Rat} {K:Kw Prop} (hr:rs[y]? = some r) (hl:M[y]? = some l) (hc:c<l.length)
  (hK:∀ h',PM h0 h' nx tid rs w L (M.set y (l.set c q))->K .u h' nx=.ok True):zS 1 (.ptr r c) (T9 q) h nx K=.ok True:=by
 obtain ⟨h1,h2,h3⟩:=H;have hy:=(List.getElem?_eq_some_iff.1 hl).1;refine h3.store (k:=y+1) (by rw [List.getElem?_cons_succ];exact xI (uM hr hl)) (by simpa using hc) rfl λh' H'=>hK h' ⟨by rw [Zas];exact h1,λl' hl' => ?_,?_⟩
 .rcases Zbs hl' with e | e
  .exact h2 _ e
  .rw [e,Zas];exact h2 _ (Zad hl)
 .have hyl:=(List.getElem?_eq_some_iff.1 (uM hr hl)).1;rw [Zfk,<- Zfm,List.set_append_left _ _ hyl,zb9 hr] at H';exact H'
theorem zho {l:List Rat} {s:Rat} {c:Nat} {q:Rat} (hq:l[c]? = some q):((l.take c).map (· * s)++l.drop c).set c (q*s)=(l.take (c+1)).map (· * s)++l.drop (c+1):=by
 have hc:=(List.getElem?_eq_some_iff.1 hq).1;have e:l.drop c=q::l.drop (c+1):=by
  rw [List.getElem?_eq_getElem hc] at hq;rw [Zbg hc,Option.some.inj hq]
 rw [e,dH (by rw [Zah,Zai];omega),Zat,hq];simp
theorem zje {l:List Rat} {s:Rat} {c:Nat} {q:Rat} (hq:l[c]? = some q):((l.take c).map (· * s)++l.drop c)[c]? = some q:=by
 have hc:=(List.getElem?_eq_some_iff.1 hq).1;rw [List.getElem?_append_right (by rw [Zah,Zai];omega),Zah,Zai,List.getElem?_drop,show c+(c-min c l.length)=c by omega];exact hq
theorem zw0 {M:List (List Rat)} {l:List Rat} {tid:Pa} {rs:List Pa} {L:List Ob} {w y N:Nat} {s:Rat} {h0 h:T Blk} {nx:Pa} {O:fD Prop} {Kf K2:Ks Prop} {x1 x2 x3 x4 x5 x9 x10 x11 x12 x13 x14 x15 x16 x17 x18:AV}
  (H:PM h0 h nx tid rs w L M) (hl:M[y]? = some l) (hM:M.length<=100000) (hw:w<=100000) (hN:100010<=N) (hs:Qd s) (hq:∀ q∈l,Qd q)
  (hK:∀ (h':T Blk) (x15:AV),PM h0 h' nx tid rs w L (M.set y (l.map (· * s)))->Kf (ze.fr (.sl tid 0 M.length none 1) x1 x2 x3 x4 x5 (I (y:Int)) (.str (qg s)) (I (w:Int)) x9 x10 x11 x12 x13 x14 x15 x16 x17 x18) h' nx=.ok True) :
  IR.run ze.t31 (CS Tryz.prog B) N (O.blk 4 Kf) K2 (ze.fr (.sl tid 0 M.length none 1) x1 x2 x3 x4 x5 (I (y:Int)) (.str (qg s)) (I 0) x9 x10 x11 x12 x13 x14 x15 x16 x17 x18) h nx=.ok True:=by
 have hy:=(List.getElem?_eq_some_iff.1 hl).1;have hlw:=H.2.1 l (Zad hl)
 refine ze.zmv (λm x8 h' nx'=>∃ c:Nat,x8=I (c:Int)/\m+c=w/\nx'=nx/\PM h0 h' nx tid rs w L (M.set y ((l.take c).map (· * s)++l.drop c))) (m:=w) (by omega) ⟨0,rfl,rfl,rfl,by
  have e:M.set y ((l.take 0).map (· * s)++l.drop 0)=M:=by
   simp only [Zds,List.map_nil,Zbl,Zcs];refine Zbm λi => ?_;rw [List.getElem?_set];split
   .rename_i e;subst e;rw [hl]
   .rfl
  rw [e];exact H⟩ ?_
 rintro m z8 z15 h3 nx3 R ⟨c,rfl,hm,rfl,H3⟩ hR;have hy3:y<(M.set y ((l.take c).map (· * s)++l.drop c)).length:=by rw [Zas];exact hy
 have hMl:(M.set y ((l.take c).map (· * s)++l.drop c)).length=M.length:=Zas;have hrow:(M.set y ((l.take c).map (· * s)++l.drop c))[y]? = some ((l.take c).map (· * s)++l.drop c):=by rw [List.getElem?_set_self hy]
 obtain ⟨r,hr,ht⟩:=H3.tab hy3;rw [ze.t30,zA,zA,ze.zff,sIx (i:=y) rfl hy,ht,rv9,yH,jk,zB,ze.v15];by_cases ci:c<w
 .have hc:l[c]? = some l[c]:=List.getElem?_eq_getElem (by omega);have hcell:=λop=>H3.cell hr hrow (zje hc) op;rw [Zac (by omega),zD,zE,zA,zI,ze.eY,sIx (i:=y) rfl hy,ht,sIx (i:=y) rfl hy,ht,rv9,sIx (i:=c) rfl ci,hcell];refine zqp (hq _ (Zav (by omega))) hs _ _ _ _ ?_;rintro _ rfl _;rw [zG,ht,rv9,zG,sIx (i:=y) rfl hy];simp only [zG];rw [sIx (i:=c) rfl ci];refine H3.put (q:=l[c]*s) hr hrow (by rw [Zae,Zah,Zai,Zcd];omega) λh4 H4 => ?_;rw [Zda,zho hc] at H4;rw [ze.zfc,ug (by omega)];exact hR (m-1) _ _ _ _ (by omega) ⟨c+1,by congr 1,by omega,rfl,H4⟩
 .obtain rfl:c=w:=by omega
  rw [Zaq (by omega),Zbr (by omega),Zbh] at H3;rw [Zab (by omega),zC,zW,yD];exact hK _ _ H3
def wJ (f:Rat) (a b:List Rat):List Rat:=List.zipWith (λx y=>x-f*y) a b
theorem zca {M:List (List Rat)} {y:Nat} {l:List Rat} (hl:M[y]? = some l):M.set y l=M:=by
 have hy:=(List.getElem?_eq_some_iff.1 hl).1;refine Zbm λi => ?_;rw [List.getElem?_set];split
 .rename_i e;subst e;rw [hl]
 .rfl
theorem zqr {l e:List Rat} {c:Nat} {q:Rat} (hle:e.length=l.length) (hq:l[c]? = some q):(e.take c++l.drop c)[c]? = some q:=by
 have hc:=(List.getElem?_eq_some_iff.1 hq).1;rw [List.getElem?_append_right (by rw [Zai];omega),Zai,List.getElem?_drop,show c+(c-min c e.length)=c by omega];exact hq
theorem zmm {l e:List Rat} {c:Nat} {q:Rat} (hle:e.length=l.length) (hq:e[c]? = some q):(e.take c++l.drop c).set c q=e.take (c+1)++l.drop (c+1):=by
 have hc:=(List.getElem?_eq_some_iff.1 hq).1;rw [Zbg (show c<l.length by omega),dH (by rw [Zai];omega),Zat,hq];simp
theorem zz6 {M:List (List Rat)} {ly lr:List Rat} {tid:Pa} {rs:List Pa} {L:List Ob} {w y r N:Nat} {f:Rat} {h0 h:T Blk} {nx:Pa} {O:fD Prop} {Kf K2:Ks Prop} {x1 x2 x3 x4 x5 x7 x8 x12 x13 x14 x15 x16 x17 x18:AV}
  (H:PM h0 h nx tid rs w L M) (hly:M[y]? = some ly) (hlr:M[r]? = some lr) (hyr:y≠r) (hM:M.length<=100000) (hw:w<=100000) (hN:100010<=N) (hf:Qd f) (hqy:∀ q∈ly,Qd q) (hqr:∀ q∈lr,Qd q) (hqp:∀ q∈lr,Qd (f*q))
  (hK:∀ (h':T Blk) (x18:AV),PM h0 h' nx tid rs w L (M.set y (wJ f ly lr))->Kf (ze.fr (.sl tid 0 M.length none 1) x1 x2 x3 x4 x5 (I (r:Int)) x7 x8 (I (y:Int)) (.str (qg f)) (I (w:Int)) x12 x13 x14 x15 x16 x17 x18) h' nx=.ok True) :
  IR.run ze.t51 (CS Tryz.prog B) N (O.blk 8 Kf) K2 (ze.fr (.sl tid 0 M.length none 1) x1 x2 x3 x4 x5 (I (r:Int)) x7 x8 (I (y:Int)) (.str (qg f)) (I 0) x12 x13 x14 x15 x16 x17 x18) h nx=.ok True:=by
 have hy:=(List.getElem?_eq_some_iff.1 hly).1;have hr0:=(List.getElem?_eq_some_iff.1 hlr).1;have hlw:=H.2.1 ly (Zad hly);have hlw2:=H.2.1 lr (Zad hlr);have hE:(wJ f ly lr).length=ly.length:=by unfold wJ;rw [Zcp];omega
 refine ze.zxp (λm x11 h' nx'=>∃ c:Nat,x11=I (c:Int)/\m+c=w/\nx'=nx/\PM h0 h' nx tid rs w L (M.set y ((wJ f ly lr).take c++ly.drop c))) (m:=w) (by omega) ⟨0,rfl,rfl,rfl,by
  rw [Zds,Zbl,Zcs,zca hly];exact H⟩ ?_
 rintro m z11 z18 h3 nx3 R ⟨c,rfl,hm,rfl,H3⟩ hR;have hl3:(M.set y ((wJ f ly lr).take c++ly.drop c)).length=M.length:=Zas;have hrow:(M.set y ((wJ f ly lr).take c++ly.drop c))[y]? = some ((wJ f ly lr).take c++ly.drop c):=by rw [List.getElem?_set_self hy]
 have hrow2:(M.set y ((wJ f ly lr).take c++ly.drop c))[r]? = some lr:=by rw [List.getElem?_set_ne hyr];exact hlr
 obtain ⟨ry,hry,hty⟩:=H3.tab (y:=y) (by omega);obtain ⟨rr,hrr,htr⟩:=H3.tab (y:=r) (by omega);rw [ze.t50,zA,zA,ze.zfk,sIx (i:=y) rfl hy,hty,rv9,yH,jk,zB,ze.v18];by_cases ci:c<w
 .have hc:ly[c]? = some ly[c]:=List.getElem?_eq_getElem (by omega);have hc2:lr[c]? = some lr[c]:=List.getElem?_eq_getElem (by omega);have hce:(wJ f ly lr)[c]? = some (ly[c]-f*lr[c]):=by unfold wJ;rw [List.getElem?_zipWith,hc,hc2]
  have cy:=λop=>H3.cell hry hrow (zqr hE hc) op;have cr:=λop=>H3.cell hrr hrow2 hc2 op;have mr:=Zav (l:=lr) (n:=c) (by omega);rw [Zac (by omega),zD,zE,zA,zI,ze.zmz,sIx (i:=y) rfl hy,hty,sIx (i:=y) rfl hy,hty,rv9,sIx (i:=c) rfl ci,cy,sIx (i:=r) rfl hr0,htr,rv9,sIx (i:=c) rfl ci,cr];refine zqp hf (hqr _ mr) _ _ _ _ ?_;rintro _ rfl _;rw [cy,zG,sIx (i:=c) rfl ci];simp only [zG];rw [hty,rv9,zG,sIx (i:=y) rfl hy];simp only [zG];rw [hty,rv9,zG,sIx (i:=y) rfl hy];simp only [zG];refine zwx (hqy _ (Zav (by omega))) (hqp _ mr) _ _ _ _ ?_;rintro _ rfl _;rw [hty,rv9,zG,sIx (i:=y) rfl hy];simp only [zG];rw [sIx (i:=c) rfl ci];refine H3.put (q:=ly[c]-f*lr[c]) hry hrow (by rw [Zae,Zai,Zcd];omega) λh4 H4 => ?_;rw [Zda,zmm hE hce] at H4;rw [ze.zfl,ug (by omega)];exact hR (m-1) _ _ _ _ (by omega) ⟨c+1,by congr 1,by omega,rfl,H4⟩
 .obtain rfl:c=w:=by omega
  rw [Zaq (by omega),Zbr (by omega),Zbh] at H3;rw [Zab (by omega),zC,zW,yD];exact hK _ _ H3
def vB (r j:Nat) (lr:List Rat) (i:Nat) (l:List Rat):List Rat:=if i=r then l else wJ (l.getD j 0) l lr
def au (r j:Nat) (lr:List Rat) (M:List (List Rat)):List (List Rat):=M.mapIdx (vB r j lr)
theorem zjf {a b:List Rat} (h:a.length=b.length):wJ 0 a b=a:=by
 unfold wJ;refine Zbm λi => ?_;rw [List.getElem?_zipWith];by_cases c:i<a.length
 .rw [List.getElem?_eq_getElem c,List.getElem?_eq_getElem (show i<b.length by omega)];simp only [Zbj,Zfi,Option.some.injEq];exact Zdu _
 .rw [List.getElem?_eq_none (show a.length<=i by omega)]
theorem zcb {r j:Nat} {lr:List Rat} {M:List (List Rat)} {i:Nat} {l:List Rat} (h:M[i]? = some l):(au r j lr M)[i]? = some (vB r j lr i l):=by
 unfold au;rw [List.getElem?_mapIdx,h];rfl
theorem zmn {E M:List (List Rat)} {y:Nat} {l:List Rat} (hle:E.length=M.length) (hq:M[y]? = some l):(E.take y++M.drop y)[y]? = some l:=by
 have hc:=(List.getElem?_eq_some_iff.1 hq).1;rw [List.getElem?_append_right (by rw [Zai];omega),Zai,List.getElem?_drop,show y+(y-min y E.length)=y by omega];exact hq
theorem zjg {E M:List (List Rat)} {y:Nat} {l:List Rat} (hle:E.length=M.length) (hq:E[y]? = some l):(E.take y++M.drop y).set y l=E.take (y+1)++M.drop (y+1):=by
 have hc:=(List.getElem?_eq_some_iff.1 hq).1;rw [Zbg (show y<M.length by omega),dH (by rw [Zai];omega),Zat,hq];simp
theorem zmo {r j:Nat} {lr:List Rat} {M:List (List Rat)} {y:Nat} (hlr:M[r]? = some lr):((au r j lr M).take y++M.drop y)[r]? = some lr:=by
 have hE:(au r j lr M).length=M.length:=by unfold au;rw [Zfn]
 have hr:=(List.getElem?_eq_some_iff.1 hlr).1;by_cases c:r<y
 .rw [List.getElem?_append_left (by rw [Zai];omega),List.getElem?_take_of_lt c,zcb hlr,vB,if_pos rfl]
 .rw [List.getElem?_append_right (by rw [Zai];omega),Zai,List.getElem?_drop,show y+(r-min y (au r j lr M).length)=r by omega];exact hlr
theorem zz7 (op:KW3->OP) (h:T Blk) (nx:Pa) (k:KW3):sGW (.bool true) false op h nx k=k .u h nx:=nr rfl
theorem zw1 (op:KW3->OP) (h:T Blk) (nx:Pa) (k:KW3):sGW (.bool false) false op h nx k=op k:=nr rfl
theorem zw2 {M:List (List Rat)} {lr:List Rat} {tid:Pa} {rs:List Pa} {L:List Ob} {w r j N:Nat} {h0 h:T Blk} {nx:Pa} {O:fD Prop} {Kf K2:Ks Prop} {x1 x2 x3 x5 x7 x8 x10 x11 x12 x13 x14 x15 x16 x17 x18:AV}
  (H:PM h0 h nx tid rs w L M) (hlr:M[r]? = some lr) (hj:j<w) (hM:M.length<=100000) (hw:w<=100000) (hN:100010<=N) (hq:∀ l∈M,∀ q∈l,Qd q) (hqp:∀ l∈M,∀ q∈lr,Qd (l.getD j 0*q))
  (hK:∀ (h':T Blk) (x10 x11 x16 x17 x18:AV),PM h0 h' nx tid rs w L (au r j lr M)->Kf (ze.fr (.sl tid 0 M.length none 1) x1 x2 x3 (I (j:Int)) x5 (I (r:Int)) x7 x8 (I (M.length:Int)) x10 x11 x12 x13 x14 x15 x16 x17 x18) h' nx=.ok True) :
  IR.run ze.t60 (CS Tryz.prog B) N (O.blk 6 Kf) K2 (ze.fr (.sl tid 0 M.length none 1) x1 x2 x3 (I (j:Int)) x5 (I (r:Int)) x7 x8 (I 0) x10 x11 x12 x13 x14 x15 x16 x17 x18) h nx=.ok True:=by
 have hr0:=(List.getElem?_eq_some_iff.1 hlr).1;have hlw2:=H.2.1 lr (Zad hlr);have hE:(au r j lr M).length=M.length:=by unfold au;rw [Zfn]
 refine ze.zxr (λm x9 h' nx'=>∃ y:Nat,x9=I (y:Int)/\m+y=M.length/\nx'=nx/\PM h0 h' nx tid rs w L ((au r j lr M).take y++M.drop y)) (m:=M.length) (by omega) ⟨0,rfl,rfl,rfl,by
  rw [Zds,Zbl,Zcs];exact H⟩ ?_
 rintro m z9 z10 z11 z16 z17 z18 h3 nx3 R ⟨y,rfl,hm,rfl,H3⟩ hR;have hl3:((au r j lr M).take y++M.drop y).length=M.length:=by rw [Zae,Zai,Zcd];omega
 rw [ze.t59,zA,zA,ze.zfj,yH,jk,zB,ze.v16];by_cases cy:y<M.length
 case neg =>
  obtain rfl:y=M.length:=by omega
  rw [Zaq (by omega),Zbr (by omega),Zbh] at H3;rw [Zab (by omega),zC,zW,yD];exact hK _ _ _ _ _ _ H3
 have hly:M[y]? = some M[y]:=List.getElem?_eq_getElem cy;have hmy:=Zav cy;have hlw:=H.2.1 _ hmy;have hrow:=zmn hE hly;have hrow2:=zmo (j:=j) (y:=y) hlr;have hstep:=zjg hE (zcb (r:=r) (j:=j) (lr:=lr) hly);obtain ⟨ry,hry,hty⟩:=H3.tab (y:=y) (by omega);have hcj:M[y][j]? = some (M[y].getD j 0):=by
  rw [Zaa,List.getElem?_eq_getElem (show j<M[y].length by omega)];rfl
 have hc:=λop=>H3.cell hry hrow hcj op;have next:∀ {h4:T Blk} {x10 x11 x16 x17 x18:AV},PM h0 h4 nx3 tid rs w L ((au r j lr M).take (y+1)++M.drop (y+1))->ze.t57.run (CS Tryz.prog B) N (O.blk 6 Kf) R (ze.fr (.sl tid 0 M.length none 1) x1 x2 x3 (I (j:Int)) x5 (I (r:Int)) x7 x8 (I (y:Int)) x10 x11 x12 x13 x14 x15 x16 x17 x18) h4 nx3=.ok True:=by
  intro h4 x10 x11 x16 x17 x18 H4;rw [ze.zxq,ug (by omega)];exact hR (m-1) _ _ _ _ _ _ _ _ (by omega) ⟨y+1,by congr 1,by omega,rfl,H4⟩
 rw [Zac (by omega),zD,zE,zA,zI,zA,ze.zxn,sIx (i:=y) rfl cy,hty,rv9,sIx (i:=j) rfl hj,hc,zA,zA,ze.zxo,wm];by_cases e:y=r
 .have hsame:vB r j lr y M[y]=M[y]:=by rw [vB,if_pos e]
  rw [hsame,zca hrow] at hstep;rw [hstep] at H3;rw [Zac (by omega)];simp only [j5];rw [zz7];simp only [zY];rw [zB,ze.v17,zD,zW,yD];exact next H3
 rw [Zab (by omega)];simp only [jB];rw [zw1];refine zdm _ _ _ _ ?_;rintro _ rfl _;simp only [zZ];have hclr:vB r j lr y M[y]=wJ (M[y].getD j 0) M[y] lr:=by rw [vB,if_neg e]
 rw [hclr] at hstep;by_cases z:M[y].getD j 0=0
 .rw [z,zjf (by omega),zca hrow] at hstep;rw [hstep] at H3;rw [Zac z,zB,ze.v17,zD,zW,yD];exact next H3
 .rw [Zab z,zB,ze.v17,zC,zE,zA,ze.zco,zI,<- hl3];refine zz6 H3 hrow hrow2 e (by omega) hw hN (hq _ hmy _ (Zad hcj)) (hq _ hmy) (hq _ (Zad hlr)) (hqp _ hmy) λh4 x18 H4 => ?_;rw [hstep] at H4;rw [hl3];exact next H4
theorem zsu {M:List (List Rat)} {tid:Pa} {rs:List Pa} {L:List Ob} {w r j N:Nat} {h0 h:T Blk} {nx:Pa} {O:fD Prop} {Kf K2:Ks Prop} {x1 x2 x3 x6 x7 x8 x9 x10 x11 x12 x13 x14 x15 x16 x17 x18:AV}
  (H:PM h0 h nx tid rs w L M) (hr:r<=M.length) (hj:j<w) (hM:M.length<=100000) (hN:100010<=N)
  (hK:∀ (i:Nat) (x13:AV),r<=i->i<=M.length->(∀ i' l,r<=i'->i'<i->M[i']? = some l->l.getD j 0=0)->(∀ l,M[i]? = some l->l.getD j 0≠0)->Kf (ze.fr (.sl tid 0 M.length none 1) x1 x2 x3 (I (j:Int)) (I (i:Int)) x6 x7 x8 x9 x10 x11 x12 x13 x14 x15 x16 x17 x18) h nx=.ok True) :
  IR.run ze.t14 (CS Tryz.prog B) N (O.blk 2 Kf) K2 (ze.fr (.sl tid 0 M.length none 1) x1 x2 x3 (I (j:Int)) (I (r:Int)) x6 x7 x8 x9 x10 x11 x12 x13 x14 x15 x16 x17 x18) h nx=.ok True:=by
 refine ze.zmx (λm x5 h' nx'=>∃ i:Nat,x5=I (i:Int)/\m+i=M.length/\r<=i/\(∀ i' l,r<=i'->i'<i->M[i']? = some l->l.getD j 0=0)/\h'=h/\nx'=nx) (m:=M.length-r) (by omega) ⟨r,rfl,by omega,Zaf _,λ_ _ a b=>by omega,rfl,rfl⟩ ?_;rintro m z5 z13 h3 nx3 R ⟨i,rfl,hm,hri,hz,rfl,rfl⟩ hR;rw [ze.t13,zA,zA,ze.fE,ze.om,ze.eD,yH,jk];by_cases c:i<M.length
 case neg =>
  rw [Zab (by omega)];simp only [jH];rw [ze.r6_1,ze.tV];simp only [jH];rw [zem,ze.r6_2,ze.zdp];simp only [zZ];rw [zB,ze.v13,zC,zW,yD];exact hK i _ hri (by omega) hz λl hl=>by rw [List.getElem?_eq_none (by omega)] at hl;cases hl
 have hly:M[i]? = some M[i]:=List.getElem?_eq_getElem c;have hlw:=H.2.1 _ (Zav c);obtain ⟨ry,hry,hty⟩:=H.tab (y:=i) c;have hcj:M[i][j]? = some (M[i].getD j 0):=by
  rw [Zaa,List.getElem?_eq_getElem (show j<M[i].length by omega)];rfl
 have hc:=λop=>H.cell hry hly hcj op;rw [Zac (by omega)];simp only [yO];rw [sIx (i:=i) rfl c,ze.r6_1,ze.tV];simp only [yO];rw [hty];rw [rv9,sIx (i:=j) rfl hj,hc,zi6];refine zdm _ _ _ _ ?_;rintro _ rfl _;rw [ze.r6_2,ze.zdp];simp only [zY];by_cases z:M[i].getD j 0=0
 .rw [Zac z,zB,ze.v13,zD,zE,zI,ze.dx,ug (by omega)];refine hR (m-1) _ _ _ _ (by omega) ⟨i+1,by congr 1,by omega,by omega,λi' l h1 h2 h3 => ?_,rfl,rfl⟩;rcases Zcz i' i with q | q
  .exact hz i' l h1 q h3
  .obtain rfl:i'=i:=by omega
   rw [hly] at h3;cases h3
   exact z
 .rw [Zab z,zB,ze.v13,zC,zW,yD];exact hK i _ hri (by omega) hz λl hl=>by rw [hly] at hl;cases hl;exact z
theorem xR {α β γ:Type} (f:α->β->γ):∀ (l:List α) (m:List β) (i:Nat) (a:α) (b:β),List.zipWith f (l.set i a) (m.set i b)=(List.zipWith f l m).set i (f a b)
 | [],_,_,_,_=>by simp
 | _::_,[],_,_,_=>by simp
 | x::l,y::m,0,a,b=>rfl
 | x::l,y::m,i+1,a,b=>by simp only [Zfk,Zfu,xR f l m i a b]
theorem zhp {rs:List Pa} {M:List (List Rat)} {i r:Nat} {pi pr:Pa} {li lr:List Rat} (h1:rs[i]? = some pi) (h2:rs[r]? = some pr) (h3:M[i]? = some li) (h4:M[r]? = some lr) :
  (yS ((rs.set i pr).set r pi) ((M.set i lr).set r li)).Perm (yS rs M):=by
 unfold yS;rw [xR,xR];have e1:(List.zipWith (λr l=>Ob.arr r (l.map T9)) rs M)[i]? = some (.arr pi (li.map T9)):=uM h1 h3;have e2:(List.zipWith (λr l=>Ob.arr r (l.map T9)) rs M)[r]? = some (.arr pr (lr.map T9)):=uM h2 h4
 generalize List.zipWith (λr l=>Ob.arr r (l.map T9)) rs M=Z at *
 have l1:=(List.getElem?_eq_some_iff.1 e1);have l2:=(List.getElem?_eq_some_iff.1 e2);obtain ⟨k1,k2⟩:=l1;obtain ⟨k3,k4⟩:=l2;rw [<- k2,<- k4];exact List.set_set_perm k1 k3
theorem zz8 {M:List (List Rat)} {tid:Pa} {rs:List Pa} {L:List Ob} {w i r:Nat} {li lr:List Rat} {h0 h:T Blk} {nx:Pa} {K:Kw Prop} (H:PM h0 h nx tid rs w L M) (h3:M[i]? = some li) (h4:M[r]? = some lr)
  (hK:∀ (h':T Blk) (rs':List Pa),PM h0 h' nx tid rs' w L ((M.set i lr).set r li)->K .u h' nx=.ok True) :
  (zK 1 (.sl tid 0 M.length none 1) (I (r:Int)) λv1=>zH v1 h λv2=>zK 1 (.sl tid 0 M.length none 1) (I (i:Int)) λv3=>zH v3 h λv4=>zK 1 (.sl tid 0 M.length none 1) (I (i:Int)) λv5=>zS 1 v5 v2 h nx λ_ h7 n8=>zO (I (r:Int)) (I (r:Int)) (zO (.sl tid 0 M.length none 1) (.sl tid 0 M.length none 1) (zK 1 (.sl tid 0 M.length none 1) (I (r:Int)) λv9=>zS 1 v9 v4 h7 n8 K)))=.ok True:=by
 have hi:=(List.getElem?_eq_some_iff.1 h3).1;have hr:=(List.getElem?_eq_some_iff.1 h4).1;obtain ⟨pr,hpr,tr⟩:=H.tab (y:=r) hr;obtain ⟨pi,hpi,ti⟩:=H.tab (y:=i) hi;obtain ⟨g1,g2,g3⟩:=H;rw [sIx (i:=r) rfl hr,tr,sIx (i:=i) rfl hi,ti,sIx (i:=i) rfl hi];refine g3.store (k:=0) rfl (by rw [Zah];omega) rfl λh5 H5 => ?_;simp only [zG];rw [sIx (i:=r) rfl hr];refine H5.store (k:=0) rfl (by rw [Zas,Zah];omega) rfl λh6 H6 => ?_;simp only [Zfj] at H6;rw [<- Zfm,<- Zfm] at H6;refine hK h6 ((rs.set i pr).set r pi) ⟨by simp [g1],λl hl => ?_,H6.perm (((zhp hpi hpr h3 h4).symm.append_right _).cons _)⟩;rcases Zbs hl with e | e
 .rcases Zbs e with e | e
  .exact g2 _ e
  .rw [e];exact g2 _ (Zad h4)
 .rw [e];exact g2 _ (Zad h3)
def aR (i r j:Nat) (li lr:List Rat) (M:List (List Rat)):List (List Rat) :=
 let row:=li.map (· * (li.getD j 0)⁻¹)
 au r j row (((M.set i lr).set r li).set r row)
theorem zw3 {M:List (List Rat)} {P:List Nat} {li lr:List Rat} {o:Option Pa} {tid:Pa} {rs:List Pa} {w i j N:Nat} {h0 h:T Blk} {nx:Pa} {O:fD Prop} {R:Ks Prop} {x1 x2 x6 x7 x8 x9 x10 x11 x12 x13 x14 x15 x16 x17 x18:AV}
  (H:PM h0 h nx tid rs w [.gro o 1 P.length (P.map D)] M) (hli:M[i]? = some li) (hlr:M[P.length]? = some lr) (hz:li.getD j 0≠0) (hj:j<w) (hM:M.length<=100000) (hw:w<=100000) (hN:100010<=N)
  (hq:∀ l∈M,∀ q∈l,Qd q) (hs:Qd (li.getD j 0)⁻¹) (hrow:∀ q∈li.map (· * (li.getD j 0)⁻¹),Qd q) (hqp:∀ l∈((M.set i lr).set P.length li).set P.length (li.map (· * (li.getD j 0)⁻¹)),∀ q∈li.map (· * (li.getD j 0)⁻¹),Qd (l.getD j 0*q)) (hP:P.length<100000)
  (hK:∀ (o':Option Pa) (rs':List Pa) (h':T Blk) (nx':Pa) (x5 x6 x7 x8 x9 x10 x11 x12 x13 x14 x15 x16 x17 x18:AV),PM h0 h' nx' tid rs' w [.gro o' 1 (P.length+1) ((P++[j]).map D)] (aR i P.length j li lr M)->R (ze.fr (.sl tid 0 M.length none 1) x1 x2 (cu o' 1 (P.length+1)) (I (j:Int)) x5 x6 x7 x8 x9 x10 x11 x12 x13 x14 x15 x16 x17 x18) h' nx'=.ok True) :
  IR.run ze.t69 (CS Tryz.prog B) N O R (ze.fr (.sl tid 0 M.length none 1) x1 x2 (cu o 1 P.length) (I (j:Int)) (I (i:Int)) x6 x7 x8 x9 x10 x11 x12 x13 x14 x15 x16 x17 x18) h nx=.ok True:=by
 have hi:=(List.getElem?_eq_some_iff.1 hli).1;have hlen:∀ KK:AV->OP,sLen (cu o 1 P.length) KK=KK (I (P.length:Int)):=λKK=>by
  cases o with
  | some id=>exact yH ..
  | none =>
   obtain ⟨_,e⟩:P.map D=[]/\P.length=0:=H.2.2.own (.gro none 1 P.length (P.map D)) (by simp);rw [e];exact yJ ..
 rw [ze.t69,zA,zA,ze.rG,yH,wm,Zab (by omega),zB,ze.v14,zC,zE,zA,ze.rH,hlen,zA,ze.sQ];refine zz8 H hli hlr λh1 rs1 H1 => ?_;have hl1:((M.set i lr).set P.length li).length=M.length:=by rw [Zas,Zas]
 have hr:=(List.getElem?_eq_some_iff.1 hlr).1;have zu0:((M.set i lr).set P.length li)[P.length]? = some li:=List.getElem?_set_self (by rw [Zas];exact hr);have hlw:=H.2.1 _ (Zad hli);obtain ⟨r1,hr1,ht1⟩:=H1.tab (y:=P.length) (by omega);have hcj:li[j]? = some (li.getD j 0):=by
  rw [Zaa,List.getElem?_eq_getElem (show j<li.length by omega)];rfl
 have hc:=λop=>H1.cell hr1 zu0 hcj op;rw [zA,ze.oM,sIx (i:=P.length) rfl hr,ht1,rv9,sIx (i:=j) rfl hj,hc];refine zcm (hq _ (Zad hli) _ (Zad hcj)) hz _ _ _ _ ?_;rintro _ rfl _;rw [zA,zA,ze.rW,zI,<- hl1];refine zw0 H1 zu0 (by omega) hw hN hs (hq _ (Zad hli)) λh2 y15 H2 => ?_;have hl2:(((M.set i lr).set P.length li).set P.length (li.map (· * (li.getD j 0)⁻¹))).length=((M.set i lr).set P.length li).length:=Zas;have hrow2:(((M.set i lr).set P.length li).set P.length (li.map (· * (li.getD j 0)⁻¹)))[P.length]? = some (li.map (· * (li.getD j 0)⁻¹)):=List.getElem?_set_self (by omega);rw [zA,zA,ze.eT,zI,<- hl2];refine zw2 H2 hrow2 hj (by omega) hw hN ?_ hqp λh3 y10 y11 y16 y17 y18 H3 => ?_
 .intro l hl q hq';rcases Zbs hl with e | e
  .rcases Zbs e with e | e
   .rcases Zbs e with e | e
    .exact hq _ e _ hq'
    .subst e;exact hq _ (Zad hlr) _ hq'
   .subst e;exact hq _ (Zad hli) _ hq'
  .subst e;exact hrow _ hq'
 rw [hl2,hl1,ze.zxs];obtain ⟨k1,k2,k3⟩:=H3;have H4:=k3.perm ((Zdl _ _).cons _ |>.trans (.swap _ _ _));refine H4.aB (v:=D j) (by omega) (by decide) rfl rfl λo' h4 nx4 H5 => ?_;refine hK o' rs1 h4 nx4 _ _ _ _ _ _ _ _ _ _ _ _ _ _ ⟨k1,k2,?_⟩;have H6:=H5.perm ((List.Perm.swap _ _ _).trans ((Zdl _ _).symm.cons _));rw [Zaz];exact H6
def l10 (n:Nat):Nat:=n*78913 / 262144
theorem iShr {m n:Nat} {K:AV->OP} (hn:n<=64):zb .shr .int (I (m:Int)) (.int .u64 (n:Int)) K=K (I ((m / 2 ^ n:Nat):Int)):=by
 have e:zb .shr .int (I (m:Int)) (.int .u64 (n:Int)) K=(bif ilt (n:Int) 0 then Out.no 5 else qi ((m:Int).fdiv (2 ^ (min (n:Int).toNat IntKind.i64.bits))) λz=>K (.int .i64 z)):=rfl;have h0:ilt (n:Int) 0=false:=rfl;rw [e,h0,cond_false,jM];have hb:IntKind.i64.bits=64:=rfl;rw [hb,Zfq,Zbp hn,Int.fdiv_eq_ediv_of_nonneg _ (Zep (by omega))]
 congr 2
theorem zw4 {n:Nat} (hn:n<=64):Pure Tryz.prog B 329 [I (n:Int)] (· = I (l10 n:Int)):=by
 intro p h nx K hK;refine zM zQ yA 100 λhf => ?_;rw [fQ.go,fQ.t3,zA,fQ.zw,zA,fQ.zu,nk (by omega),show (n:Int)*78913=((n*78913:Nat):Int) by omega,show (AV.int .u64 18)=.int .u64 ((18:Nat):Int) from rfl,iShr (by omega)];simp only [zF,zN];rw [fQ.ret];exact hK _ rfl hf
theorem zsv {b:Bool}:Pure Tryz.prog B 330 [.bool b] (· = I (if b then 1 else 0)):=by
 intro p h nx K hK;refine zM zQ yA 100 λhf => ?_;rw [vk.go,vk.t9,zA,vk.zw,zA,zA,vk.zu,zB,vk.v2];cases b with
 | true =>
  rw [zD,zA,vk.jd];simp only [zF,zN];rw [vk.ret];exact hK _ rfl hf
 | false =>
  rw [zC,zE,zA,vk.ku];simp only [zF,zN];rw [vk.ret];exact hK _ rfl hf
theorem zw5:∀ n<65,l10 n<20/\2 ^ n<=10 ^ (l10 n+1)/\(l10 n=0\/2*10 ^ (l10 n-1)<=2 ^ n):=by decide
theorem zsw:∀ n<20,(layG 2)[n]? = some (10 ^ n):=by decide
def IsNd (u d:Nat):Prop:=1<=d/\d<=20/\u<10 ^ d/\10 ^ (d-1)<=u
theorem zmp {u:Nat} (h0:0<u) (hu:u<18446744073709551616):Pure Tryz.prog B 316 [U u] (λv=>∃ d:Nat,v=I (d:Int)/\IsNd u d):=by
 intro p h nx K hK;refine zM zQ yA 100 λhf => ?_;rw [cZ.go,cZ.t5,zA,cZ.zw,zA,cZ.zu];refine zqg hu _ _ _ _ ?_;rintro _ ⟨n,rfl,hn64,hn1,hn2⟩ _;refine zw4 hn64 _ _ _ _ ?_;rintro _ rfl _;obtain ⟨a1,a2,a3⟩:=zw5 n (by omega);obtain ⟨l,hl⟩:∃ l,l=l10 n:=⟨_,rfl⟩;rw [<- hl] at a1 a2 a3 ⊢;have hn2:=hn2 h0;have e1:∀ K:AV->OP,oO 1 20 (.fp (oo 2)) (I (l:Int)) K=K (.fp ((oo 2).drop (l*1))):=λK=>by
  show (bif Nat.ble (Nat.succ l) 20 then K (.fp ((oo 2).drop (l*1))) else .no 14)=_;rw [Zag (by omega)];rfl
 have e2:∀ K:AV->OP,zH (.fp ((oo 2).drop (l*1))) h K=K (U (10 ^ l)):=λK=>by
  have hg:(oo 2)[l]? = some (U (10 ^ l)):=by
   rw [oo,List.getElem?_map,zsw l a1];rfl
  have hd:(oo 2).drop (l*1)=U (10 ^ l)::(oo 2).drop (l+1):=by
   rw [Zby,List.drop_eq_getElem?_toList_append,hg];rfl
  rw [hd];rfl
 rw [zA,cZ.jd,e1,e2,uGeq];refine zsv _ _ _ _ ?_;rintro _ rfl _;rw [ug (by split <;> omega)];simp only [zF,zN];rw [cZ.ret];by_cases c:10 ^ l<=u
 .rw [Zac c,if_pos rfl,show (l:Int)+1=((l+1:Nat):Int) by omega];exact hK _ ⟨_,rfl,by omega,by omega,by omega,by rw [Nat.add_sub_cancel];exact c⟩ hf
 .rw [Zab c,if_neg (by decide),show (l:Int)+0=((l:Nat):Int) by omega];have hl1:l≠0:=λe=>by rw [e] at c;omega
  exact hK _ ⟨_,rfl,by omega,by omega,by omega,by
   rcases a3 with q | q
   .exact absurd q hl1
   .omega⟩ hf
abbrev V (m:Nat):AV:=.int .u32 (m:Int)
theorem zk1 {m:Nat} (h:m<4294967296):IntKind.wrap .u32 (m:Int)=(m:Int):=by
 have e:IntKind.wrap .u32 (m:Int)=(m:Int)%4294967296:=by
  unfold IntKind.wrap;first | rfl | simp [IntKind.bits,IntKind.signed] | skip
 rw [e];omega
theorem vQuo {a b:Nat} {K:AV->OP} (hb:1<=b) (ha:a<4294967296):zb .quo .int (V a) (V b) K=K (V (a / b)):=by
 have e:zb .quo .int (V a) (V b) K=(bif ieq (b:Int) 0 then Out.no 5 else qi (IntKind.u32.wrap ((a:Int).tdiv b)) λz=>K (.int .u32 z)):=rfl;have h0:ieq (b:Int) 0=false:=by
  cases b with
  | zero=>omega
  | succ b=>rfl
 have h1:a / b<=a:=Zcn a b;rw [e,h0,cond_false,jM,show (a:Int).tdiv b=((a / b:Nat):Int) from rfl]
 generalize a / b=q at *
 rw [zk1 (by omega)]
theorem vRem {a b:Nat} {K:AV->OP} (hb:1<=b):zb .rem .int (V a) (V b) K=K (V (a%b)):=by
 have e:zb .rem .int (V a) (V b) K=(bif ieq (b:Int) 0 then Out.no 5 else qi ((a:Int).tmod b) λz=>K (.int .u32 z)):=rfl;have h0:ieq (b:Int) 0=false:=by
  cases b with
  | zero=>omega
  | succ b=>rfl
 rw [e,h0,cond_false,jM,show (a:Int).tmod b=((a%b:Nat):Int) from rfl]
theorem vMul {a b:Nat} {K:AV->OP} (h:a*b<4294967296):zb .mul .int (V a) (V b) K=K (V (a*b)):=by
 have e:zb .mul .int (V a) (V b) K=qi (IntKind.u32.wrap ((a:Int)*b)) λz=>K (.int .u32 z):=rfl;rw [e,jM,show (a:Int)*b=((a*b:Nat):Int) by rw [Zgd],zk1 h]
theorem vAdd {a b:Nat} {K:AV->OP} (h:a+b<4294967296):zb .add .int (V a) (V b) K=K (V (a+b)):=by
 have e:zb .add .int (V a) (V b) K=qi (IntKind.u32.wrap ((a:Int)+b)) λz=>K (.int .u32 z):=rfl;rw [e,jM,show (a:Int)+b=((a+b:Nat):Int) by rw [Int.natCast_add],zk1 h]
theorem zu1 {a:Nat} {K:AV->OP} (h:a<4294967296):kI .u32 (U a) K=K (V a):=by
 show qi (uS .u32 (a:Int)) (λz=>K (.int .u32 z))=_;rw [jM,uW,zk1 h]
def SMQ:List UInt8:=[48,48,48,49,48,50,48,51,48,52,48,53,48,54,48,55,48,56,48,57,49,48,49,49,49,50,49,51,49,52,49,53,49,54,49,55,49,56,49,57,50,48,50,49,50,50,50,51,50,52,50,53,50,54,50,55,50,56,50,57,51,48,51,49,51,50,51,51,51,52,51,53,51,54,51,55,51,56,51,57,52,48,52,49,52,50,52,51,52,52,52,53,52,54,52,55,52,56,52,57,53,48,53,49,53,50,53,51,53,52,53,53,53,54,53,55,53,56,53,57,54,48,54,49,54,50,54,51,54,52,54,53,54,54,54,55,54,56,54,57,55,48,55,49,55,50,55,51,55,52,55,53,55,54,55,55,55,56,55,57,56,48,56,49,56,50,56,51,56,52,56,53,56,54,56,55,56,56,56,57,57,48,57,49,57,50,57,51,57,52,57,53,57,54,57,55,57,56,57,57]
abbrev C8 (d:Nat):AV:=.int .u8 ((48+d:Nat):Int)
theorem zz9:∀ d<100,(SMQ[d*2]?).map UInt8.toNat=some (48+d / 10)/\(SMQ[d*2+1]?).map UInt8.toNat=some (48+d%10):=by decide
theorem smIx {i c:Nat} {K:AV->OP} (h:(SMQ[i]?).map UInt8.toNat=some (48+c)):j0 (.str SMQ) (V i) K=K (C8 c):=by
 show (match SMQ[i]? with
  | some b=>qz b.toNat λn=>K (.int .u8 (.ofNat n))
  | none=>.no 16)=_
 cases hs:SMQ[i]? with
 | none=>rw [hs] at h;cases h
 | some b =>
  rw [hs] at h;have h:b.toNat=48+c:=Option.some.inj h;simp only [yK,h];rfl
theorem zcc {h0 h:T Blk} {nx:Pa} {L:List Ob} {k off n m p d:Nat} {id:Pa} {l:List AV} {c1 c2:Int} {cap:Option Nat} {K:KW3} (H:Hp h0 h nx L) (hk:L[k]? = some (.arr id l)) (ho:off+n<=l.length) (hm:p+1<n) (hn:n<=1000) (hd:d<100) (e1:(m:Int)-c1=((p+1:Nat):Int)) (e2:(m:Int)-c2=(p:Int)) (hK:∀ h',Hp h0 h' nx (L.set k (.arr id ((l.set (off+(p+1)) (C8 (d%10))).set (off+p) (C8 (d / 10)))))->K .u h' nx=.ok True) :
  (zb .sub .int (I (m:Int)) (I c1) λv1=>zb .sub .int (I (m:Int)) (I c2) λv2=>zb .add .int (V (d*2)) (.int .u32 1) λv3=>j0 (.str SMQ) v3 λv4=>j0 (.str SMQ) (V (d*2)) λv5=>zK 1 (.sl id off n cap 1) v1 λv6=>zS 1 v6 v4 h nx λ_ h8 n9=>(j0 (.str SMQ) (V (d*2)) λv15=>zO v15 v5 (zO (V (d*2)) (V (d*2)) ((zb .sub .int (I (m:Int)) (I c2) λv14=>zO v14 v2 (zO (I (m:Int)) (I (m:Int)) (zO (.sl id off n cap 1) (.sl id off n cap 1) (zK 1 (.sl id off n cap 1) v2 λv10=>zS 1 v10 v5 h8 n9 K))))))))
   = .ok True:=by
 obtain ⟨s1,s2⟩:=zz9 d hd;have hkl:=(List.getElem?_eq_some_iff.1 hk).1;rw [dh (by omega),e1,dh (by omega),e2,show (AV.int .u32 1)=V 1 from rfl,vAdd (by omega),smIx s2,smIx s1,uI (by omega),Zby];refine H.store hk (by omega) rfl λh1 H1 => ?_;simp only [smIx s1,zG];rw [dh (by omega),e2];simp only [zG];rw [uI (by omega),Zby];refine H1.store (k:=k) (List.getElem?_set_self hkl) (by rw [Zas];omega) rfl λh2 H2 => ?_;rw [Zda] at H2;exact hK h2 H2
structure Wr (l l':List AV) (off nd m u:Nat):Prop where
 len:l'.length=l.length
 get:∀ i,l'[i]? = if off+m<=i/\i<off+nd then some (C8 (u / 10 ^ (off+nd-1-i)%10)) else l[i]?
theorem Wr.zero (l:List AV) (off nd u:Nat):Wr l l off nd nd u:=⟨rfl,λi=>by rw [if_neg (by omega)]⟩
theorem Wr.one {l l':List AV} {off nd p u e d:Nat} (h:Wr l l' off nd (p+1) u) (ho:off+nd<=l.length) (hp:p+1<=nd) (he:nd-(p+1)=e) (hd:d=u / 10 ^ e%10):Wr l (l'.set (off+p) (C8 d)) off nd p u:=by
 refine ⟨by rw [Zas];exact h.len,λi => ?_⟩;have hl:=h.len;by_cases c:i=off+p
 .subst c;rw [List.getElem?_set_self (by omega),if_pos (by omega),show off+nd-1-(off+p)=e by omega,hd]
 .rw [List.getElem?_set_ne (by omega),h.get i];by_cases c2:off+(p+1)<=i/\i<off+nd
  .rw [if_pos c2,if_pos (by omega)]
  .rw [if_neg c2,if_neg (by omega)]
theorem Wr.pair {l l':List AV} {off nd p u e d:Nat} (h:Wr l l' off nd (p+2) u) (ho:off+nd<=l.length) (hp:p+2<=nd) (he:nd-(p+2)=e) (hd:d=u / 10 ^ e%100):Wr l ((l'.set (off+(p+1)) (C8 (d%10))).set (off+p) (C8 (d / 10))) off nd p u :=
 (h.one (p:=p+1) (e:=e) (d:=d%10) ho (by omega) (by omega) (by omega)).one (e:=e+1) ho (by omega) (by omega) (by
  rw [Zde,<- Zfv,hd];omega)
theorem dvE {u v e j:Nat} (h:v=u / 10 ^ e):u / 10 ^ (e+j)=v / 10 ^ j:=by rw [Zek,<- Zfv,h]
theorem C8v {a:Nat} {K:AV->OP} (h:a<10):kI .u8 (V (48+a)) K=K (C8 a):=by
 show qi (uS .u8 ((48+a:Nat):Int)) (λz=>K (.int .u8 z))=_;rw [jM,uW];have e:IntKind.wrap .u8 ((48+a:Nat):Int)=((48+a:Nat):Int)%256:=by
  unfold IntKind.wrap;first | rfl | simp [IntKind.bits,IntKind.signed]
 rw [e,show ((48+a:Nat):Int)%256=((48+a:Nat):Int) by omega]
theorem zw6 {h0 h:T Blk} {nx p:Pa} {L:List Ob} {k off nd u:Nat} {id:Pa} {l:List AV} {cap:Option Nat} {K:Kw Prop} (H:Hp h0 h nx L) (hk:L[k]? = some (.arr id l)) (ho:off+nd<=l.length) (hn:nd<=100) (hu:u<10 ^ nd) (hw:u<18446744073709551616)
  (hK:∀ l' h' nx',Wr l l' off nd 0 u->Hp h0 h' nx' (L.set k (.arr id l'))->K (.tup []) h' nx'=.ok True):(CS Tryz.prog B).fn 317 p [.sl id off nd cap 1,U u] h nx K=.ok True:=by
 refine zM zQ yA 1000 λhf => ?_;have hkl:=(List.getElem?_eq_some_iff.1 hk).1;have hid:∀ {l':List AV},(L.set k (.arr id l'))[k]? = some (.arr id l'):=List.getElem?_set_self hkl
 have s0:∀ (q v:Nat) (l':List AV) (h':T Blk) (nx':Pa) (x1 x3 x4 x5 x6 x7 x8 x9 x11 x12 x13 x14 x15 x16 x17 x18:AV),q<=1->q<=nd->v=u / 10 ^ (nd-q)->v<10 ^ q->Wr l l' off nd q u->Hp h0 h' nx' (L.set k (.arr id l')) ->
   IR.run zf.t55 (CS Tryz.prog B) 1000 (fnO zf.res K) (zi zf.res K) (zf.fr (.sl id off nd cap 1) x1 (I (q:Int)) x3 x4 x5 x6 x7 x8 x9 (V v) x11 x12 x13 x14 x15 x16 x17 x18) h' nx'=.ok True:=by
  intro q v l' h' nx' x1 x3 x4 x5 x6 x7 x8 x9 x11 x12 x13 x14 x15 x16 x17 x18 hq hqn hv oH hW H';rw [zf.t55,zA,zf.zfm,di,zB,zf.v18];by_cases c:q=0
  .subst c;rw [Zab (by omega),zC,zE];rw [zf.ret];exact hK _ _ _ hW H'
  .obtain rfl:q=1:=by omega
   have oH:v<10:=by omega
   rw [Zac (by omega),zD,zf.zx0,show (AV.int .u32 48)=V 48 from rfl,vAdd (by omega),C8v oH,show (I 0)=AV.int .i64 ((0:Nat):Int) from rfl,uI (by omega),Nat.zero_mul];have hl:=hW.len;refine H'.store hid (by omega) rfl λh2 H2 => ?_;rw [Zda] at H2;rw [zf.ret];exact hK _ _ _ (hW.one (p:=0) (e:=nd-1) ho (by omega) rfl (by rw [<- hv];omega)) H2
 have s1:∀ (q v:Nat) (l':List AV) (h':T Blk) (nx':Pa) (x1 x3 x4 x5 x6 x7 x8 x9 x11 x12 x13 x14 x15 x16 x17 x18:AV),q<=3->q<=nd->v=u / 10 ^ (nd-q)->v<10 ^ q->v<4294967296->Wr l l' off nd q u->Hp h0 h' nx' (L.set k (.arr id l')) ->
   IR.run zf.t56 (CS Tryz.prog B) 1000 (fnO zf.res K) (zi zf.res K) (zf.fr (.sl id off nd cap 1) x1 (I (q:Int)) x3 x4 x5 x6 x7 x8 x9 (V v) x11 x12 x13 x14 x15 x16 x17 x18) h' nx'=.ok True:=by
  intro q v l' h' nx' x1 x3 x4 x5 x6 x7 x8 x9 x11 x12 x13 x14 x15 x16 x17 x18 hq hqn hv oH hv32 hW H';rw [zf.t56,zA,zA,zf.zco,fC,zB,zf.v17];by_cases c:2<=q
  .obtain ⟨p,rfl⟩:∃ p,q=p+2:=⟨q-2,by omega⟩;have hl:=hW.len;have hp:10 ^ (p+2)=10 ^ p*100:=by rw [Zek]
   rw [Zac (by omega),zD,zA,zf.zfk,show (AV.int .u32 100)=V 100 from rfl,vRem (by omega),show (AV.int .u32 2)=V 2 from rfl,vMul (by omega),zA,zf.zxy,show (AV.int .u32 100)=V 100 from rfl,vQuo (by omega) hv32,zA,zf.zxz];refine zcc (p:=p) H' hid (by omega) (by omega) (by omega) (by omega) (by omega) (by omega) λh2 H2 => ?_;rw [Zda] at H2;rw [zf.zmz,dh (by omega),show ((p+2:Nat):Int)-2=(p:Int) by omega];exact s0 p (v / 100) _ _ _ _ _ _ _ _ _ _ _ _ _ _ _ _ _ _ _ (by omega) (by omega) (by rw [show nd-p=nd-(p+2)+2 by omega,dvE hv]) (by rw [hp] at oH;exact Zex (by rw [Zbu];exact oH)) (hW.pair ho (by omega) rfl (by rw [<- hv])) H2
  .rw [Zab (by omega),zC,zE];exact s0 q v _ _ _ _ _ _ _ _ _ _ _ _ _ _ _ _ _ _ _ (by omega) hqn hv oH hW H'
 have hW0:=Wr.zero l off nd u;have H0:Hp h0 h nx (L.set k (.arr id l)):=by
  have e:L.set k (.arr id l)=L:=by
   refine Zbm λi => ?_;by_cases c:i=k
   .subst c;rw [List.getElem?_set_self hkl,hk]
   .rw [List.getElem?_set_ne (by omega)]
  rw [e];exact H
 rw [zf.go,zf.t60,zA,zf.zw,yH,zA,zI];refine zf.zxv (λm x1 x2 h' nx'=>∃ (v:Nat) (l':List AV),x1=U v/\x2=I (m:Int)/\m<=nd/\v=u / 10 ^ (nd-m)/\v<10 ^ m/\v<18446744073709551616/\Wr l l' off nd m u/\Hp h0 h' nx' (L.set k (.arr id l'))) (m:=nd) (by omega) ⟨u,l,rfl,rfl,Zaf _,by rw [Zcj,Nat.pow_zero,Nat.div_one],hu,hw,hW0,H0⟩ ?_;rintro m y1 y2 y3 y4 y5 y6 y7 y8 y9 y15 h3 nx3 R ⟨v,l',rfl,rfl,hm,hv,oH,hvw,hW,H3⟩ hR;have hl:=hW.len;rw [zf.t24,zA,zA,zf.zu,fC,zB,zf.v15];by_cases c:8<=m
 .obtain ⟨q,rfl⟩:∃ q,m=q+8:=⟨m-8,by omega⟩;have hp:10 ^ (q+8)=10 ^ q*100000000:=by rw [Zek]
  have w100:(AV.int .u32 100)=V 100:=rfl;have w2:(AV.int .u32 2)=V 2:=rfl;have w4:(AV.int .u32 10000)=V 10000:=rfl;rw [Zac (by omega),zD,zE,zI,zA,zf.fG,show (AV.int .u64 100000000)=U 100000000 from rfl,uRem (by omega) hvw,zu1 (by omega),zA,zf.ny,show (AV.int .u64 100000000)=U 100000000 from rfl,uQuo (by omega) hvw,zA,zf.ku,w4,vQuo (by omega) (by omega),vRem (by omega),zA,zf.fe,w100,w2,vQuo (by omega) (by omega),vMul (by omega),vRem (by omega),vMul (by omega),zA,zf.fE,w100,w2,vQuo (by omega) (by omega),vMul (by omega),vRem (by omega),vMul (by omega),zA,zf.nP];refine zcc (p:=q+6) H3 hid (by omega) (by omega) (by omega) (by omega) (by omega) (by omega) λh4 H4 => ?_;rw [Zda] at H4;have W1:=hW.pair (p:=q+6) (d:=v%100000000%10000%100) ho (by omega) rfl (by rw [<- hv];omega);rw [zA,zf.nX];refine zcc (p:=q+4) H4 hid (by rw [W1.len];omega) (by omega) (by omega) (by omega) (by omega) (by omega) λh5 H5 => ?_;rw [Zda] at H5;have W2:=W1.pair (p:=q+4) (e:=nd-(q+8)+2) (d:=v%100000000%10000 / 100) ho (by omega) (by omega) (by rw [dvE hv];omega);rw [zA,zf.dx];refine zcc (p:=q+2) H5 hid (by rw [W2.len];omega) (by omega) (by omega) (by omega) (by omega) (by omega) λh6 H6 => ?_;rw [Zda] at H6;have W3:=W2.pair (p:=q+2) (e:=nd-(q+8)+4) (d:=v%100000000 / 10000%100) ho (by omega) (by omega) (by rw [dvE hv];omega);rw [zA,zf.rF];refine zcc (p:=q) H6 hid (by rw [W3.len];omega) (by omega) (by omega) (by omega) (by omega) (by omega) λh7 H7 => ?_;rw [Zda] at H7;have W4:=W3.pair (p:=q) (e:=nd-(q+8)+6) (d:=v%100000000 / 10000 / 100) ho (by omega) (by omega) (by rw [dvE hv];omega);rw [zf.nS,dh (by omega),show ((q+8:Nat):Int)-8=(q:Int) by omega];exact hR q _ _ _ _ _ _ _ _ _ _ _ _ (by omega) ⟨v / 100000000,_,rfl,rfl,by omega,by rw [show nd-q=nd-(q+8)+8 by omega,dvE hv],by rw [hp] at oH;exact Zex (by rw [Zbu];exact oH),by omega,W4,H7⟩
 have h8:10 ^ m<=10 ^ 7:=Zcy (by omega) (by omega);have hv32:v<10000000:=by omega
 rw [Zab (by omega),zC,zW,yD,zA,zf.zjm,zu1 (by omega),zA,zA,zf.zfc,fC,zB,zf.v16];by_cases c4:4<=m
 .obtain ⟨q,rfl⟩:∃ q,m=q+4:=⟨m-4,by omega⟩;have hp:10 ^ (q+4)=10 ^ q*10000:=by rw [Zek]
  have w100:(AV.int .u32 100)=V 100:=rfl;have w2:(AV.int .u32 2)=V 2:=rfl;have w4:(AV.int .u32 10000)=V 10000:=rfl;rw [Zac (by omega),zD,zA,zf.zm0,w4,vRem (by omega),zA,zf.zcp,w4,vQuo (by omega) (by omega),zA,zf.zxw,w100,w2,vQuo (by omega) (by omega),vMul (by omega),vRem (by omega),vMul (by omega),zA,zf.zxx];refine zcc (p:=q+2) H3 hid (by omega) (by omega) (by omega) (by omega) (by omega) (by omega) λh4 H4 => ?_;rw [Zda] at H4;have W1:=hW.pair (p:=q+2) (d:=v%10000%100) ho (by omega) rfl (by rw [<- hv];omega);rw [zA,zf.zm1];refine zcc (p:=q) H4 hid (by rw [W1.len];omega) (by omega) (by omega) (by omega) (by omega) (by omega) λh5 H5 => ?_;rw [Zda] at H5;have W2:=W1.pair (p:=q) (e:=nd-(q+4)+2) (d:=v%10000 / 100) ho (by omega) (by omega) (by rw [dvE hv];omega);rw [zf.eT,dh (by omega),show ((q+4:Nat):Int)-4=(q:Int) by omega];exact s1 q (v / 10000) _ _ _ _ _ _ _ _ _ _ _ _ _ _ _ _ _ _ _ (by omega) (by omega) (by rw [show nd-q=nd-(q+4)+4 by omega,dvE hv]) (by rw [hp] at oH;exact Zex (by rw [Zbu];exact oH)) (by omega) W2 H5
 .rw [Zab (by omega),zC,zE];exact s1 m v _ _ _ _ _ _ _ _ _ _ _ _ _ _ _ _ _ _ _ (by omega) hm hv oH (by omega) hW H3
def sP (d u:Nat):List UInt8:=(List.range d).map λi=>UInt8.ofNat (48+u / 10 ^ (d-1-i)%10)
def NdOk (u d:Nat):Prop:=IsNd u d\/u=0/\d=1
def sgT (z:Int):List UInt8:=if z<0 then [45] else []
theorem sSsN {s:List UInt8} {a b:Nat} {K:AV->OP} (hab:a<=b) (hb:b<=s.length):gJ (.str s) (some (I (a:Int))) (some (I (b:Int))) K=K (.str ((s.drop a).take (b-a))):=by
 show (match bnd (some (I (b:Int))) s.length s.length with
   | none=>Out.no 18
   | some h=>match bnd (some (I (a:Int))) h 0 with
    | none=>.no 18
    | some l=>K (.str ((s.drop l).take (h-l))))=_
 rw [kF hb]
 dsimp only
 rw [kF hab]
def DG:List UInt8:=[48,49,50,51,52,53,54,55,56,57,97,98,99,100,101,102,103,104,105,106,107,108,109,110,111,112,113,114,115,116,117,118,119,120,121,122]
theorem zw7:∀ n<10,(DG.drop n).take 1=sP 1 n:=by decide +kernel
theorem zw8:∀ n<100,(SMQ.drop (n*2)).take 2=sP 2 n:=by decide +kernel
theorem zqs {n:Nat} (h:n<100):Pure Tryz.prog B 315 [I (n:Int)] (λv=>∃ d,NdOk n d/\v=.str (sP d n)):=by
 intro p h' nx K hK;refine zM zQ yA 10 λhf => ?_;rw [vo.go,vo.t9,zA,vo.zw,zA,zA,vo.zu,jk,zB,vo.v2];by_cases c:n<10
 .rw [Zac (by omega),zD,zA,vo.jd,ug (by omega),show (n:Int)+1=((n+1:Nat):Int) by omega];refine Eq.trans (sSsN (s:=DG) (by omega) (by show _<=36;omega)) ?_;simp only [zF,zN];rw [vo.ret,show n+1-n=1 by omega,zw7 n c];refine hK _ ⟨1,?_,rfl⟩ hf;by_cases c0:n=0
  .exact .inr ⟨c0,rfl⟩
  .exact .inl ⟨by omega,by omega,by omega,by omega⟩
 .rw [Zab (by omega),zC,zE,zA,vo.ku,nk (by omega),show (n:Int)*2=((n*2:Nat):Int) by omega,nk (by omega),show (n:Int)*2=((n*2:Nat):Int) by omega,ug (by omega),show ((n*2:Nat):Int)+2=((n*2+2:Nat):Int) by omega];refine Eq.trans (sSsN (s:=SMQ) (by omega) (by show _<=200;omega)) ?_;simp only [zF,zN];rw [vo.ret,show n*2+2-n*2=2 by omega,zw8 n h];exact hK _ ⟨2,.inl ⟨by omega,by omega,by omega,by omega⟩,rfl⟩ hf
theorem zk2:∀ l:List Nat,ak (l.map C8)=some (l.map λd=>UInt8.ofNat (48+d))
 | []=>rfl
 | d::l=>by
  show (match ak (l.map C8) with
   | some s=>some (UInt8.ofNat (48+d)::s)
   | none=>none)=_
  rw [zk2 l];rfl
theorem Hp.b2s {h0 h:T Blk} {nx:Pa} {L:List Ob} {k n off:Nat} {id:Pa} {cap:Option Nat} {l:List AV} {s:List UInt8} {op:AV->OP} (H:Hp h0 h nx L) (hk:L[k]? = some (.arr id l)) (hle:off+n<=l.length) (he:ak ((l.drop off).take n)=some s):sB2s (.sl id off n cap 1) h op=op (.str s):=by
  obtain ⟨o,t,h1,h2⟩:=H.own _ (Zad hk)
  show uy (T.get .no id h) (λ_ m t=>bif Nat.ble (off+n) m then (match ak (yQ t off n) with
          | some s=>op (.str s)
          | none=>.no 21) else .no 21) (.no 21)=_
  rw [h1]
  show (bif Nat.ble (off+n) l.length then (match ak (yQ t off n) with
          | some s=>op (.str s)
          | none=>.no 21) else .no 21)=_
  rw [Zag hle,cond_true,wR h2 hle,he]
theorem Wr.text {l l':List AV} {off nd u:Nat} (h:Wr l l' off nd 0 u) (ho:off+nd<=l.length):(l'.drop off).take nd=((List.range nd).map λi=>u / 10 ^ (nd-1-i)%10).map C8:=by
 refine Zbm λi => ?_;by_cases c:i<nd
 .rw [List.getElem?_take_of_lt c,List.getElem?_drop,h.get,if_pos (by omega),List.getElem?_map,List.getElem?_map,List.getElem?_range c,show off+nd-1-(off+i)=nd-1-i by omega];rfl
 .rw [List.getElem?_eq_none (by rw [Zai];omega),List.getElem?_eq_none (by rw [Zah,Zah,Zdx];omega)]
theorem zqt (d u:Nat):((List.range d).map λi=>u / 10 ^ (d-1-i)%10).map (λd=>UInt8.ofNat (48+d))=sP d u:=by
 unfold sP;rw [List.map_map];rfl
theorem zk3 {id:Pa} {d:Nat} {K:AV->OP} (hd:d<=20):dJ 1 24 (.ptr id 0) (some (I 1)) (some (I ((1+d:Nat):Int))) none K=K (.sl id 1 d (some 23) 1):=by
 have e1:gQ (I ((1+d:Nat):Int)) 24=some (1+d):=by
  show (bif Nat.ble (1+d) 24 then some (1+d) else none)=_;rw [Zag (by omega)];rfl
 have e2:gQ (I 1) (1+d)=some 1:=by
  show (bif Nat.ble 1 (1+d) then some 1 else none)=_;rw [Zag (by omega)];rfl
 show (match gQ (I ((1+d:Nat):Int)) 24 with
  | none=>Out.no 17
  | some h=>match gQ (I 1) h with
   | none=>.no 17
   | some l=>bif Nat.beq 24 l then K (.sl id 0 (h-l) (some 0) 1)
    else qz (0+l*1) λoff=>qz (h-l) λh=>qz (24-l) λm=>K (.sl id off h (some m) 1))=_
 rw [e1];dsimp only;rw [e2];dsimp only;rw [show Nat.beq 24 1=false from rfl,cond_false,yK,yK,yK,show 1+d-1=d by omega]
theorem zsx {id:Pa} {d:Nat} {K:AV->OP} (hd:d<=20):dJ 1 24 (.ptr id 0) none (some (I ((1+d:Nat):Int))) none K=K (.sl id 0 (1+d) (some 24) 1):=by
 have e1:gQ (I ((1+d:Nat):Int)) 24=some (1+d):=by
  show (bif Nat.ble (1+d) 24 then some (1+d) else none)=_;rw [Zag (by omega)];rfl
 show (match gQ (I ((1+d:Nat):Int)) 24 with
  | none=>Out.no 17
  | some h=>bif Nat.beq 24 0 then K (.sl id 0 (h-0) (some 0) 1)
    else qz (0+0*1) λoff=>qz (h-0) λh=>qz (24-0) λm=>K (.sl id off h (some m) 1))=_
 rw [e1];dsimp only;rw [show Nat.beq 24 0=false from rfl,cond_false,yK,yK,yK];rfl
theorem qaa {z:Int} {K:AV->OP} (h : -9223372036854775808<=z/\z<0):sNeg (U (z+18446744073709551616).toNat) K=K (U z.natAbs):=by
 show qi (uS .u64 (0-(((z+18446744073709551616).toNat:Nat):Int))) (λz=>K (.int .u64 z))=_;rw [jM,uW,zpy,show (0-(((z+18446744073709551616).toNat:Nat):Int))%18446744073709551616=(z.natAbs:Int) by omega]
theorem zw9 {z:Int} (hz : -9223372036854775808<=z/\z<=9223372036854775807):Pure Tryz.prog B 314 [I z,I 10] (λv=>∃ d,NdOk z.natAbs d/\v=.str (sgT z++sP d z.natAbs)):=by
 refine zT λh nx K H0 hK=>zM zQ yA 1000 λhf => ?_;have ret:∀ {d:Nat} {h1 nx1 L},Hp h h1 nx1 L->NdOk z.natAbs d->K (.str (sgT z++sP d z.natAbs)) h1 nx1=.ok True:=λH hd=>hK _ _ _ _ _ H (zV rfl) ⟨_,hd,rfl⟩
 have rest:∀ (b:Pa) (l:List AV) (h1:T Blk) (nx1:Pa) (x5 x6 x7 x8 x9 x10:AV),l.length=24->z≠0->Hp h h1 nx1 [.arr b l] ->
   IR.run zy.t26 (CS Tryz.prog B) 1000 (fnO zy.res K) (zi zy.res K) (zy.fr (I z) (I 10) (.str []) (.ptr b 0) (U z.natAbs) x5 x6 x7 x8 x9 x10) h1 nx1=.ok True:=by
  intro b l h1 nx1 x5 x6 x7 x8 x9 x10 hl hz0 H1;rw [zy.t26,zA,zy.nS];refine zmp (by omega) (by omega) _ _ _ _ ?_;rintro _ ⟨d,rfl,hd⟩ _;obtain ⟨d1,d2,d3,d4⟩:=hd;rw [zA,zy.nT,ug (by omega),show (1:Int)+(d:Int)=((1+d:Nat):Int) by omega,zk3 d2];refine zw6 (k:=0) H1 rfl (by omega) (by omega) d3 (by omega) λl' h2 nx2 hW H2 => ?_;have hl':=hW.len;have htx:=hW.text (by omega);have hb:ak ((l'.drop 1).take d)=some (sP d z.natAbs):=by rw [htx,zk2,zqt]
  rw [zA,zA,zy.tH,jk,zB,zy.v10];by_cases c:z<0
  .rw [Zac (by omega),zD,zA,zy.rG,show ∀ K:AV->OP,oO 1 24 (.ptr b 0) (I 0) K=K (.ptr b 0) from λK=>nr rfl];refine H2.store (k:=0) rfl (by omega) rfl λh3 H3 => ?_;rw [zA,zy.tT,ug (by omega),show (1:Int)+(d:Int)=((1+d:Nat):Int) by omega,zsx d2];have e:ak (((l'.set 0 (.int .u8 45)).drop 0).take (1+d))=some (45::sP d z.natAbs):=by
    cases l' with
    | nil=>simp at hl';omega
    | cons a l2 =>
     rw [Zfj,Zcs,Zdc,List.take_succ_cons]
     show (match ak (l2.take d) with
      | some s=>some (UInt8.ofNat 45::s)
      | none=>none)=_
     rw [show l2.take d=((a::l2).drop 1).take d from rfl,hb];rfl
   rw [H3.b2s (k:=0) rfl (by rw [Zas];omega) e];simp only [zF,zN];rw [zy.ret];have er:sgT z++sP d z.natAbs=45::sP d z.natAbs:=by unfold sgT;rw [if_pos c];rfl
   rw [<- er];exact ret H3 (.inl ⟨d1,d2,d3,d4⟩)
  .rw [Zab (by omega),zC,zE,zA,zy.rW,ug (by omega),show (1:Int)+(d:Int)=((1+d:Nat):Int) by omega,zk3 d2,H2.b2s (k:=0) rfl (by omega) hb];simp only [zF,zN];rw [zy.ret];have er:sgT z++sP d z.natAbs=sP d z.natAbs:=by unfold sgT;rw [if_neg c];rfl
   rw [<- er];exact ret H2 (.inl ⟨d1,d2,d3,d4⟩)
 have big:∀ (x3 x4 x5 x6 x7 x8 x9 x10:AV),z≠0->IR.run zy.t29 (CS Tryz.prog B) 1000 (fnO zy.res K) (zi zy.res K) (zy.fr (I z) (I 10) (.str []) x3 x4 x5 x6 x7 x8 x9 x10) h nx=.ok True:=by
  intro x3 x4 x5 x6 x7 x8 x9 x10 hz0;rw [zy.t29,zA,zy.fe];refine H0.alloc λb h1 nx1 H1 => ?_;by_cases c:z<0
  .rw [zA,zy.fE,zp0 ⟨hz.1,c⟩,zA,zA,zy.nP,jk,zB,zy.v9,Zac (by omega),zD,zy.nX,qaa ⟨hz.1,c⟩];exact rest b _ _ _ _ _ _ _ _ _ rfl hz0 H1
  .rw [zA,zy.fE,zpz (m:=z.natAbs) (by omega) (by omega),zA,zA,zy.nP,jk,zB,zy.v9,Zab (by omega),zC,zE];exact rest b _ _ _ _ _ _ _ _ _ rfl hz0 H1
 rw [zy.go,zy.t38,zA,zy.zw,zA,zA,zy.zu,wm,Zac rfl,zB,zy.v7,zD,zA,zA,zy.jd,nV];by_cases c:0<=z
 .rw [Zac c];simp only [yO];rw [jk];simp only [zY];rw [zB,zy.v8];by_cases c2:z<100
  .rw [Zac c2,zD,zA,zy.pu,show z=((z.toNat:Nat):Int) by omega];refine zqs (by omega) _ _ _ _ ?_;rintro _ ⟨d,hd,rfl⟩ _;simp only [zF,zN];rw [zy.ret];have en:z.toNat=z.natAbs:=by omega
   have er:sgT z++sP d z.natAbs=sP d z.natAbs:=by unfold sgT;rw [if_neg (by omega)];rfl
   rw [en] at hd ⊢;rw [<- er];exact ret H0 hd
  .rw [Zab c2,zC,zE];exact big _ _ _ _ _ _ _ _ (by omega)
 .rw [Zab c];simp only [jH,zZ];rw [zB,zy.v8,zC,zE];exact big _ _ _ _ _ _ _ _ (by omega)
theorem zsy {z:Int} (hz : -9223372036854775808<=z/\z<=9223372036854775807):Pure Tryz.prog B 248 [I z] (λv=>∃ d,NdOk z.natAbs d/\v=.str (sgT z++sP d z.natAbs)):=by
 intro p h nx K hK;refine zM zQ yA 10 λhf => ?_;rw [fU.go,fU.t3,zA,fU.zw,zA,fU.zu];refine uO (p:=.of 287) (K:=λv1 h2 n3=>K v1 h2 n3) (zM zQ yA 10 λhf => ?_) λ_ _ _ _ q=>by
  simp only [zF,zN];rw [fU.ret];exact q
 rw [fT.go,fT.t3,zA,fT.zw,zA,fT.zu];refine zw9 hz _ _ _ _ ?_;rintro v hv hf2;simp only [zF,zN];rw [fT.ret];exact hK v hv hf2
theorem zxa:∀ x<10,UInt8.ofNat (48+x)=dch x:=by decide +kernel
theorem zmq (d u:Nat):sP (d+1) u=sP d (u / 10)++[dch (u%10)]:=by
 unfold sP;rw [Zef,Zaz]
 congr 1
 .refine Zfb λi hi => ?_;have:=List.mem_range.1 hi;rw [show d+1-1-i=d-1-i+1 by omega,Zde,Zbu,<- Zfv]
 .rw [Zcw,show d+1-1-d=0 by omega,Nat.pow_zero,Nat.div_one,zxa _ (Zdk _ (by decide))]
theorem zqu:∀ (d u:Nat),u<10 ^ d->(d=0\/10 ^ (d-1)<=u)->sP d u=qx u 0
 | 0,u,h,_=>by
  obtain rfl:u=0:=by simpa using h
  unfold qx;rw [zdk];rfl
 | d+1,u,h,h2=>by
  have h3:10 ^ d<=u:=by rcases h2 with q | q;omega;simpa using q
  have h4:0<10 ^ d:=Zgp (by decide);rw [Zde] at h
  rw [zmq,zqu d (u / 10) (Zex (by rw [Zbu];exact h)) (by
   cases d with
   | zero=>exact .inl rfl
   | succ d =>
    right
    rw [Zde] at h3;exact (Nat.le_div_iff_mul_le (by decide)).2 h3)]
  unfold qx;rw [zdj (y:=u) (.inl (by omega)),Zgz,Zaz];rfl
theorem zqv {u d:Nat} (h:NdOk u d):sP d u=qx u 1:=by
 rcases h with ⟨h1,h2,h3,h4⟩ | ⟨rfl,rfl⟩
 .have hu:u≠0:=λe=>by
   have:0<10 ^ (d-1):=Zgp (by decide);omega
  rw [zqu d u h3 (.inr h4)];unfold qx;rw [p9 hu];unfold nW;rw [Nat.zero_sub,List.replicate_zero,Zbh]
 .rw [bJ];rfl
theorem qab {z:Int} (hz : -9223372036854775808<=z/\z<=9223372036854775807):Pure Tryz.prog B 248 [I z] (· = .str (mg z)):=by
 intro p h nx K hK;refine zsy hz _ _ _ _ ?_;rintro _ ⟨d,hd,rfl⟩ hf;rw [zqv hd];exact hK _ rfl hf
theorem zez {v:AV} {z:Int} (hv:qp v z) (hz:z.natAbs<9223372036854775808):Pure Tryz.prog B 188 [v] (· = .str (mg z)):=by
 obtain ⟨s,w,rfl,rfl,rfl,hv⟩:=hv;refine zT λh nx K H0 hK=>zM zQ yA 1000 λhf => ?_;rw [bg.go,bg.t60,zA,bg.zw];refine H0.box (l:=[I z,.za]) rfl λpa h1 nx1 H1 => ?_;rw [zA,zA,bg.zu,sFx,H1.load (k:=0) (i:=0+1) rfl rfl];rw [u9,zB,bg.v12,zD,zA,bg.jd,sFx,H1.load (k:=0) (i:=0+0) rfl rfl];unfold nR at hv;refine qab (by omega) _ _ _ _ ?_;rintro _ rfl _;simp only [zF,zN];rw [bg.ret];exact hK _ _ _ _ _ H1 (zV rfl) rfl
theorem zdn {z:Int} (hz:z.natAbs<9223372036854775808):(mg z).length<=100:=by
 have h:=vY (n:=z.natAbs) (k:=3) (by omega);unfold mg;split <;> simp <;> omega
theorem zxb {v:AV} {q:Rat} (hv:jG v q) (hn:q.num.natAbs<9223372036854775808) (hd:q.den<9223372036854775808):Pure Tryz.prog B 97 [v] (· = .str (qg q)):=by
 obtain ⟨s,w,s',w',rfl,i1,i2⟩:=hv;refine zT λh nx K H0 hK=>zM zQ yA 1000 λhf => ?_;rw [F97.go,F97.t9,zA,F97.zw];refine H0.box (l:=[s,w,s',w']) rfl λpa h1 nx1 H1 => ?_;have l1:∀ op:AV->OP,zJ 2 (.ptr pa (0+0)) h1 op=op (.agg [s,w]):=λop=>H1.qb (k:=0) (off:=0+0) rfl (by simp) rfl;have l2:∀ op:AV->OP,zJ 2 (.ptr pa (0+2)) h1 op=op (.agg [s',w']):=λop=>H1.qb (k:=0) (off:=0+2) rfl (by simp) rfl;rw [zA,zA,F97.zu,H1.zm (k:=0) (n:=4) rfl rfl];refine vU ⟨_,_,_,_,rfl,i1,i2⟩ _ _ _ _ ?_;rintro _ rfl _;rw [zB,F97.v3];by_cases c:q.den=1
 .rw [Zac c,zD,zA,F97.jd,sFx,l1];refine zez ⟨_,_,rfl,i1⟩ hn _ _ _ _ ?_;rintro _ rfl _;simp only [zF,zN];rw [F97.ret];exact hK _ _ _ _ _ H1 (zV rfl) (by unfold qg;rw [if_pos c,Zbh])
 .rw [Zab c,zC,zE,zA,F97.ku,sFx,l1,sFx,l2];refine zez ⟨_,_,rfl,i1⟩ hn _ _ _ _ ?_;rintro _ rfl _;have t1:=zdn hn;have t2:=zdn (z:=(q.den:Int)) (by omega);have a1:∀ K:AV->OP,zb .add .str (.str (mg q.num)) (.str [47]) K=K (.str (mg q.num++[47])):=λK=>tCat (by simp;omega);simp only [l2,zG,sFx,a1];refine zez ⟨_,_,rfl,i2⟩ (by omega) _ _ _ _ ?_;rintro _ rfl _;rw [tCat (by simp;omega)];simp only [zF,zN];rw [F97.ret];exact hK _ _ _ _ _ H1 (zV rfl) (by unfold qg;rw [if_neg c,Zbo];rfl)
theorem zqw {n:Nat} {l:List AV} {h:T Blk} {op:AV->OP} (hl:n<=l.length):zJ n (.fp l) h op=op (.agg (l.take n)):=by
 show (bif Nat.ble n l.length then op (.agg (l.take n)) else .no 8)=_;rw [Zag hl];rfl
def Sml (q:Rat):Prop:=q.num.natAbs<9223372036854775808/\q.den<9223372036854775808
abbrev xB (q:List Rat):List AV:=q.map λx=>.str (qg x)
theorem zqx {n:Nat} {c:List AV} {q:List Rat} (hc:rA c q) (hn:q.length=n) (hn1:n<=1000) (hs:∀ x∈q,Sml x):Pure Tryz.prog B 181 [.lst 4 n c] (· = .lst 1 n (xB q)):=by
 refine zT λh nx K H0 hK=>zM zQ yA 2000 λhf => ?_;rw [ji.go,ji.t20,zA,ji.zw,zA,ji.zu,zX];refine H0.mkN (n:=n) (c:=n) rfl rfl (Zaf _) (by omega) (by omega) λid h1 nx1 H1 => ?_;have hle:(xB q).length=(fB n [AV.str []]).length:=by rw [Zah,pZ,hn];simp
 rw [zA,zA,ji.jd,zX,zI];refine ji.zfa (λm x7 h' nx'=>∃ k:Nat,x7=I (k:Int)/\m+k=n/\Hp h h' nx' [.arr id ((xB q).take k++(fB n [AV.str []]).drop k)]) (m:=n) (by omega) ⟨0,rfl,rfl,by rw [Zds,Zbl,Zcs];exact H1⟩ ?_;rintro m z3 z4 z7 z8 h3 nx3 R ⟨k,rfl,hm,H3⟩ hR;rw [ji.t12,zA,ji.pu,jk,zA,zB,ji.v8];by_cases ck:k<n
 .obtain ⟨cs,e1,e2,_,fv⟩:=hc.get (uA (q:=q) (j:=k) (by omega));have hx:(xB q)[k]? = some (.str (qg (at' q k))):=by rw [List.getElem?_map,uA (by omega)];rfl
  have sm:=hs (at' q k) (Zad (uA (q:=q) (j:=k) (by omega)));have hlen:((xB q).take k++(fB n [AV.str []]).drop k).length=n:=by
   rw [Zae,Zai,Zcd,Zah,pZ];simp;omega
  rw [Zac (by omega),zD,zE,zA,zI,zA,ji.ny,zus (j:=k) rfl ck,zqw (by rw [Zcd];omega),e1];refine H3.alloc λb h4 nx4 H4 => ?_;have hcl:∃ a b' c' d',cs=[a,b',c',d']:=by
   obtain ⟨s,w,s',w',e,_⟩:=fv;exact ⟨s,w,s',w',AV.agg.inj e⟩
  obtain ⟨a1,a2,a3,a4,rfl⟩:=hcl;refine H4.jb (l2:=[a1,a2,a3,a4]) (k:=0) rfl rfl rfl λh5 H5 => ?_;rw [ji.ku,H5.zm (k:=0) (n:=4) rfl rfl];refine zxb fv sm.1 sm.2 _ _ _ _ ?_;rintro _ rfl _;rw [uI ck,Zby];refine H5.store (k:=1) rfl (by rw [Zbe,hlen];exact ck) rfl λh6 H6 => ?_;rw [Zbe] at H6;have H6:Hp h h6 nx4 (.arr b [a1,a2,a3,a4]::[.arr id (((xB q).take k++(fB n [AV.str []]).drop k).set k (.str (qg (at' q k))))]):=H6;rw [zwl hle hx] at H6;rw [ji.nP,ug (by omega)];exact hR (m-1) _ _ _ _ _ _ (by omega) ⟨k+1,by congr 1,by omega,H6.drop⟩
 .obtain rfl:k=n:=by omega
  rw [Zaq (by rw [Zah];omega),Zbr (by rw [pZ];simp),Zbh] at H3;rw [Zab (by omega),zC,zW,yD,zA,ji.rG];simp only [zF,zN];rw [ji.ret];exact hK _ _ _ _ _ H3 (H3.zos (k:=0) rfl (Zaf _) (by rw [Zah];omega) (λv hv=>by obtain ⟨x,_,rfl⟩:=List.mem_map.1 hv;rfl)) rfl
theorem zjh {v:AV} {z:Int} (hv:qp v z):Pure Tryz.prog B 249 [v] (· = .tup [.bool (decide (z<0)),encW (if z=0 then [] else [z.natAbs])]):=by
 obtain ⟨s,w,rfl,rfl,rfl,hv⟩:=hv;unfold nR at hv;refine zT λh nx K H0 hK=>zM zQ yA 100 λhf => ?_;rw [ql.go,ql.t15,zA,ql.zw];refine H0.box (l:=[I z,.za]) rfl λpa h1 nx1 H1 => ?_;rw [zA,zI,zA,ql.zu,sFx,H1.load (k:=0) (i:=0+1) rfl rfl,zp1,zB,ql.v4,zC,zA,ql.fG,sFx,H1.load (k:=0) (i:=0+0) rfl rfl,wm,zB,ql.v5];by_cases c:z=0
 .rw [Zac c,zD,zA,ql.ny];simp only [zF,dB,zN];rw [ql.ret];refine hK _ _ _ _ _ H1 (gD (zV rfl) (.og 1)) ?_;subst c;rfl
 rw [Zab c,zC,zE];rw [zA,ql.rF,sFx,H1.load (k:=0) (i:=0+0) rfl rfl,jk,sFx,H1.load (k:=0) (i:=0+0) rfl rfl];refine zek (by omega) _ _ _ _ ?_;rintro _ rfl _;simp only [jk,zG,sFx,H1.load (k:=0) (i:=0+0) rfl rfl];refine H1.dz (l:=[U z.natAbs]) rfl λtb h2 nx2 H2 => ?_;simp only [jk,zG,sFx,H2.load (k:=1) (i:=0+0) rfl rfl];simp only [zF,dB,zN];rw [ql.ret];refine hK _ _ _ _ _ H2 (gD (zV rfl) (H2.zos (k:=0) (cap:=some 1) (n:=1) (e:=1) rfl (Zaf _) rfl (λv hv=>by rw [List.mem_singleton.1 hv];rfl))) ?_;rw [if_neg c];rfl
theorem zmr {v:AV} {z:Int} (hv:qp v z):Pure Tryz.prog B 285 [v] (λv=>∃ n:Nat,v=I (n:Int)/\n<=64):=by
 have hv0:=hv;obtain ⟨s,w,rfl,rfl,rfl,hv⟩:=hv;unfold nR at hv;refine zT λh nx K H0 hK=>zM zQ yA 100 λhf => ?_;rw [jy.go,jy.t11,zA,jy.zw];refine H0.box (l:=[I z,.za]) rfl λpa h1 nx1 H1 => ?_;rw [zA,jy.zu,H1.zm (k:=0) (n:=2) rfl rfl];refine zjh hv0 _ _ _ _ ?_;rintro _ rfl _;rw [jD,jC,zA,zA,jy.jd,uLen,wm,zB,jy.v4];by_cases c:z=0
 .rw [if_pos c,Zac (by rfl),zD,zA,jy.pu];simp only [zF,zN];rw [jy.ret];exact hK _ _ _ _ _ H1 (zV rfl) ⟨0,rfl,by omega⟩
 .rw [if_neg c,Zab (by simp),zC,zE,zA,jy.fe,jy.r4_0,jy.zh0,uLen,dh (by simp),nk (by simp),uLen,dh (by simp),jy.r4_1,jy.zh1,uIx (i:=0) (by simp) (by simp),uLd (x:=z.natAbs) rfl];refine zqg (by omega) _ _ _ _ ?_;rintro _ ⟨n,rfl,hn⟩ _;have hn64:n<=64:=hn.1;rw [jy.r4_2,jy.zu9,ug (by simp;omega)];simp only [zF,zN];rw [jy.ret];exact hK _ _ _ _ _ H1 (zV rfl) ⟨n,by congr 1;simp,hn64⟩
theorem ze0 (op:KW3->OP) (h:T Blk) (nx:Pa) (k:KW3):sGW (.bool false) false op h nx k=op k:=nr rfl
theorem zdo {v:AV} {z:Int} (hv:qp v z):Pure Tryz.prog B 246 [v] (· = .bool false):=by
 have hv0:=hv;obtain ⟨s,w,rfl,hv⟩:=hv;refine zT λh nx K H0 hK=>zM zQ yA 100 λhf => ?_;rw [ul.go,ul.t3,zA,ul.zw];refine H0.box (l:=[s,w]) rfl λpa h1 nx1 H1 => ?_;rw [zA,ul.zu,ul.sD,ul.sF,H1.zm (k:=0) (n:=2) rfl rfl];refine zmr hv0 _ _ _ _ ?_;rintro _ ⟨n,rfl,hn⟩ _;rw [ul.tO,ul.rU,di,Zab (by omega)];simp only [jH];rw [zem,ul.r1_2,ul.zdq,zem,ul.r1_3,ul.oP];simp only [jH,zZ];simp only [zF,zN];rw [ul.ret];exact hK _ _ _ _ _ H1 (zV rfl) rfl
theorem zji {v:AV} {q:Rat} (hv:jG v q):Pure Tryz.prog B 180 [v] (· = .bool false):=by
 obtain ⟨s,w,s',w',rfl,h1,h2⟩:=hv;refine zT λh nx K H0 hK=>zM zQ yA 100 λhf => ?_;rw [fV.go,fV.t3,zA,fV.zw];refine H0.box (l:=[s,w,s',w']) rfl λpa h1' nx1 H1 => ?_;rw [zA,fV.zu,sFx,H1.qb (k:=0) (l2:=[s,w]) rfl (by simp) rfl];refine zdo ⟨_,_,rfl,h1⟩ _ _ _ _ ?_;rintro _ rfl _;simp only [jB];rw [sFx];rw [H1.qb (k:=0) (l2:=[s',w']) rfl (by simp) rfl,ze0];refine zdo ⟨_,_,rfl,h2⟩ _ _ _ _ ?_;rintro _ rfl _;simp only [zZ];simp only [zF,zN];rw [fV.ret];exact hK _ _ _ _ _ H1 (zV rfl) rfl
theorem zsz {n:Nat} {c:List AV} {q:List Rat} (hc:rA c q) (hn:q.length=n) (hn1:n<=1000) (hs:∀ x∈q,Sml x):Pure Tryz.prog B 108 [.lst 4 n c,.fn 180 (.of 180) []] (· = I (-1)):=by
 refine zT λh nx K H0 hK=>zM zQ yA 2000 λhf => ?_;rw [yx.go,yx.t22,zA,yx.zw,zA,zA,yx.zu,zX,zI];refine yx.zcn (λm x5 h' nx'=>∃ k:Nat,x5=I (k:Int)/\m+k=n/\Hp h h' nx' []) (m:=n) (by omega) ⟨0,rfl,rfl,H0⟩ ?_;rintro m z2 z3 z5 z6 z7 h3 nx3 R ⟨k,rfl,hm,H3⟩ hR;rw [yx.t15,zA,yx.jd,jk,zA,zB,yx.v6];by_cases ck:k<n
 .obtain ⟨cs,e1,e2,_,fv⟩:=hc.get (uA (q:=q) (j:=k) (by omega));rw [Zac (by omega),zD,zE,zA,zI,zA,yx.fG,zA,yx.ny,zus (j:=k) rfl ck,zqw (by rw [Zcd];omega),e1,pW];refine zji fv _ _ _ _ ?_;rintro _ rfl _;rw [zB,yx.v7,zC,zE,yx.rF,ug (by omega)];exact hR (m-1) _ _ _ _ _ _ _ (by omega) ⟨k+1,by congr 1,by omega,H3⟩
 .rw [Zab (by omega),zC,zW,yD,zA,yx.rH];simp only [zF,zN];rw [yx.ret];exact hK _ _ _ _ _ H3 (zV rfl) rfl
theorem zs1 {n:Nat} {c:List AV} {q:List Rat} (hc:rA c q) (hn:q.length=n) (hn1:n<=1000) (hs:∀ x∈q,Sml x):Pure Tryz.prog B 179 [.lst 4 n c,.fn 180 (.of 180) []] (· = .bool false):=by
 intro p h nx K hK;refine zM zQ yA 10 λhf => ?_;rw [fZ.go,fZ.t3,zA,fZ.zw,zA,fZ.zu];refine zsz hc hn hn1 hs _ _ _ _ ?_;rintro _ rfl hf2;rw [fC,Zab (by decide)];simp only [zF,zN];rw [fZ.ret];exact hK _ rfl hf2
abbrev zk4 (n:Nat) (Bs:List (List Rat)):List AV:=Bs.map λb=>.lst 1 n (xB b)
theorem zs2 {n:Nat} {cb:List (List AV)} {Bs:List (List Rat)} (hl:cb.length=Bs.length) (hr:∀ a,a<Bs.length->rA (cb.getD a []) (Bs.getD a [])) (hn:∀ b∈Bs,b.length=n) (hn1:n<=1000) (hB:Bs.length<=1000) (hs:∀ b∈Bs,∀ x∈b,Sml x):Pure Tryz.prog B 92 [.lst 1 Bs.length (cb.map λc=>.lst 4 n c)] (· = .tup [.lst 1 Bs.length (zk4 n Bs),I 0]):=by
 refine zT λh nx K H0 hK=>zM zQ yA 2000 λhf => ?_;have H0:=H0.zbv 1;rw [F92.go,F92.t26,zA,F92.zw,zA,F92.zu,zA,zA,F92.jd,zX,zI];refine F92.zmy (λm x3 x7 h' nx'=>∃ (k:Nat) (o:Option Pa),x3=cu o 1 k/\x7=I (k:Int)/\m+k=Bs.length/\Hp h h' nx' [.gro o 1 k ((zk4 n Bs).take k)]) (m:=Bs.length) (by omega) ⟨0,none,rfl,rfl,rfl,H0⟩ ?_;rintro m z1 z2 z3 z4 z7 z8 z9 h3 nx3 R ⟨k,o,rfl,rfl,hm,H3⟩ hR;rw [F92.t18,zA,F92.pu,jk,zA,zB,F92.v8];by_cases ck:k<Bs.length
 .have hb:=yG (d:=[]) ck;have hca:cb[k]? = some (cb.getD k []):=gR (by omega);have hba:Bs[k]? = some (Bs.getD k []):=gR ck;have hx:(zk4 n Bs)[k]? = some (.lst 1 n (xB (Bs.getD k []))):=by rw [List.getElem?_map,hba];rfl
  rw [Zac (by omega),zD,zE,zA,zI,zA,F92.ny,fF (i:=k) rfl ck,ldL (show (cb.map λc=>AV.lst 4 n c)[k]? = some (.lst 4 n (cb.getD k [])) by rw [List.getElem?_map,hca];rfl),zA,zA,F92.ku];refine zs1 (hr k ck) (hn _ hb) hn1 (hs _ hb) _ _ _ _ ?_;rintro _ rfl _;rw [zB,F92.v9,zC,zE,F92.dx];refine zqx (hr k ck) (hn _ hb) hn1 (hs _ hb) _ _ _ _ ?_;rintro _ rfl _;refine H3.dz (l:=[.lst 1 n (xB (Bs.getD k []))]) rfl λtb h4 nx4 H4 => ?_;refine H4.appN (k:=1) (o:=o) (c:=1) (new:=[.lst 1 n (xB (Bs.getD k []))]) rfl (um.rd (l:=[.lst 1 n (xB (Bs.getD k []))]) (n:=1) (H4.own _ (Zaj ..)) rfl) rfl rfl (by decide) (by decide) (by omega) λo' h5 nx5 _ H5 => ?_;have H6:Hp h h5 nx5 [.gro o' 1 (k+1) ((zk4 n Bs).take k++[.lst 1 n (xB (Bs.getD k []))])]:=H5.drop;rw [F92.tH,ug (by omega)];refine hR (m-1) _ _ _ _ _ _ _ _ _ (by omega) ⟨k+1,o',rfl,by congr 1,by omega,?_⟩;rw [Zat,hx,Zdn];exact H6
 .obtain rfl:k=Bs.length:=by omega
  rw [Zaq (by rw [Zah];exact Zaf _)] at H3;rw [Zab (by omega),zC,zW,yD,zA,F92.rW];simp only [zF,zN];rw [F92.ret];refine hK _ _ _ _ _ H3 (gD (H3.zbe (k:=0) rfl λv hv => ?_) (zV rfl)) rfl;obtain ⟨x,_,rfl⟩:=List.mem_map.1 hv;exact xK λv hv=>by obtain ⟨x,_,rfl⟩:=List.mem_map.1 hv;rfl
theorem qac {v:AV} {q:Rat} (hv:jG v q):Pure Tryz.prog B 109 [v] (· = .bool (decide (q≠0))):=by
 obtain ⟨s,w,s',w',rfl,h1,h2⟩:=hv;refine zT λh nx K H0 hK=>zM zQ yA 100 λhf => ?_;rw [ng.go,ng.t3,zA,ng.zw];refine H0.box (l:=[s,w,s',w']) rfl λpa h1' nx1 H1 => ?_;rw [zA,ng.zu,H1.zm (k:=0) (n:=4) rfl rfl];refine bF ⟨s,w,s',w',rfl,h1,h2⟩ _ _ _ _ ?_;rintro _ rfl _;rw [bq];simp only [zF,zN];rw [ng.ret];refine hK _ _ _ _ _ H1 (.bool _) ?_
 congr 1
 by_cases e:q=0
 .rw [Zac (rO.2 (Rat.num_eq_zero.2 e)),Zab (λw:q≠0=>w e)];rfl
 .rw [Zab (λw:gX q.num=0=>e (Rat.num_eq_zero.1 (rO.1 w))),Zac (show q≠0 from e)];rfl
theorem zqy {h0 h:T Blk} {nx p r:Pa} {L:List Ob} {k n:Nat} {c:List AV} {q:List Rat} {K:Kw Prop} (H:Hp h0 h nx L) (hk:L[k]? = some (.arr r c)) (hc:rA c q) (hn:q.length=n) (hn1:n<=1000) (hK0:(∀ j,at' q j=0)->K (I (-1)) h nx=.ok True) (hK1:∀ j:Nat,j<n->at' q j≠0->K (I (j:Int)) h nx=.ok True):(CS Tryz.prog B).fn 108 p [rwV n r,.fn 109 (.of 109) []] h nx K=.ok True:=by
 refine zM zQ yA 2000 λhf => ?_;rw [yx.go,yx.t22,zA,yx.zw,zA,zA,yx.zu,yH,zI];refine yx.zcn (λm x5 h' nx'=>∃ i:Nat,x5=I (i:Int)/\m+i=n/\(∀ j,j<i->at' q j=0)/\h'=h/\nx'=nx) (m:=n) (by omega) ⟨0,rfl,rfl,λj hj=>by omega,rfl,rfl⟩ ?_;rintro m z2 z3 z5 z6 z7 h3 nx3 R ⟨i,rfl,hm,hz,rfl,rfl⟩ hR;rw [yx.t15,zA,yx.jd,jk,zA,zB,yx.v6];by_cases ci:i<n
 .obtain ⟨cs,e1,e2,_,fv⟩:=hc.get (uA (q:=q) (j:=i) (by omega));rw [Zac (by omega),zD,zE,zA,zI,zA,yx.fG,zA,yx.ny,rwIx (j:=i) rfl ci,H.qb hk e2 e1,pW];refine qac fv _ _ _ _ ?_;rintro _ rfl _;rw [zB,yx.v7];by_cases e:at' q i=0
  .rw [Zab (λw=>w e),zC,zE,yx.rF,ug (by omega)];refine hR (m-1) _ _ _ _ _ _ _ (by omega) ⟨i+1,by congr 1,by omega,λj hj => ?_,rfl,rfl⟩;by_cases q:j=i
   .rw [q];exact e
   .exact hz j (by omega)
  .rw [Zac e,zD,zA,yx.ku];simp only [zF,dB,zN];rw [yx.ret];exact hK1 i ci e
 .rw [Zab (by omega),zC,zW,yD,zA,yx.rH];simp only [zF,zN];rw [yx.ret];refine hK0 λj => ?_;by_cases q:j<i
  .exact hz j q
  .exact jN (by omega)
theorem zs3 {f:Pa} {m i:Nat} {op:AV->OP} (hi:i<=m):qP 4 (rwV m f) none (some (I (i:Int))) (some (I (i:Int))) op=op (.sl f 0 i (some i) 4):=by
 have e:qP 4 (rwV m f) none (some (I (i:Int))) (some (I (i:Int))) op=(match bnd (some (I (i:Int))) m m with
  | none=>Out.no 17
  | some m=>match bnd (some (I (i:Int))) m m with
   | none=>Out.no 17
   | some h=>bif Nat.beq m 0 then op (.sl f 0 (h-0) (some 0) 4) else qz (0+0*4) λoff=>qz (h-0) λh=>qz (m-0) λm=>op (.sl f off h (some m) 4)):=rfl
 rw [e,kF hi]
 show (match bnd (some (I (i:Int))) i i with
   | none=>Out.no 17
   | some h=>bif Nat.beq i 0 then op (.sl f 0 (h-0) (some 0) 4) else qz (0+0*4) λoff=>qz (h-0) λh=>qz (i-0) λm=>op (.sl f off h (some m) 4))=_
 rw [kF (Zaf i)];cases i with
 | zero=>rfl
 | succ i=>simp only [yK,Nat.sub_zero];rfl
theorem um.oJ {N:Pa->Prop} {O:AV->Prop} {h:T Blk} {id:Pa} {l:List AV} {cap:Option Nat} {n e:Nat} (H:um h id l) (hid:N id) (hcap:zge n cap) (hn:n*e<=l.length) (hf:∀ v∈l,nu v=true):Frz True N O h (.sl id 0 n cap e) (.lst e n (l.take (n*e))):=by
 obtain ⟨op,t,h1,h2⟩:=H;refine .sl _ _ _ _ _ op _ t _ hid hcap h1 (by omega) (by rw [Zai];omega) (List.all_eq_true.2 λv hv=>nu.uo (hf v (Zeb hv))) λi v hi => ?_;rw [List.getElem?_take] at hi;split at hi
 .have:=yI t 0 l.length i (List.getElem?_eq_some_iff.1 hi).1;rw [h2,hi] at this;rw [<- Option.some.inj this];exact zV (hf v (Zad hi))
 .cases hi
theorem Hp.zs4 {h0 h:T Blk} {nx tb f:Pa} {L:List Ob} {fc:List AV} {i:Nat} (H:Hp h0 h nx (.arr tb [.sl f 0 i (some i) 4]::.arr f fc::L)) (hi:i*4<=fc.length) (hf:∀ v∈fc,nu v=true):∃ h',uU h' h/\Hp h0 h' nx L/\sH h' h (.sl tb 0 1 (some 1) 1) (.lst 1 1 [.lst 4 i (fc.take (i*4))]):=by
 have H1:=Hp.zda H;have H2:=Hp.zda H1;have hk:∀ j,T.get .no j (T.set .no .no f (T.set .no .no tb h))≠.no->T.get .no j h=T.get .no j (T.set .no .no f (T.set .no .no tb h)):=λj hj=>by
  by_cases e:j=f
  .subst e;exact (hj (T.get_set_same _ _ _ _)).elim
  .rw [T.zn _ _ _ _ _ e] at hj ⊢;by_cases e2:j=tb
   .subst e2;exact (hj (T.get_set_same _ _ _ _)).elim
   .exact (T.zn _ _ _ _ _ e2).symm
 have nf:T.get .no f (T.set .no .no f (T.set .no .no tb h))=.no:=T.get_set_same _ _ _ _;have nt:T.get .no tb (T.set .no .no f (T.set .no .no tb h))=.no:=by
  by_cases e:tb=f
  .subst e;exact nf
  .rw [T.zn _ _ _ _ _ e];exact T.get_set_same _ _ _ _
 refine ⟨_,λj hj=>hk j hj,H2,?_⟩;obtain ⟨op,t,h1,h2⟩:=H.own _ (Zaj ..);refine .sl _ _ _ _ _ op _ t _ nt (Zaf 1) h1 (Zaf _) rfl rfl λj v hj => ?_
 match j,hj with
 | 0,hj =>
  obtain rfl:=Option.some.inj hj;have:=yI t 0 1 0 (by decide);rw [show yQ t 0 1=[.sl f 0 i (some i) 4] from h2] at this;rw [<- Option.some.inj this];exact um.oJ (H.own _ (Zam _ (Zaj ..))) nf (Zaf i:zge i (some i)) hi hf
 | j+1,hj=>simp at hj
theorem Hp.zxc {h0 h:T Blk} {nx:Pa} {L:List Ob} {k n e j:Nat} {o:Option Pa} {l l2:List AV} (H:Hp h0 h nx L) (hk:L[k]? = some (.gro o e n l)) (hj:j<n) (hl:l.length=n*e) (he:(l.drop (j*e)).take e=l2):∃ id,(∀ op:AV->OP,zK e (cu o e n) (I (j:Int)) op=op (.ptr id (j*e)))/\∀ op:AV->OP,zJ e (.ptr id (j*e)) h op=op (.agg l2):=by
 obtain ⟨id,rfl⟩:∃ id,o=some id:=by
  cases o with
  | none=>obtain ⟨_,hz⟩:=H.own _ (Zad hk);omega
  | some id=>exact ⟨id,rfl⟩
 have hje:j*e+e<=l.length:=by
  rw [hl];have:=Zbc e (show j+1<=n by omega);rw [Zbd,Zdh] at this;exact this
 refine ⟨id,λop => ?_,λop => ?_⟩
 .rw [show cu (some id) e n=.sl id 0 n none e from rfl,uI hj,Zbe]
 .obtain ⟨t,h1,h2,h3⟩:=H.own _ (Zad hk);show uy (T.get .no id h) (λ_ m' t=>bif Nat.ble (j*e+e) m' then op (.agg (yQ t (j*e) e)) else .no 8) (.no 9)=_;rw [h1];show (bif Nat.ble (j*e+e) (n*e) then op (.agg (yQ t (j*e) e)) else .no 8)=_;rw [Zag (by omega),cond_true,wR (l:=l) (by rw [h2];exact h3) hje,he]
theorem zqz {M:List (List Rat)} {tid p:Pa} {rs:List Pa} {L:List Ob} {w:Nat} {h0 h:T Blk} {nx:Pa} {K:Kw Prop} (H:PM h0 h nx tid rs w L M) (hM:1<=M.length) (hK:K (I (w:Int)) h nx=.ok True):(CS Tryz.prog B).fn 196 p [.sl tid 0 M.length none 1] h nx K=.ok True:=by
 refine zM zQ yA 100 λhf => ?_;obtain ⟨r,hr,ht⟩:=H.tab (y:=0) (by omega);have ix0:∀ op:AV->OP,zK 1 (.sl tid 0 M.length none 1) (I 0) op=op (.ptr tid 0):=λop=>by
  show zK 1 _ (I ((0:Nat):Int)) op=_;rw [uI (show 0<M.length by omega)]
 rw [vz.go,vz.t9,zA,vz.zw,zA,zA,vz.zu,yH,wm,Zab (by omega),zB,vz.v2,zC,zE,zA,vz.ku,ix0,ht,rv9,yH];simp only [zF,zN];rw [vz.ret];exact hK
theorem ze1 {M:List (List Rat)} {tid:Pa} {rs:List Pa} {L:List Ob} {w k:Nat} {h0 h hX:T Blk} {nx:Pa} (H:PM h0 h nx tid rs w L M) (hk:k<=M.length) (hX1:T.get .no tid hX=.no) (hX2:∀ r∈rs,T.get .no r hX=.no):sH hX h (.sl tid 0 k none 1) (wL (M.take k)):=by
 obtain ⟨h1,h2,h3⟩:=H;obtain ⟨op,t,e1,e2⟩:=h3.own _ (Zaj ..);have hl:((M.take k).map gS).length=k:=by rw [Zah,Zai];omega
 have hrl:(rs.map (rv9 w)).length=M.length:=by rw [Zah];exact h1
 have:wL (M.take k)=.lst 1 k ((M.take k).map gS):=by
  show AV.lst 1 (M.take k).length _=_;rw [Zai,Zbp hk]
 rw [this];refine .sl _ _ _ _ _ op _ t _ hX1 trivial e1 (by omega) (by omega) (List.all_eq_true.2 λv hv=>by obtain ⟨x,_,rfl⟩:=List.mem_map.1 hv;rfl) λi v hi => ?_;have hik:=(List.getElem?_eq_some_iff.1 hi).1;have hiM:i<M.length:=by omega
 have hMi:M[i]? = some M[i]:=List.getElem?_eq_getElem hiM;obtain ⟨ri,hri⟩:∃ ri,rs[i]? = some ri:=⟨_,List.getElem?_eq_getElem (show i<rs.length by omega)⟩;rw [List.getElem?_map,List.getElem?_take_of_lt (by omega),hMi] at hi;obtain rfl:=Option.some.inj hi;have hc:=yI t 0 (rs.map (rv9 w)).length i (by omega);rw [e2,List.getElem?_map,hri] at hc;rw [<- Option.some.inj hc];have hob:=xI (b:=L) (uM hri hMi);have hown:=h3.own _ (Zam _ (Zad hob));have hlw:=h2 _ (Zav hiM);have:=um.oJ (N:=λid=>T.get .no id hX=.no) (O:=λv=>(∃ id off,v=.ptr id off/\T.get .no id hX≠.no)\/(∃ id,v=.yld id/\T.get .no id hX≠.no)\/(∃ id,v=.map id/\T.get .no id hX≠.no)\/(∃ id off ln cap esz,v=.sl id off ln cap esz/\T.get .no id hX≠.no)) (n:=w) (e:=1) (cap:=none) hown (hX2 _ (Zad hri)) trivial (by rw [Zah];omega) λv hv=>by obtain ⟨x,_,rfl⟩:=List.mem_map.1 hv;rfl
 rw [Zaq (by rw [Zah];omega)] at this;show Frz _ _ _ _ (.sl _ 0 w none 1) (.lst 1 M[i].length (M[i].map T9));rw [hlw];exact this
theorem PM.frz {M:List (List Rat)} {tid:Pa} {rs:List Pa} {L:List Ob} {w k:Nat} {h0 h:T Blk} {nx:Pa} (H:PM h0 h nx tid rs w L M) (hk:k<=M.length):sH h0 h (.sl tid 0 k none 1) (wL (M.take k)) :=
 ze1 H hk (H.2.2.off tid (List.mem_flatMap.2 ⟨_,Zaj ..,by simp [Ob.names]⟩)) λr hr=>by
  obtain ⟨i,hi⟩:=List.mem_iff_getElem?.1 hr;have hil:=(List.getElem?_eq_some_iff.1 hi).1;have hMi:M[i]? = some (M[i]'(by rw [<- H.1];exact hil)):=List.getElem?_eq_getElem _;exact H.2.2.off r (List.mem_flatMap.2 ⟨Ob.arr r _,Zam _ (Zad (xI (uM hi hMi))),by simp [Ob.names]⟩)
theorem zk5 {h0:T Blk} {nx:Pa} {L:List Ob}:∀ (rs:List Pa) (M:List (List Rat)) (h:T Blk),rs.length=M.length->Hp h0 h nx (yS rs M++L)->∃ h',uU h' h/\(∀ r∈rs,T.get .no r h'=.no)/\Hp h0 h' nx L
 | [],[],h,_,H=>⟨h,λ_ _=>rfl,by simp,H⟩
 | r::rs,l::M,h,hl,H=>by
  have H1:Hp h0 h nx (.arr r (l.map T9)::(yS rs M++L)):=H;obtain ⟨h',k1,k2,k3⟩:=zk5 rs M _ (by simpa using hl) H1.zda;have nr:T.get .no r (T.set .no .no r h)=.no:=T.get_set_same _ _ _ _;refine ⟨h',λj hj => ?_,λx hx => ?_,k3⟩
  .have e:=k1 j hj;have hne:j≠r:=λq=>by rw [<- e,q,nr] at hj;exact hj rfl
   rw [<- e,T.zn _ _ _ _ _ hne]
  .rcases List.mem_cons.1 hx with rfl | hx
   .refine Classical.byContradiction λc=>c ?_;rw [<- k1 _ c];exact nr
   .exact k2 x hx
 | [],_::_,_,h,_=>by simp at h
 | _::_,[],_,h,_=>by simp at h
theorem PM.zu3 {M:List (List Rat)} {tid:Pa} {rs:List Pa} {L:List Ob} {w:Nat} {h0 h:T Blk} {nx:Pa} (H:PM h0 h nx tid rs w L M):∃ h',uU h' h/\Hp h0 h' nx L/\T.get .no tid h'=.no/\∀ r∈rs,T.get .no r h'=.no:=by
 obtain ⟨h',k1,k2,k3⟩:=zk5 rs M _ H.1 H.2.2.zda;have nr:T.get .no tid (T.set .no .no tid h)=.no:=T.get_set_same _ _ _ _;refine ⟨h',λj hj => ?_,k3,Classical.byContradiction λc=>c ?_,k2⟩
 .have e:=k1 j hj;have hne:j≠tid:=λq=>by rw [<- e,q,nr] at hj;exact hj rfl
  rw [<- e,T.zn _ _ _ _ _ hne]
 .rw [<- k1 _ c];exact nr
def zu4 (j i:Nat) (li lr:List Rat) (M:List (List Rat)) (r:Nat):Prop :=
 Qd (li.getD j 0)⁻¹/\(∀ q∈li.map (· * (li.getD j 0)⁻¹),Qd q)/\∀ l∈((M.set i lr).set r li).set r (li.map (· * (li.getD j 0)⁻¹)),∀ q∈li.map (· * (li.getD j 0)⁻¹),Qd (l.getD j 0*q)
theorem zms {M0:List (List Rat)} {w:Nat} (Good:Nat->List (List Rat)->List Nat->Prop) (hw1:1<=w) (hw:w<=1000) (hM1:1<=M0.length) (hM:M0.length<=1000) (hrow:∀ l∈M0,l.length=w) (g0:Good 0 M0 [])
  (sz:∀ j M P,Good j M P->j<w->P.length<M.length->M.length=M0.length->∀ l∈M,∀ q∈l,Qd q)
  (step0:∀ j M P,Good j M P->j<w->P.length<M.length->M.length=M0.length->(∀ i' l,P.length<=i'->M[i']? = some l->l.getD j 0=0)->Good (j+1) M P)
  (step1:∀ j M P i li lr,Good j M P->j<w->P.length<M.length->P.length<=i->M.length=M0.length->M[i]? = some li->M[P.length]? = some lr->li.getD j 0≠0->Good (j+1) (aR i P.length j li lr M) (P++[j])/\zu4 j i li lr M P.length) :
  Pure Tryz.prog B 190 [wL M0] (λv=>∃ j M P,Good j M P/\M.length=M0.length/\P.length<=M.length/\(j=w\/P.length=M.length)/\v=.tup [wL (M.take P.length),.lst 1 P.length (P.map D)]):=by
 refine zT λh nx K H0 hK=>zM zQ yA 100010 λhf => ?_;rw [ze.go,ze.t84,zA,ze.zw,zA,ze.zu];refine zwy H0 hw1 (by omega) hrow (by omega) λo rs h1 nx1 hrs H1 => ?_;obtain ⟨tid,rfl⟩:∃ id,o=some id:=by
  cases o with
  | none=>obtain ⟨_,hz⟩:=H1.own _ (Zaj ..);omega
  | some id=>exact ⟨id,rfl⟩
 have H2:=H1.af.sw 1;have H3:=H2.perm ((List.Perm.swap _ _ _).trans ((Zdl _ _).symm.cons _));have hP0:PM h h1 nx1 tid rs w [.gro none 1 0 []] M0:=⟨hrs,hrow,H3⟩;rw [show cu (some tid) 1 M0.length=.sl tid 0 M0.length none 1 from rfl,zA,ze.jd,zA,zA,ze.pu,zI];refine ze.zxt (λm x3 x4 h' nx'=>∃ (j:Nat) (M:List (List Rat)) (P:List Nat) (o:Option Pa) (rs:List Pa),x3=cu o 1 P.length/\x4=I (j:Int)/\m+j=w/\M.length=M0.length/\P.length<=M.length/\Good j M P/\PM h h' nx' tid rs w [.gro o 1 P.length (P.map D)] M) (m:=w) (by omega) ⟨0,M0,[],none,rs,rfl,rfl,rfl,rfl,Zeh _,g0,hP0⟩ ?_;rintro m z3 z4 z5 z6 z7 z8 z9 z10 z11 z12 z13 z14 z15 z16 z17 z18 h3 nx3 R ⟨j,M,P,o,rs,rfl,rfl,hm,hMl,hPl,hg,H⟩ hR;have hlen:∀ KK:AV->OP,sLen (cu o 1 P.length) KK=KK (I (P.length:Int)):=λKK=>by
  cases o with
  | some id=>exact yH ..
  | none =>
   obtain ⟨_,e⟩:P.map D=[]/\P.length=0:=H.2.2.own (.gro none 1 P.length (P.map D)) (by simp);rw [e];exact yJ ..
 have stop:(j=w\/P.length=M.length)->∀ {y12:AV},y12=.bool false->IR.run ze.t5 (CS Tryz.prog B) 100010 ((fnO ze.res K).blk 0 (IR.run ze.t80 (CS Tryz.prog B) 100010 (fnO ze.res K) (zi ze.res K))) (IR.run ze.t74 (CS Tryz.prog B) 100010 ((fnO ze.res K).blk 0 (IR.run ze.t80 (CS Tryz.prog B) 100010 (fnO ze.res K) (zi ze.res K))) R) (ze.fr (.sl tid 0 M0.length none 1) .za .za (cu o 1 P.length) (I (j:Int)) z5 z6 z7 z8 z9 z10 z11 y12 z13 z14 z15 z16 z17 z18) h3 nx3=.ok True:=by
  rintro he _ rfl;rw [ze.t5,zB,ze.v12,zC,zW,yD,ze.t80,zA,ze.zxu,hlen,zz2 (by omega)];simp only [zF,zN];rw [ze.ret];refine hK _ _ _ _ _ H.2.2 (gD (H.frz hPl) (H.2.2.zbe (k:=1+M.length) ?_ λv hv=>by obtain ⟨x,_,rfl⟩:=List.mem_map.1 hv;rfl)) ⟨j,M,P,hg,hMl,hPl,he,rfl⟩;have hrl:(yS rs M).length=M.length:=by unfold yS;rw [Zcp,H.1,Nat.min_self]
  rw [Zdc,List.getElem?_cons_succ,List.getElem?_append_right (by omega),hrl,Zcj];rfl
 rw [ze.t75,zA,zA,ze.fG,ze.r4_0,ze.zh0,<- hMl];refine zqz H (by omega) ?_;rw [ze.r4_1,ze.zh1,jk];by_cases cj:j<w
 case neg =>
  rw [Zab (by omega)];simp only [jH];rw [zZ,hMl];exact stop (.inl (by omega)) rfl
 rw [Zac (by omega)];simp only [yO];rw [hlen,yH,jk,zY];by_cases cP:P.length<M.length
 case neg =>
  rw [Zab (by omega),hMl];exact stop (.inr (by omega)) rfl
 rw [Zac (by omega),ze.t5,zB,ze.v12,zD,zE,ze.t74,zA,zI,zA,ze.fe,hlen,zA,zI];refine zsu H hPl cj (by omega) (Zaf _) λi x13 hri hiM hz hnz => ?_;by_cases ci:i<M.length
 case neg =>
  obtain rfl:i=M.length:=by omega
  rw [ze.t69,zA,zA,ze.rG,yH,wm,Zac rfl,zB,ze.v14,zD,zW,yD,ze.ztg,ug (by omega),hMl];exact hR (m-1) _ _ _ _ _ _ _ _ _ _ _ _ _ _ _ _ _ _ (by omega) ⟨j+1,M,P,o,rs,rfl,by congr 1,by omega,hMl,hPl,step0 j M P hg cj cP hMl λi' l h1 h2=>hz i' l h1 (List.getElem?_eq_some_iff.1 h2).1 h2,H⟩
 have hli:M[i]? = some M[i]:=List.getElem?_eq_getElem ci;have hlr:M[P.length]? = some M[P.length]:=List.getElem?_eq_getElem cP;obtain ⟨hg2,hs1,hs2,hs3⟩:=step1 j M P i _ _ hg cj cP hri hMl hli hlr (hnz _ hli);refine zw3 H hli hlr (hnz _ hli) cj (by omega) (by omega) (Zaf _) (sz j M P hg cj cP hMl) hs1 hs2 hs3 (by omega) λo' rs' h4 nx4 x5 x6 x7 x8 x9 x10 x11 x12 x13 x14 x15 x16 x17 x18 H4 => ?_;rw [ze.ztg,ug (by omega),hMl];have hml:(aR i P.length j M[i] M[P.length] M).length=M.length:=by unfold aR au;rw [Zfn,Zas,Zas,Zas]
 exact hR (m-1) _ _ _ _ _ _ _ _ _ _ _ _ _ _ _ _ _ _ (by omega) ⟨j+1,_,P++[j],o',rs',by rw [Zae];rfl,by congr 1,by omega,by rw [hml,hMl],by rw [Zae,Zbf,hml];exact cP,hg2,by rw [Zae];exact H4⟩
end Go.Ev
namespace Go.Ev
open Go Go.Proofs
def Od (x:Int):Prop:=x = -1\/x=1
def hfI:List Int->List Int->List Int
 | x::a,y::b=>(x-y) / 2::hfI a b
 | _,_=>[]
theorem zcd:∀ (a b:List Int) w s,a.length=b.length->(∀ x∈a,Od x)->(∀ x∈b,Od x)->wdg a w s=2*wdg (hfI a b) w s+wdg b w s
 | [],[],_,_,_,_,_=>by simp only [wdg,hfI];rfl
 | x::a,y::b,_,[],_,_,_=>by simp only [wdg,hfI];rfl
 | x::a,y::b,w,false::s,h,ha,hb=>zcd a b (λt=>w (false::t)) s (by simpa using h) (λz hz=>ha z (Zam _ hz)) λz hz=>hb z (Zam _ hz)
 | x::a,y::b,w,true::s,h,ha,hb=>by
  have ih:=zcd a b (λt=>w (true::t)) s (by simpa using h) (λz hz=>ha z (Zam _ hz)) λz hz=>hb z (Zam _ hz);have e:2*((x-y) / 2)=x-y:=by
   rcases ha x (Zaj ..) with rfl | rfl <;> rcases hb y (Zaj ..) with rfl | rfl <;> decide
  show x*w (false::s)-wdg a (λt=>w (true::t)) s=2*((x-y) / 2*w (false::s)-wdg (hfI a b) (λt=>w (true::t)) s)+(y*w (false::s)-wdg b (λt=>w (true::t)) s);rw [ih];have e2:2*((x-y) / 2*w (false::s))=(x-y)*w (false::s):=by rw [<- Int.mul_assoc,e]
  grind
 | [],_::_,_,_,h,_,_=>by simp at h
 | _::_,[],_,_,h,_,_=>by simp at h
theorem ze2:∀ n (v w:List Bool->Int),(∀ s:List Bool,s.length=n->v s=2*w s)->ipf n v v=4*ipf n w w
 | 0,v,w,h=>by simp only [ipf];rw [h [] rfl];grind
 | n+1,v,w,h=>by
  simp only [ipf];rw [ze2 n (λt=>v (false::t)) (λt=>w (false::t)) λs hs=>h _ (by simp [hs]),ze2 n (λt=>v (true::t)) (λt=>w (true::t)) λs hs=>h _ (by simp [hs])]
  grind
theorem zs5 (b:List Int) (v w:List Bool->Int) (s:List Bool) (h:∀ t:List Bool,t.length=s.length->v t=2*w t):wdg b v s=2*wdg b w s:=by
 have e:=pT 2 b w v s;rw [vL b _ s λt ht=>by rw [h t ht];omega] at e;omega
theorem zjj:∀ l:List Int,(∀ x∈l,Od x)->sqV l=(l.length:Int)
 | [],_=>rfl
 | x::l,h=>by
  have:=zjj l λy hy=>h y (Zam _ hy);rw [sqV,Zbb,this];rcases h x (Zaj ..) with rfl | rfl <;> omega
theorem zk6 {n:Nat} (hn:4<=n) {b0:List Int} (h0:b0.length=n) (o0:∀ x∈b0,Od x):∀ L:List (List Int),(∀ a∈L,a.length=n/\∀ x∈a,Od x)->∃ w:List Bool->Int,(∃ s:List Bool,s.length=n/\w s≠0)/\(∀ s:List Bool,s.length=n->w s≠0->s.count true<=L.length+1)/\ipf n w w*4 ^ L.length<=(n:Int) ^ (L.length+1)/\∀ a,a=b0\/a∈L->∀ s:List Bool,s.length=n->wdg a w s=0
 | [],_=>by
  obtain ⟨w,h1,h2,h3,h4⟩:=zi8 (n:=n) (B:=(n:Int)) (by omega) [b0] λa ha=>by
   rw [List.mem_singleton.1 ha,zjj b0 o0,h0];exact ⟨rfl,Zgo _⟩
  refine ⟨w,h1,h2,?_,λa ha=>h4 a ?_⟩
  .show ipf n w w*1<=_;rw [Int.mul_one];exact h3
  .rcases ha with rfl | ha
   .exact List.mem_singleton.2 rfl
   .cases ha
 | a::L,h=>by
  obtain ⟨w,⟨s0,hs0,hw0⟩,hd,hi,hk⟩:=zk6 hn h0 o0 L λb hb=>h b (Zam _ hb);obtain ⟨hal,hao⟩:=h a (Zaj ..);have hlen:∀ b,b=b0\/b∈L->b.length=n:=λb hb=>hb.elim (λe=>e ▸ h0) λhb=>(h b (Zam _ hb)).1;have p4:(4:Int) ^ (a::L).length=4 ^ L.length*4:=Int.pow_succ ..;have pn:(n:Int) ^ ((a::L).length+1)=(n:Int) ^ (L.length+1)*(n:Int):=Int.pow_succ ..;have pp:0<=(n:Int) ^ (L.length+1):=Zep (by omega);by_cases c:∀ s:List Bool,s.length=n->wdg a w s=0
  .refine ⟨w,⟨s0,hs0,hw0⟩,λs hs e=>Zgx (hd s hs e),?_,λb hb => ?_⟩
   .rw [p4,pn,<- Int.mul_assoc];have h1:=Zco hi (show (0:Int)<=4 by decide);have h2:=Zdp (show (4:Int)<=(n:Int) by omega) pp;omega
   .rcases hb with rfl | hb
    .exact hk b (.inl rfl)
    .rcases List.mem_cons.1 hb with rfl | hb
     .exact c
     .exact hk b (.inr hb)
  .obtain ⟨s1,h1,hw1⟩:∃ s:List Bool,s.length=n/\wdg a w s≠0:=by
    refine Classical.byContradiction λe=>c λs hs=>Classical.byContradiction λq=>e ⟨s,hs,q⟩
   have hf:∀ s:List Bool,s.length=n->wdg a w s=2*wdg (hfI a b0) w s:=λs hs=>by
    rw [zcd a b0 w s (by rw [hal,h0]) hao o0,hk b0 (.inl rfl) s hs];omega
   refine ⟨wdg (hfI a b0) w,⟨s1,h1,λe=>hw1 (by rw [hf s1 h1,e];rfl)⟩,λs hs e => ?_,?_,λb hb s hs => ?_⟩
   .obtain ⟨t,t1,t2,t3⟩:=bZ (hfI a b0) w s e;have:=hd t (by rw [t1];exact hs) t2;rw [Zbb];omega
   .have e1:=zp6 a w;rw [hal,zjj a hao,hal,ze2 n _ _ hf] at e1;rw [p4,pn];have q4:(0:Int)<=4 ^ L.length:=Zep (by decide);have h1:=Zco e1 q4;have h2:=Zdp hi (show (0:Int)<=(n:Int) by omega);have e2:4*ipf n (wdg (hfI a b0) w) (wdg (hfI a b0) w)*4 ^ L.length=ipf n (wdg (hfI a b0) w) (wdg (hfI a b0) w)*(4 ^ L.length*4):=by grind
    have e3:(n:Int)*ipf n w w*4 ^ L.length=(n:Int)*(ipf n w w*4 ^ L.length):=Int.mul_assoc ..;have e4:(n:Int)*(n:Int) ^ (L.length+1)=(n:Int) ^ (L.length+1)*(n:Int):=Int.mul_comm ..;omega
   .have hb2:wdg b (wdg a w) s=0:=by
     have old:b=b0\/b∈L->wdg b (wdg a w) s=0:=λhb=>by
      rw [wY b a w s (by rw [hlen b hb,hal]),vL a _ s λt ht=>hk b hb t (by rw [ht];exact hs)];rfl
     rcases hb with hb | hb
     .exact old (.inl hb)
     .rcases List.mem_cons.1 hb with rfl | hb
      .have:=wY b b w s rfl;omega
      .exact old (.inr hb)
    have:=zs5 b (wdg a w) (wdg (hfI a b0) w) s λt ht=>hf t (by rw [ht];exact hs);omega
theorem hadO {n:Nat} (hn:4<=n) {b0:List Int} (h0:b0.length=n) (o0:∀ x∈b0,Od x) (L:List (List Int)) (h:∀ a∈L,a.length=n/\∀ x∈a,Od x) (hL:L.length+1<n):∃ x:List Int,x.length=n/\(∃ j,x.getD j 0≠0)/\sqV x*4 ^ L.length<=(n:Int) ^ (L.length+1)/\∀ a,a=b0\/a∈L->dtI a x=0:=by
 obtain ⟨w,⟨s,hs,hw⟩,hd,hi,hk⟩:=zk6 hn h0 o0 L h;obtain ⟨S,hS,hj⟩:=zp8 s w hw (by have:=hd s hs hw;omega);have hSn:S.length=n:=by rw [hS,hs]
 refine ⟨xvL S w,by rw [bY];exact hSn,hj,?_,λa ha => ?_⟩
 .have e:=zkk S w;rw [hSn] at e;have:=Zco e (show (0:Int)<=4 ^ L.length from Zep (by decide));omega
 .have hal:a.length=n:=ha.elim (λe=>e ▸ h0) λha=>(h a ha).1;rw [<- zep a w S (by rw [hSn,hal])];exact hk a ha S hSn
def ZB:Nat:=2356
theorem zxd:∀ r<12,(r+2) ^ (r+1)<=5555448*4 ^ r:=by decide
theorem zq0 (F G:Nat->Int):∀ k,sI k (λj=>F j+G j)=sI k F+sI k G
 | 0=>rfl
 | k+1=>by rw [sI,sI,sI,zq0 F G k];omega
theorem ze3 (c:Int) (F:Nat->Int):∀ k,sI k (λj=>c*F j)=c*sI k F
 | 0=>by simp [sI]
 | k+1=>by rw [sI,sI,ze3 c F k];grind
theorem zk7 {F:Nat->Int}:∀ {k:Nat},(∀ j,j<k->F j=0)->sI k F=0
 | 0,_=>rfl
 | k+1,h=>by rw [sI,zk7 λj hj=>h j (by omega),h k (by omega)];rfl
theorem qad {r:Nat} (hr:r<12) (hr2:2<=r) (f0:Nat->Int) (c0:Int) (ho:(∀ j,Od (f0 j))/\Od c0) (f:Nat->Nat->Int) (hf:∀ i j,Od (f i j)):∃ (x:Nat->Int) (z:Int),((∃ j,j<=r/\x j≠0)\/z≠0)/\(∀ j,(x j).natAbs<=ZB)/\sI (r+1) (λj=>f0 j*x j)+c0*z=0/\∀ i,i<r->sI (r+1) (λj=>f i j*x j)+1*z=0:=by
 have hro:∀ (g:Nat->Int) (c:Int),(∀ j,Od (g j))->Od c->((List.range (r+1)).map g++[c]).length=r+2/\∀ x∈(List.range (r+1)).map g++[c],Od x:=λg c h1 h2=>by
  refine ⟨by simp,λx hx => ?_⟩;rcases List.mem_append.1 hx with q | q
  .obtain ⟨j,_,rfl⟩:=List.mem_map.1 q;exact h1 j
  .rw [List.mem_singleton.1 q];exact h2
 obtain ⟨X,hX,⟨j,hj⟩,hs,hk⟩:=hadO (n:=r+2) (by omega) (hro f0 c0 ho.1 ho.2).1 (hro f0 c0 ho.1 ho.2).2 ((List.range r).map λi=>(List.range (r+1)).map (f i)++[1]) (λa ha=>by
  obtain ⟨i,_,rfl⟩:=List.mem_map.1 ha;exact hro (f i) 1 (hf i) (.inr rfl)) (by simp)
 have hxe:X=(List.range (r+1)).map (λj=>X.getD j 0)++[X.getD (r+1) 0]:=by
  refine Zeu (by simp [hX]) λi h1 h2 => ?_;by_cases e:i<r+1
  .rw [List.getElem_append_left (by simpa using e)];simp [Zaa,h1]
  .obtain rfl:i=r+1:=by omega
   rw [List.getElem_append_right (by simp)];simp [Zaa,h1]
 have dt:∀ (g:Nat->Int) (c:Int),dtI ((List.range (r+1)).map g++[c]) X=sI (r+1) (λj=>g j*X.getD j 0)+c*X.getD (r+1) 0:=λg c=>by
  conv=>lhs;rw [hxe]
  rw [zbu _ _ _ _ (by simp),mN]
 refine ⟨λj=>X.getD j 0,X.getD (r+1) 0,?_,λj => ?_,?_,λi hi => ?_⟩
 .by_cases e:j<=r
  .exact .inl ⟨j,e,hj⟩
  .by_cases e2:j=r+1
   .exact .inr (e2 ▸ hj)
   .exact absurd (by rw [Zaa,List.getElem?_eq_none (by omega)];rfl) hj
 .have h1:=zeq X j;rw [Zah,Zdx] at hs;have h2:=zxd r hr;have h3:(((r+2:Nat):Int)) ^ (r+1)=(((r+2) ^ (r+1):Nat):Int):=by simp
  have h4:(4:Int) ^ r=((4 ^ r:Nat):Int):=by simp
  rw [h3,h4] at hs;have hp:0<4 ^ r:=Zgp (by decide);have h5:sqV X<=5555448:=by
   refine Int.not_lt.1 λc => ?_;have:=Zco (show (5555449:Int)<=sqV X by omega) (show (0:Int)<=((4 ^ r:Nat):Int) by omega);omega
  show (X.getD j 0).natAbs<=2356;refine Zfx λc => ?_;have h6:=Zcb (show 2357<=(X.getD j 0).natAbs from c) (show 2357<=(X.getD j 0).natAbs from c);have h7:=Zgm (a:=X.getD j 0);omega
 .rw [<- dt];exact hk _ (.inl rfl)
 .rw [<- dt];exact hk _ (.inr (List.mem_map.2 ⟨i,List.mem_range.2 hi,rfl⟩))
theorem zs6 {r:Nat} (hr:r<=11) (a:Nat->Nat->Int) (ha:∀ i j,a i j=0\/a i j=1):∃ x:Nat->Int,(∃ j,j<=r/\x j≠0)/\(∀ j,(x j).natAbs<=ZB)/\∀ i,i<r->sI (r+1) (λj=>a i j*x j)=0:=by
 by_cases h2:2<=r
 case neg =>
  exact zeu (R:=1) (Bd:=ZB) (by omega) (by decide) a λi j=>(ha i j).elim (λe=>.inr (.inl e)) λe=>.inr (.inr e)
 obtain ⟨x,z,h1,h3,h4,h5⟩:=qad (by omega) h2 (λ_=>1) (-1) ⟨λ_=>.inr rfl,.inl rfl⟩ (λi j=>2*a i j-1) λi j=>by
  rcases ha i j with e | e <;> rw [e]
  .exact .inl rfl
  .exact .inr rfl
 refine ⟨x,?_,h3,λi hi => ?_⟩
 .rcases h1 with h1 | h1
  .exact h1
  .refine Classical.byContradiction λc=>h1 ?_;have:sI (r+1) (λj=>1*x j)=0:=zk7 λj hj=>by
    have:x j=0:=Classical.byContradiction λq=>c ⟨j,by omega,q⟩;rw [this];rfl
   omega
 .have e:=h5 i hi;have e2:sI (r+1) (λj=>(2*a i j-1)*x j)=2*sI (r+1) (λj=>a i j*x j) + -1*sI (r+1) (λj=>1*x j):=by
   rw [<- ze3,<- ze3,<- zq0];exact zg0 λj _=>by grind
  omega
def SmP (M0:List (List Rat)):Prop:=∀ (O:List (List Rat)) (c:Nat->Nat),(∀ o∈O,o∈M0)->O.length<=11->∃ x:Nat->Int,(∃ j,j<=O.length/\x j≠0)/\(∀ j,(x j).natAbs<=ZB)/\∀ o∈O,sR (O.length+1) (λj=>at' o (c j)*(x j:Rat))=0
structure Gd (w:Nat) (M0:List (List Rat)) (j:Nat) (M:List (List Rat)) (P:List Nat):Prop where
 jw:j<=w
 row:∀ l∈M,l.length=w
 pl:P.length<=j
 pm:P.length<=M.length
 rng:∀ p∈P,p<j
 asc:P.Pairwise (· < ·)
 one:∀ a b,a<P.length->b<P.length->at' (M.getD a []) (P.getD b 0)=if a=b then 1 else 0
 zer:∀ a,P.length<=a->∀ c,c<j->at' (M.getD a []) c=0
 lead:∀ a,a<P.length->∀ c,c<P.getD a 0->at' (M.getD a []) c=0
 org:∃ O:List (List Rat),O.length=P.length/\(∀ o∈O,o∈M0)/\(∀ f:List Rat,f.length=w->(∀ o∈O,dot o f=0)->∀ a,a<P.length->dot (M.getD a []) f=0)/\∀ a,P.length<=a->a<M.length->∃ o∈M0,∀ f:List Rat,f.length=w->(∀ o∈O,dot o f=0)->dot (M.getD a []) f=dot o f
 full:∀ f:List Rat,f.length=w->(∀ l∈M,dot l f=0)->∀ o∈M0,dot o f=0
theorem Gd.start {w:Nat} {M0:List (List Rat)} (h:∀ l∈M0,l.length=w):Gd w M0 0 M0 [] :=
 ⟨Zeh _,h,Zaf _,Zeh _,by simp,by simp,λa b h=>by simp at h,λa _ c h=>by omega,λa h=>by simp at h,⟨[],rfl,by simp,λf _ _ a h=>by simp at h,λa _ ha=>⟨_,yG ha,λ_ _ _=>rfl⟩⟩,λf _ hz o ho=>hz o ho⟩
theorem Gd.skip {w j:Nat} {M0 M:List (List Rat)} {P:List Nat} (h:Gd w M0 j M P) (hj:j<w) (hz:∀ i' l,P.length<=i'->M[i']? = some l->l.getD j 0=0):Gd w M0 (j+1) M P :=
 ⟨hj,h.row,Zgx h.pl,h.pm,λp hp=>Zdz (h.rng p hp),h.asc,h.one,λa ha c hc=>by
  by_cases e:c=j
  .subst e;by_cases ha2:a<M.length
   .exact hz a _ ha (gR ha2)
   .rw [Zaa,List.getElem?_eq_none (by omega)];exact jN (Zeh _)
  .exact h.zer a ha c (by omega),h.lead,h.org,h.full⟩
theorem Gd.col {w j:Nat} {M0 M:List (List Rat)} {P:List Nat} (h:Gd w M0 j M P) (hS:SmP M0) (hsg:∀ o∈M0,o.length=w/\∀ c,Sg (at' o c)) (hP:P.length<=11) (c:Nat):∃ t,1<=t/\t<=ZB/\(∀ a,a<P.length->Dn t ZB (at' (M.getD a []) c))/\∀ a,P.length<=a->a<M.length->Dn t (12*ZB) (at' (M.getD a []) c):=by
 obtain ⟨O,hol,hom,hker,hrest⟩:=h.org;have hln:∀ a,a<M.length->(M.getD a []).length=w:=λa ha=>h.row _ (yG ha);have hpm:=h.pm;rcases Zcz c w with hc | hc
 case inr =>
  refine ⟨1,Zaf _,by decide,λa ha => ?_,λa _ ha => ?_⟩
  .rw [jN (by rw [hln a (by omega)];exact hc)];exact Dn.zero _ _
  .rw [jN (by rw [hln a ha];exact hc)];exact Dn.zero _ _
 obtain ⟨x,⟨b,hb,hb0⟩,hx,hz⟩:=hS O (aP P.length P c) hom (by omega);have hcR:∀ i,aP P.length P c i<w:=λi=>by
  unfold aP;by_cases q:i<P.length
  .rw [if_pos q];exact Zcm (h.rng _ (yG q)) h.jw
  .rw [if_neg q];exact hc
 have hpl:∀ v:List Rat,v.length=w->dot v (plF w (aP P.length P c) (λi=>(x i:Rat)) (P.length+1))=sR P.length (λb=>at' v (P.getD b 0)*(x b:Rat))+at' v c*(x P.length:Rat):=λv hv=>by
  rw [xZ hv _ λi _=>hcR i,sR]
  congr 1
  .exact jJ λb hb=>by rw [aP,if_pos hb]
  .rw [aP,if_neg (Zdg _)]
 have hO:∀ o∈O,dot o (plF w (aP P.length P c) (λi=>(x i:Rat)) (P.length+1))=0:=λo ho=>by
  rw [xZ (hsg o (hom o ho)).1 _ λi _=>hcR i,<- hol];have:=hz o ho;rw [hol] at this ⊢;exact this
 have e1:∀ a,a<P.length->(x a:Rat)+at' (M.getD a []) c*(x P.length:Rat)=0:=λa ha=>by
  have e:=hker _ (kQ _) hO a ha;rw [hpl _ (hln a (by omega)),kP (i:=a) (x:=λb=>(x b:Rat)) λb hb=>by rw [h.one a b ha hb],if_pos ha] at e;exact e
 have hxk:x P.length≠0:=λe=>by
  rcases Zcz b P.length with q | q
  .have:=e1 b q;rw [e,show ((0:Int):Rat)=0 from rfl,Zbx,Zdu] at this;exact vD hb0 this
  .obtain rfl:b=P.length:=by omega
   exact hb0 e
 refine ⟨(x P.length).natAbs,by omega,hx _,λa ha => ?_,λa ha ham => ?_⟩
 .exact zg6 (z := -x a) (by have:=e1 a ha;rw [Zcu];grind) (by rw [Zdr];exact hx a)
 .obtain ⟨o,ho,hof⟩:=hrest a ha ham;have e:=hof _ (kQ _) hO;obtain ⟨hol2,hos⟩:=hsg o ho;rw [hpl _ (hln a ham),hpl _ hol2,wD λb hb=>by rw [h.zer a ha _ (h.rng _ (yG hb)),Zbj],Rat.zero_add] at e;refine zg6 (z:=sI P.length (λb=>sgI (at' o (P.getD b 0))*x b)+sgI (at' o c)*x P.length) ?_ ?_
  .rw [e,Zfe,<- xT,Zcg,(hos c).int]
   congr 1
   exact jJ λb _=>by rw [Zcg,(hos _).int]
  .have h1:=zkr (F:=λb=>sgI (at' o (P.getD b 0))*x b) (k:=P.length) λb _=>Zax (zdi _ _) (hx b);have h2:=Zax (zdi (at' o c) (x P.length)) (hx _);have:=Zdy (sI P.length (λb=>sgI (at' o (P.getD b 0))*x b)) (sgI (at' o c)*x P.length);have h3:=Zbc ZB hP;omega
theorem Gd.sz {w j:Nat} {M0 M:List (List Rat)} {P:List Nat} (h:Gd w M0 j M P) (hS:SmP M0) (hsg:∀ o∈M0,o.length=w/\∀ c,Sg (at' o c)) (hP:P.length<=11):∀ l∈M,∀ q∈l,qy (12*ZB) q:=λl hl q hq=>by
 obtain ⟨a,ha⟩:=List.mem_iff_getElem?.1 hl;have ham:=(List.getElem?_eq_some_iff.1 ha).1;have hla:M.getD a []=l:=by rw [Zaa,ha];rfl
 obtain ⟨c,_,rfl⟩:=at_mem hq;obtain ⟨t,t1,t2,t3,t4⟩:=h.col hS hsg hP c;rw [<- hla];by_cases e:a<P.length
 .exact ((t3 a e).mono (by decide)).nm t1 (Zax t2 (by decide))
 .exact (t4 a (by omega) ham).nm t1 (Zax t2 (by decide))
def swR (i k:Nat) (lr row:List Rat) (M:List (List Rat)) (a:Nat):List Rat:=if a=k then row else if a=i then lr else M.getD a []
theorem zhq {i k j:Nat} {li lr:List Rat} {M:List (List Rat)} {a:Nat} (ha:a<M.length):(aR i k j li lr M).getD a []=if a=k then yM (at' li j)⁻¹ li else jT (at' (swR i k lr (yM (at' li j)⁻¹ li) M a) j) (swR i k lr (yM (at' li j)⁻¹ li) M a) (yM (at' li j)⁻¹ li):=by
 have e:(((M.set i lr).set k li).set k (yM (at' li j)⁻¹ li))[a]? = some (swR i k lr (yM (at' li j)⁻¹ li) M a):=by
  unfold swR;by_cases h1:a=k
  .subst h1;rw [if_pos rfl,List.getElem?_set_self (by rw [Zas,Zas];exact ha)]
  .rw [if_neg h1,List.getElem?_set_ne (Ne.symm h1),List.getElem?_set_ne (Ne.symm h1)];by_cases h2:a=i
   .subst h2;rw [if_pos rfl,List.getElem?_set_self ha]
   .rw [if_neg h2,List.getElem?_set_ne (Ne.symm h2),gR (d:=[]) ha]
 have e2:=zcb (r:=k) (j:=j) (lr:=yM (at' li j)⁻¹ li) e;show (au k j (yM (at' li j)⁻¹ li) (((M.set i lr).set k li).set k (yM (at' li j)⁻¹ li))).getD a []=_;rw [Zaa,e2];show vB k j (yM (at' li j)⁻¹ li) a (swR i k lr (yM (at' li j)⁻¹ li) M a)=_;unfold vB;by_cases h1:a=k
 .rw [if_pos h1,if_pos h1,swR,if_pos h1]
 .rw [if_neg h1,if_neg h1];rfl
theorem Gd.piv {w j i:Nat} {M0 M:List (List Rat)} {P:List Nat} {li lr:List Rat} (h:Gd w M0 j M P) (hj:j<w) (hi:P.length<=i) (hli:M[i]? = some li) (hlr:M[P.length]? = some lr) (hv:li.getD j 0≠0):Gd w M0 (j+1) (aR i P.length j li lr M) (P++[j]):=by
 have him:=(List.getElem?_eq_some_iff.1 hli).1;have hkm:=(List.getElem?_eq_some_iff.1 hlr).1;have gi:M.getD i []=li:=by rw [Zaa,hli];rfl
 have gk:M.getD P.length []=lr:=by rw [Zaa,hlr];rfl
 have hlil:=h.row _ (Zad hli);obtain ⟨row,hrow⟩:∃ row,row=yM (at' li j)⁻¹ li:=⟨_,rfl⟩;have hrl:row.length=w:=by rw [hrow,jW];exact hlil
 have hv':at' li j≠0:=hv;have rz:∀ c,c<j->at' row c=0:=λc hc=>by
  rw [hrow,uH,<- gi,h.zer i hi c hc,Zbj]
 have rj:at' row j=1:=by rw [hrow,uH];grind
 have hml:(aR i P.length j li lr M).length=M.length:=by unfold aR au;rw [Zfn,Zas,Zas,Zas]
 have get:∀ a,a<M.length->(aR i P.length j li lr M).getD a []=if a=P.length then row else jT (at' (swR i P.length lr row M a) j) (swR i P.length lr row M a) row:=λa ha=>by
  rw [zhq ha,hrow]
 have zk8:∀ a,a<P.length->swR i P.length lr row M a=M.getD a []:=λa ha=>by
  unfold swR;rw [if_neg (by omega),if_neg (by omega)]
 have swhi:∀ a,P.length<a->a<M.length->∃ a',P.length<=a'/\a'<M.length/\swR i P.length lr row M a=M.getD a' []:=λa ha ham=>by
  unfold swR;rw [if_neg (by omega)];by_cases e:a=i
  .rw [if_pos e];exact ⟨P.length,Zaf _,hkm,gk.symm⟩
  .rw [if_neg e];exact ⟨a,by omega,ham,rfl⟩
 have swl:∀ a,a<M.length->a≠P.length->(swR i P.length lr row M a).length=row.length:=λa ha hne=>by
  rw [hrl];rcases Zcz a P.length with q | q
  .rw [zk8 a q];exact h.row _ (yG ha)
  .obtain ⟨a',_,h2,h3⟩:=swhi a (by omega) ha;rw [h3];exact h.row _ (yG h2)
 have at1:∀ a,a<M.length->a≠P.length->∀ c,at' ((aR i P.length j li lr M).getD a []) c=at' (swR i P.length lr row M a) c-at' (swR i P.length lr row M a) j*at' row c:=λa ha hne c=>by
  rw [get a ha,if_neg hne,jK (swl a ha hne)]
 have at2:∀ c,at' ((aR i P.length j li lr M).getD P.length []) c=at' row c:=λc=>by rw [get _ hkm,if_pos rfl]
 have dt1:∀ f a,a<M.length->a≠P.length->dot row f=0->dot ((aR i P.length j li lr M).getD a []) f=dot (swR i P.length lr row M a) f:=λf a ha hne hr=>by
  rw [get a ha,if_neg hne,q0 _ _ _ _ (swl a ha hne),hr,Zbx];grind
 have dt2:∀ f,dot ((aR i P.length j li lr M).getD P.length []) f=dot row f:=λf=>by rw [get _ hkm,if_pos rfl]
 have drow:∀ f,dot row f=(at' li j)⁻¹*dot li f:=λf=>by rw [hrow,xM]
 have pA:∀ b,b<P.length->(P++[j]).getD b 0=P.getD b 0:=λb hb=>by
  rw [Zaa,List.getElem?_append_left hb,<- Zaa]
 have pB:(P++[j]).getD P.length 0=j:=by
  rw [Zaa,List.getElem?_append_right (Zaf _),Zcj];rfl
 have plen:(P++[j]).length=P.length+1:=by rw [Zae,Zbf]
 have hPj:=h.pl;obtain ⟨O,hol,hom,hker,hrest⟩:=h.org;obtain ⟨oi,hoi,hoif⟩:=hrest i hi him;rw [gi] at hoif;refine ⟨hj,λl hl => ?_,by rw [plen];omega,by rw [plen,hml];exact hkm,λp hp => ?_,?_,λa b ha hb => ?_,λa ha c hc => ?_,λa ha c hc => ?_,⟨O++[oi],by rw [Zae,hol,plen];rfl,λo ho => ?_,λf hf hz a ha => ?_,λa ha ham => ?_⟩,λf hf hz => ?_⟩
 .obtain ⟨a,ha⟩:=List.mem_iff_getElem?.1 hl;have ham:=(List.getElem?_eq_some_iff.1 ha).1;rw [hml] at ham;have hla:(aR i P.length j li lr M).getD a []=l:=by rw [Zaa,ha];rfl
  rw [<- hla,get a ham];by_cases e:a=P.length
  .rw [if_pos e];exact hrl
  .rw [if_neg e,j3 (swl a ham e),swl a ham e,hrl]
 .rcases List.mem_append.1 hp with q | q
  .exact Zdz (h.rng p q)
  .rw [List.mem_singleton.1 q];exact Nat.lt_succ_self j
 .refine List.pairwise_append.2 ⟨h.asc,List.pairwise_singleton _ _,λa ha b hb => ?_⟩;rw [List.mem_singleton.1 hb];exact h.rng a ha
 .rw [plen] at ha hb;by_cases ea:a=P.length
  .subst ea;rw [at2];by_cases eb:b=P.length
   .rw [eb,pB,rj,if_pos rfl]
   .rw [pA b (by omega),rz _ (h.rng _ (yG (by omega))),if_neg (by omega)]
  .rw [at1 a (by omega) ea,zk8 a (by omega)];by_cases eb:b=P.length
   .rw [eb,pB,rj,if_neg ea];grind
   .rw [pA b (by omega),rz _ (h.rng _ (yG (by omega))),h.one a b (by omega) (by omega)];grind
 .rw [plen] at ha;by_cases ham:a<M.length
  .obtain ⟨a',h1,h2,h3⟩:=swhi a (by omega) ham;rw [at1 a ham (by omega),h3];by_cases e:c=j
   .rw [e,rj];grind
   .rw [h.zer a' h1 c (by omega),rz c (by omega)];grind
  .rw [Zaa,List.getElem?_eq_none (by rw [hml];omega)];exact jN (Zeh _)
 .rw [plen] at ha;by_cases ea:a=P.length
  .rw [ea,pB] at hc;rw [ea,at2];exact rz c hc
  .rw [pA a (by omega)] at hc;have hpa:=h.rng _ (yG (l:=P) (i:=a) (d:=0) (by omega));rw [at1 a (by omega) ea,zk8 a (by omega),h.lead a (by omega) c hc,rz c (by omega)];grind
 .rcases List.mem_append.1 ho with q | q
  .exact hom o q
  .rw [List.mem_singleton.1 q];exact hoi
 .rw [plen] at ha;have hO:∀ o∈O,dot o f=0:=λo ho=>hz o (Zbw _ ho);have hr:dot row f=0:=by rw [drow,hoif f hf hO,hz oi (Zcr _ (List.mem_singleton.2 rfl)),Zbx]
  by_cases ea:a=P.length
  .rw [ea,dt2];exact hr
  .rw [dt1 f a (by omega) ea hr,zk8 a (by omega)];exact hker f hf hO a (by omega)
 .rw [plen] at ha;rw [hml] at ham;obtain ⟨a',h1,h2,h3⟩:=swhi a (by omega) ham;obtain ⟨o,ho,hof⟩:=hrest a' h1 h2;refine ⟨o,ho,λf hf hz => ?_⟩;have hO:∀ o∈O,dot o f=0:=λo ho=>hz o (Zbw _ ho);have hr:dot row f=0:=by rw [drow,hoif f hf hO,hz oi (Zcr _ (List.mem_singleton.2 rfl)),Zbx]
  rw [dt1 f a ham (by omega) hr,h3];exact hof f hf hO
 .refine h.full f hf λl hl => ?_;have hz':∀ a,a<M.length->dot ((aR i P.length j li lr M).getD a []) f=0:=λa ha=>hz _ (yG (by rw [hml];exact ha));have hr:dot row f=0:=by rw [<- dt2];exact hz' _ hkm
  have hlf:dot li f=0:=by
   have e:=drow f;rw [hr] at e
   grind
  obtain ⟨a,ha⟩:=List.mem_iff_getElem?.1 hl;have ham:=(List.getElem?_eq_some_iff.1 ha).1;have hla:M.getD a []=l:=by rw [Zaa,ha];rfl
  by_cases e1:a=i
  .rw [<- hla,e1,gi];exact hlf
  .by_cases e2:a=P.length
   .have:=dt1 f i him (by omega) hr;rw [hz' i him,swR,if_neg (by omega),if_pos rfl] at this;rw [<- hla,e2,gk];exact this.symm
   .have:=dt1 f a ham e2 hr;rw [hz' a ham,swR,if_neg e2,if_neg e1,hla] at this;exact this.symm
end Go.Ev
namespace Go.Ev
open Go Go.Proofs
variable {B:Nat}
set_option maxRecDepth 100000
theorem zs7:T9 0=.str [48]:=by rw [T9,aj.2 rfl]
abbrev eR (f:List Rat):AV:=.lst 1 f.length (f.map T9)
theorem zxe {f:List Rat} {i:Nat} (h:i<f.length):(f.map T9)[i]? = some (T9 (at' f i)):=by rw [List.getElem?_map,uA h];rfl
theorem Dn.add {t M N:Nat} {p q:Rat} (hp:Dn t M p) (hq:Dn t N q):Dn t (M+N) (p+q):=by
 obtain ⟨z,e,hz⟩:=hp;obtain ⟨w,f,hw⟩:=hq;refine ⟨z+w,by rw [Zfe];grind,?_⟩;have:=Zdy z w;omega
theorem Dn.sml {t M:Nat} {q:Rat} (ht:1<=t) (htM:t<=M) (hM:M<9223372036854775808) (h:Dn t M q):Sml q:=by
 obtain ⟨z,e,hz⟩:=h;have h0:((t:Int):Rat)≠0:=vD (by omega);have eq:q=Rat.divInt z (t:Int):=by rw [Zgw];grind
 obtain ⟨d1,d2⟩:=kC (n:=z) (d:=(t:Int)) (by omega);have a1:q.num.natAbs<=z.natAbs:=by
  rw [eq,d1,Zej (Zet ..)];exact Zcn _ _
 have a2:(q.den:Int).natAbs<=t:=by
  rw [eq,d2,Zej (Zfs ..)];exact Zcn _ _
 rw [Zbk] at a2;exact ⟨by omega,by omega⟩
theorem vW {α:Type} {f:α->List AV} {e:Nat} (he:∀ x,(f x).length=e):∀ l:List α,(l.flatMap f).length=l.length*e
 | []=>by simp
 | x::l=>by rw [Zce,Zae,he,vW he l,Zbb,Zbd,Zdh,Zdc]
theorem ze4 {α:Type} {f:α->List AV} {e:Nat} (he:∀ x,(f x).length=e):∀ {l:List α} {k:Nat} {x:α},l[k]? = some x->((l.flatMap f).drop (k*e)).take e=f x
 | [],_,_,h=>by simp at h
 | y::l,0,x,h=>by
  obtain rfl:=Option.some.inj h;rw [Zce,Nat.zero_mul,Zcs,Zeg (he _)]
 | y::l,k+1,x,h=>by
  rw [Zce,Zbd,Zdh,Zdc,<- Zeo,Zgi (he _)];exact ze4 he (by simpa using h)
def knF (n m:Nat) (z:Pa×Pa×Nat):List AV:=[rwV n z.1,rwV m z.2.1,I ((z.2.2:Nat):Int)]
def tQ (d:Nat×List Rat):List AV:=[I ((d.1:Nat):Int),.lst 1 d.1 (xB d.2)]
abbrev ML (n m:Nat) (o5 o6:Option Pa) (Z:List (Pa×Pa×Nat)) (cs cg:List (List AV)) (D:List (Nat×List Rat)) (T:List Ob):List Ob :=
 .gro o5 3 Z.length (Z.flatMap (knF n m))::.gro o6 2 D.length (D.flatMap tQ)::(List.zipWith Ob.arr (Z.map (·.1)) cs++(List.zipWith Ob.arr (Z.map (·.2.1)) cg++T))
theorem zce {C:Calls Prop} {e b n:Nat} {o:Option Pa} {x:AV} {h:T Blk} {nx:Pa} {K:Kw Prop}:zcq C e b (cu o e n) x h nx K=rJ e b (cu o e n) x h nx K:=by cases o <;> rfl
theorem zxf {f r a b:Ob} {A G U:List Ob}:(f::r::a::b::(A++(G++U))).Perm (a::b::((A++[r])++((G++[f])++U))):=by
 have e:(f::r::a::b::(A++(G++U))).Perm (a::b::f::r::(A++(G++U))) :=
  (List.perm_append_comm (l₁:=[f,r]) (l₂:=[a,b])).append_right _
 refine e.trans (.cons _ (.cons _ ?_));rw [Zbo,Zbo];refine ((List.Perm.swap ..).trans (.cons r (?_:(f::(A++(G++U))).Perm (A++(G++([f]++U))))) |>.trans ?_)
 .refine (Zdd (l₁:=A) (l₂:=G++U) (a:=f)).symm.trans ?_;exact (Zdd (l₁:=G) (l₂:=U) (a:=f)).symm.append_left A
 .exact (Zdd (l₁:=A) (l₂:=G++([f]++U)) (a:=r)).symm
theorem rA.cut {c:List AV} {q:List Rat} {i:Nat} (h:rA c q):rA (c.take (i*4)) (q.take i):=by
 refine ⟨by rw [Zai,Zai,h.1];omega,λj x hx => ?_⟩;rw [List.getElem?_take] at hx;split at hx
 case isFalse=>cases hx
 rename_i hj;obtain ⟨s,w,s',w',e,h1,h2⟩:=h.2 j x hx;refine ⟨s,w,s',w',?_,h1,h2⟩;rw [<- e];refine zp5 λt ht => ?_;rw [List.getElem?_take_of_lt (by omega)]
theorem ze5 {M N:Nat} {a b:Rat} (ha:qy M a) (hb:qy N b):qy (M*N) (a*b):=by
 have key:∀ {M:Nat} {a:Rat},qy M a->Dn a.den M a:=λ{M a} h=>⟨a.num,by
  have e:=qS a;rw [Zgw] at e;have:=vD (u4 a)
  grind,h.1⟩
 exact ((key ha).mul (key hb)).nm (Nat.mul_pos a.den_pos b.den_pos) (Zcb ha.2 hb.2)
theorem zq1 {M:Nat} (h:1<=M):qy M 0:=(Dn.zero 1 M).nm (Zaf 1) h
theorem zu5 {rs:List Pa} {cs:List (List AV)} {Q:List (List Rat)} (S:SM rs cs Q) {a:Nat} {r:Pa} {T:List Ob} (hr:rs[a]? = some r):(List.zipWith Ob.arr rs cs++T)[a]? = some (.arr r (cs.getD a [])):=by
 have ha:=(List.getElem?_eq_some_iff.1 hr).1;have hc:cs[a]? = some (cs.getD a []):=gR (by rw [S.lc,<- S.lr];exact ha);rw [List.getElem?_append_left (by rw [bX S,<- S.lr];exact ha),List.getElem?_zipWith,hr,hc]
def qae (n:Nat) (lines:List (List Int)) (D:List (Nat×List Rat)):Prop:=∃ fr P ps,Dv n lines lines.length fr P ps D
theorem zhr {n:Nat} {lines:List (List Int)} (hn:n<=256) (hl:lines.length<=12) (hll:∀ l∈lines,l.length<=256) (he:jV (n:Int) lines=0):Pure Tryz.prog B 31 [.agg [I (n:Int),xk lines]] (λv=>∃ D,qae n lines D/\v=.tup [.lst 2 D.length (D.flatMap tQ),I 0]):=by
 obtain ⟨n',hn',_,_,_,hasc⟩:=zqd he;have en:n'=n:=by omega
 rw [en] at hasc;have hr:∀ l∈lines,∀ c∈l,0<=c/\c<(n:Int):=λl hlm=>(hasc l hlm).2.2;refine zT λh nx K H0 hK=>zM zQ yA 1000 λhf => ?_;rw [F31.go,F31.t77,zA,F31.zw];refine H0.box (l:=[I (n:Int),xk lines]) rfl λb1 h1 nx1 H1 => ?_;rw [zA,zA,F31.zu,H1.zm (k:=0) (n:=2) rfl rfl];refine zuv (λq hq=>by have:=hll q hq;omega) _ _ _ _ ?_;rintro _ rfl _;have H1:=(H1.zbv 2).zbv 3;rw [he,zA,F31.jd,bq,Zac rfl,Zap,zB,F31.v17,zC,zE,zA,F31.fE,zA,F31.nP,zA,zA,F31.nX,sFx,H1.load (k:=2) (i:=0+1) rfl rfl,zX,zI];refine F31.zx4 (λm x5 x6 x20 h' nx'=>∃ (i:Nat) (o5 o6:Option Pa) (Z:List (Pa×Pa×Nat)) (cs cg:List (List AV)) (fr:List Nat) (P:List (List Rat)) (D:List (Nat×List Rat)),x5=cu o5 3 Z.length/\x6=cu o6 2 D.length/\x20=I (i:Int)/\m+i=lines.length/\SM (Z.map (·.1)) cs (P.map (·.take n))/\SM (Z.map (·.2.1)) cg (P.map (·.drop n))/\Dv n lines i fr P (Z.map (·.2.2)) D/\Hp h h' nx' (ML n lines.length o5 o6 Z cs cg D [.arr b1 [I (n:Int),xk lines]])) (m:=lines.length) (by omega) ⟨0,none,none,[],[],[],[],[],[],rfl,rfl,rfl,rfl,⟨rfl,rfl,λa ha=>by simp at ha⟩,⟨rfl,rfl,λa ha=>by simp at ha⟩,Dv.nil n lines,H1⟩ ?_;rintro m z2 z3 z5 z6 z7 z8 z9 z10 z11 z12 z13 z14 z15 z16 z20 z21 z22 z23 z24 z25 z26 z27 h3 nx3 R ⟨i,o5,o6,Z,cs,cg,fr,P,D,rfl,rfl,rfl,hm,S1,S2,hD,H3⟩ hR;have hZP:Z.length=P.length:=by have:=S1.lr;rwa [Zah,Zah] at this
 have hPi:P.length<=i:=by rw [<- hD.cnt];exact Nat.le_add_right _ _
 have hDi:D.length<=i:=by rw [<- hD.cnt];exact Nat.le_add_left _ _
 obtain ⟨T,hT⟩:∃ T:List Ob,T=[.arr b1 [I (n:Int),xk lines]]:=⟨_,rfl⟩;rw [<- hT] at H3;have l3:∀ z,(knF n lines.length z).length=3:=λ_=>rfl;have l2:∀ d,(tQ d).length=2:=λ_=>rfl;rw [F31.t67,zA,F31.dx,jk,zA,zB,F31.v21];by_cases ci:i<lines.length
 case neg =>
  rw [Zab (by omega),zC,zW,yD,zA,F31.zx5];simp only [zF,zN];rw [F31.ret];have ei:i=lines.length:=by omega
  rw [ei] at hD;refine hK _ _ _ _ _ H3 (gD (H3.zbe (k:=1) rfl λv hv => ?_) (.int _ _)) ⟨D,⟨fr,P,_,hD⟩,rfl⟩;obtain ⟨d,_,hd⟩:=List.mem_flatMap.1 hv;rcases List.mem_cons.1 hd with rfl | hd
  .rfl
  .rw [List.mem_singleton.1 hd];exact xK λv hv=>by obtain ⟨x,_,rfl⟩:=List.mem_map.1 hv;rfl
 have hxi:(lines.map Go.Ev.encI)[i]? = some (Go.Ev.encI (lines.getD i [])):=by rw [List.getElem?_map,gR (d:=[]) ci];rfl
 have hmi:=hll _ (yG (d:=[]) ci);have zl1:(List.zipWith Ob.arr (Z.map (·.1)) cs).length=P.length:=by have:=bX S1;rwa [Zah] at this
 have zl2:(List.zipWith Ob.arr (Z.map (·.2.1)) cg).length=P.length:=by have:=bX S2;rwa [Zah] at this
 have tl:∀ (X:List Ob),(X++ML n lines.length o5 o6 Z cs cg D T)[X.length+(P.length+P.length+2)]? = some (.arr b1 [I (n:Int),xk lines]):=λX=>by
  rw [List.getElem?_append_right (by omega),Zbz];show (List.zipWith Ob.arr (Z.map (·.1)) cs++(List.zipWith Ob.arr (Z.map (·.2.1)) cg++T))[P.length+P.length]? = _;rw [List.getElem?_append_right (by omega),zl1,Zbz,List.getElem?_append_right (by omega),zl2,Zcj,hT];rfl
 have r1:∀ (X:List Ob) {k:Nat} {z:Pa×Pa×Nat},Z[k]? = some z->(X++ML n lines.length o5 o6 Z cs cg D T)[X.length+(k+2)]? = some (.arr z.1 (cs.getD k [])):=λX {k z} hz=>by
  rw [List.getElem?_append_right (by omega),Zbz];exact zu5 S1 (by rw [List.getElem?_map,hz];rfl)
 have r2:∀ (X:List Ob) {k:Nat} {z:Pa×Pa×Nat},Z[k]? = some z->(X++ML n lines.length o5 o6 Z cs cg D T)[X.length+(P.length+k+2)]? = some (.arr z.2.1 (cg.getD k [])):=λX {k z} hz=>by
  rw [List.getElem?_append_right (by omega),Zbz];show (List.zipWith Ob.arr (Z.map (·.1)) cs++(List.zipWith Ob.arr (Z.map (·.2.1)) cg++T))[P.length+k]? = _;rw [List.getElem?_append_right (by omega),zl1,Zbz];exact zu5 S2 (by rw [List.getElem?_map,hz];rfl)
 have a0:∀ op:AV->OP,zH (.ptr b1 (0+0)) h3 op=op (I (n:Int)):=λop=>H3.load (i:=0+0) (tl []) rfl;have a1:∀ op:AV->OP,zH (.ptr b1 (0+1)) h3 op=op (xk lines):=λop=>H3.load (i:=0+1) (tl []) rfl;rw [Zac (by omega),zD,zE,zA,zI,zA,F31.nS,fF (i:=i) rfl ci,ldL hxi,zA,F31.nT,sFx,a0,sFx,a1,zX];refine zen H3 (by omega) (by omega) (zqe hr ci) λr cr h4 nx4 hcr H4 => ?_;have b1':∀ op:AV->OP,zH (.ptr b1 (0+1)) h4 op=op (xk lines):=λop=>H4.load (i:=0+1) (tl [_]) rfl;rw [zX,zG,b1',zG,sFx,zG];refine zgz H4 (by omega) λf cf h5 nx5 hcf H5 => ?_;rw [zA,zA,F31.tH,H5.eH (k:=2) rfl,zI];refine F31.zx1 (λm x24 h' nx'=>∃ (k:Nat) (cr cf:List AV) (qr qf:List Rat),x24=I (k:Int)/\m+k=Z.length/\rA cr qr/\rA cf qf/\Dw n lines i fr P (Z.map (·.2.2)) k qr qf/\Hp h h' nx' (.arr f cf::.arr r cr::ML n lines.length o5 o6 Z cs cg D T)) (m:=Z.length) (by omega) ⟨0,cr,cf,_,_,rfl,rfl,hcr,hcf,Dw.start,H5⟩ ?_
 clear hcr hcf H4 H5 b1'
 rintro m2 y11 y12 y24 y25 h6 nx6 R2 ⟨k,cr,cf,qr,qf,rfl,hmk,hcr,hcf,hw,H6⟩ hR2;rw [F31.t29,zA,F31.rG,jk,zA,zB,F31.v25];by_cases ck:k<Z.length
 .obtain ⟨z,hz⟩:∃ z,Z[k]? = some z:=⟨_,List.getElem?_eq_getElem ck⟩;have hps:(Z.map (·.2.2)).getD k 0=z.2.2:=by rw [Zaa,List.getElem?_map,hz];rfl
  have hpn:z.2.2<n:=by rw [<- hps];exact hD.pr _ (yG (by rw [Zah];exact ck))
  have hPk:=yG (l:=P) (i:=k) (d:=[]) (by omega);have hpl:=hD.tv.row _ hPk;have e1:(P.map (·.take n)).getD k []=(P.getD k []).take n:=by rw [Zaa,List.getElem?_map,gR (d:=[]) (show k<P.length by omega)];rfl
  have e2:(P.map (·.drop n)).getD k []=(P.getD k []).drop n:=by rw [Zaa,List.getElem?_map,gR (d:=[]) (show k<P.length by omega)];rfl
  have row1:=S1.row k (by rw [Zah];omega);have row2:=S2.row k (by rw [Zah];omega);rw [e1] at row1;rw [e2] at row2;obtain ⟨c1,c2⟩:=hw.col (R:=10) (Bd:=161051) hD (by omega) (by omega) (by decide) (by decide);have hN:∀ {q:Rat},(∃ t,1<=t/\t<=161051/\Dn t ((10+2)*161051) q)->qy 1932612 q:=λ⟨t,t1,t2,t3⟩=>t3.nm t1 (by omega);have kn:∀ j,qy 861979 (at' (P.getD k []) j):=λj=>by
   obtain ⟨t,t1,t2,t3⟩:=hD.tv.kn (k:=k) (R:=11) (Bd:=861979) (by omega) (by omega) (by decide) (by decide) j;exact t3.nm t1 t2
  have kn1:∀ j,qy 861979 (at' ((P.getD k []).take n) j):=λj=>by
   by_cases hj:j<n
   .rw [mV hj];exact kn j
   .rw [jN (by rw [Zai];omega)];exact zq1 (by decide)
  have kn2:∀ j,qy 861979 (at' ((P.getD k []).drop n) j):=λj=>by rw [zg7];exact kn _
  obtain ⟨id5,g5,d5⟩:=H6.zxc (k:=2) (j:=k) (e:=3) rfl ck (vW l3 Z) (ze4 l3 hz);obtain ⟨cs2,q1,q2,_,fv⟩:=hcr.get (uA (q:=qr) (j:=z.2.2) (by rw [hw.rl];exact hpn));obtain ⟨s,w,s',w',hcs,f1,f2⟩:=fv;obtain rfl:cs2=[s,w,s',w']:=by injection hcs
  have fv:jG (.agg [s,w,s',w']) (at' qr z.2.2):=⟨s,w,s',w',rfl,f1,f2⟩;have hb:=hN (c1 z.2.2);rw [Zac (by omega),zD,zE,zA,zI,zA,F31.aT,g5,d5];refine H6.alloc λb11 h7 nx7 H7 => ?_;refine H7.jb (k:=0) (l2:=knF n lines.length z) rfl rfl rfl λh8 H8 => ?_;rw [zA,F31.rH,sFx,H8.load (k:=0) (i:=0+2) rfl rfl,rwIx (j:=z.2.2) rfl hpn,H8.qb (k:=2) rfl q2 q1];refine H8.alloc λb12 h9 nx9 H9 => ?_;refine H9.jb (k:=0) (l2:=[s,w,s',w']) rfl rfl rfl λh10 H10 => ?_;have H10:Hp h h10 nx9 ([.arr b12 [s,w,s',w'],.arr b11 (knF n lines.length z),.arr f cf,.arr r cr]++ML n lines.length o5 o6 Z cs cg D T):=H10;rw [zA,F31.sQ,H10.zm (k:=0) (n:=4) rfl rfl,sFx,H10.load (k:=1) (i:=0+0) rfl rfl]
  refine zkd (kr:=3) (M:=1932612) (N:=861979) (P:=1932612) (R:=1932612*861979) H10 rfl (r1 _ hz) (by show 4+(k+2)≠3;omega) hcr row1 hw.rl (by rw [Zai];omega) (by omega) fv hb (vR λj=>hN (c1 j)) (vR kn1) (λx hx=>by
   obtain ⟨j,_,rfl⟩:=at_mem hx;exact ze5 hb (kn1 j)) (by decide) (by decide) λcr' h11 nx11 hcr' H11 => ?_
  have H11:Hp h h11 nx11 ([.arr b12 [s,w,s',w'],.arr b11 (knF n lines.length z),.arr f cf,.arr r cr']++ML n lines.length o5 o6 Z cs cg D T):=H11;rw [F31.oM,H11.zm (k:=0) (n:=4) rfl rfl,sFx,H11.load (k:=1) (i:=0+1) rfl rfl];refine zde fv _ _ _ _ ?_;rintro v4 fv4 _;rw [H11.load (k:=1) (i:=0+1) rfl rfl,zG,sFx,zG,zG]
  refine zkd (kr:=2) (M:=1932612) (N:=861979) (P:=1932612) (R:=1932612*861979) H11 rfl (r2 _ hz) (by show 4+(P.length+k+2)≠2;omega) hcf row2 hw.fl (by rw [Zcd];omega) (by omega) fv4 hb.neg (vR λj=>hN (c2 j)) (vR kn2) (λx hx=>by
   obtain ⟨j,_,rfl⟩:=at_mem hx;exact ze5 hb.neg (kn2 j)) (by decide) (by decide) λcf' h12 nx12 hcf' H12 => ?_
  have H12:Hp h h12 nx12 ([.arr b12 [s,w,s',w'],.arr b11 (knF n lines.length z),.arr f cf',.arr r cr']++ML n lines.length o5 o6 Z cs cg D T):=H12;have hw':=hw.next hD (by omega);rw [hps] at hw';rw [F31.eY,ug (by omega)];exact hR2 (m2-1) _ _ _ _ _ _ (by omega) ⟨k+1,cr',cf',_,_,by congr 1,by omega,hcr',hcf',hw',H12.drop.drop⟩
 obtain rfl:k=Z.length:=by omega
 rw [hZP] at hw;rw [Zab (by omega),zC,zW,yD,zA,F31.zm1];refine zqy (k:=1) H6 rfl hcr hw.rl (by omega) (λh0 => ?_) λp hp hv => ?_
 .-- the line is a sum
  rw [zA,zA,F31.eT,jk,Zac (by decide),zB,F31.v26,zD,zA,F31.zfj,zs3 (by omega)];refine H6.dz (l:=[.sl f 0 i (some i) 4]) rfl λtb h7 nx7 H7 => ?_;have hfl:(qf.take i).length=i:=by rw [Zai,hw.fl];omega
  have hcl:i*4<=cf.length:=by rw [hcf.1,hw.fl];omega
  obtain ⟨h8,k8,H8,fz⟩:=H7.zs4 hcl hcf.fix;obtain ⟨c1,c2⟩:=hw.col (R:=11) (Bd:=HB) hD (Zaf _) (by omega) (by decide) (by decide);refine pR k8 (.cons fz .nil) ?_;refine zs2 (n:=i) (cb:=[cf.take (i*4)]) (Bs:=[qf.take i]) rfl (λa ha => ?_) (λb hb => ?_) (by omega) (by show 1<=1000;decide) (λb hb => ?_) _ _ _ _ ?_
  .obtain rfl:a=0:=by simpa using ha
   exact hcf.cut
  .rw [List.mem_singleton.1 hb];exact hfl
  .rw [List.mem_singleton.1 hb];refine vR λj => ?_;by_cases hj:j<i
   .rw [mV hj];obtain ⟨t,t1,t2,t3⟩:=c2 j;exact t3.sml t1 (Zax t2 (by decide)) (by decide)
   .rw [jN (by omega)];exact (Dn.zero 1 1).sml (Zaf _) (Zaf _) (by decide)
  rintro _ rfl _;rw [jD,jC,zA,zA,F31.zjn,bq,Zac rfl,Zap,zB,F31.v27,zC,zE,zA,F31.zm2,fF (j:=0) (i:=0) rfl (by show 0<1;decide),ldL rfl];have bd:∀ {x:Int} {n:Nat} {l:List AV} {K:AV->OP},j6 [(I 0),.za] [(0,1,I x),(1,1,.lst 1 n l)] K=K (.agg [I x,.lst 1 n l]):=nr rfl;rw [bd];refine H8.dz (l:=tQ (i,qf.take i)) rfl λtd h9 nx9 H9 => ?_;rw [zce];refine H9.appN (k:=3) (o:=o6) (c:=1) (new:=tQ (i,qf.take i)) rfl (um.rd (l:=tQ (i,qf.take i)) (n:=1) (H9.own _ (Zaj ..)) rfl) rfl rfl (by decide) (by decide) (by omega) λo6' h10 nx10 _ H10 => ?_;have H11:=H10.drop.drop;rw [zW,yD,F31.zti,ug (by omega)];refine hR (m-1) _ _ _ _ _ _ _ _ _ _ _ _ _ _ _ _ _ _ _ _ _ _ _ _ (by omega) ⟨i+1,o5,o6',Z,cs,cg,fr,P,D++[(i,qf.take i)],rfl,by rw [Zae];rfl,by congr 1,by omega,S1,S2,hD.zjb hw ci (by omega) h0,H11.cast ?_⟩;rw [<- hT];show _=Ob.gro o5 3 Z.length (Z.flatMap (knF n lines.length))::Ob.gro o6' 2 (D++[(i,qf.take i)]).length ((D++[(i,qf.take i)]).flatMap tQ)::_;rw [Zfa,Zae];simp
 .-- a new row
  obtain ⟨c1,c2⟩:=hw.col (R:=11) (Bd:=HB) hD (Zaf _) (by omega) (by decide) (by decide);have hN:∀ {q:Rat},(∃ t,1<=t/\t<=HB/\Dn t ((11+2)*HB) q)->qy 11205727 q:=λ⟨t,t1,t2,t3⟩=>t3.nm t1 (Zax t2 (by decide));rw [zA,zA,F31.eT,jk,Zab (by omega),zB,F31.v26,zC,zE,zA,F31.zm3];refine zkc (by unfold nR;omega) _ _ _ _ ?_;rintro v1 f1 _;have sg1:qy 1 (((-1:Int):Rat)):=Sg.q1 (.inl rfl);refine zbq (kr:=0) (M:=1) (N:=11205727) H6 rfl hcf hw.fl (by omega) f1 sg1 (vR λj=>hN (c2 j)) (by decide) λcf1 h7 nx7 hcf1 H7 => ?_;have H7:Hp h h7 nx7 (.arr f cf1::.arr r cr::ML n lines.length o5 o6 Z cs cg D T):=H7;rw [zA,F31.zfl];refine zkc (by unfold nR;omega) _ _ _ _ ?_;rintro _ ⟨s,w,s',w',rfl,i1,i2⟩ _;rw [rat1] at i1 i2;have hcl:=hcf1.1;rw [jW,hw.fl] at hcl;rw [rwIx (j:=i) rfl ci];refine H7.eu (k:=0) (off:=i*4) rfl (by omega) rfl λh8 H8 => ?_;have hcf2:=hcf1.put (j:=i) (by rw [jW,hw.fl];exact ci) i1 i2;have H8:Hp h h8 nx7 (.arr f (gH cf1 (i*4) [s,w,s',w'])::.arr r cr::ML n lines.length o5 o6 Z cs cg D T):=H8;obtain ⟨cs2,q1,q2,_,fv⟩:=hcr.get (uA (q:=qr) (j:=p) (by rw [hw.rl];exact hp));rw [zA,F31.zm4,rwIx (j:=p) rfl hp,H8.qb (k:=1) rfl q2 q1];refine zmd fv hv _ _ _ _ ?_;rintro _ ⟨t,u,t',u',rfl,j1,j2⟩ _;have fi:jG (.agg [t,u,t',u']) (at' qr p)⁻¹:=⟨t,u,t',u',rfl,j1,j2⟩;have hb:=(hN (c1 p)).inv;refine H8.alloc λb16 h9 nx9 H9 => ?_;refine H9.jb (k:=0) (l2:=[t,u,t',u']) rfl rfl rfl λh10 H10 => ?_;have H10:Hp h h10 nx9 (.arr b16 [t,u,t',u']::.arr f (gH cf1 (i*4) [s,w,s',w'])::.arr r cr::ML n lines.length o5 o6 Z cs cg D T):=H10;rw [zA,F31.zx2,H10.zm (k:=0) (n:=4) rfl rfl];refine zbq (kr:=2) (M:=11205727) (N:=11205727) H10 rfl hcr hw.rl (by omega) fi hb (vR λj=>hN (c1 j)) (by decide) λcr1 h11 nx11 hcr1 H11 => ?_;have H11:Hp h h11 nx11 (.arr b16 [t,u,t',u']::.arr f (gH cf1 (i*4) [s,w,s',w'])::.arr r cr1::ML n lines.length o5 o6 Z cs cg D T):=H11;rw [zA,F31.zx3,H11.zm (k:=0) (n:=4) rfl rfl];refine zbq (kr:=1) (M:=11205727) (N:=11205727) H11 rfl hcf2 (by rw [Zas,jW,hw.fl]) (by omega) fi hb (vR λj => ?_) (by decide) λcf3 h12 nx12 hcf3 H12 => ?_
  .by_cases e:i=j
   .subst e;rw [at',Zaa,List.getElem?_set_self (by rw [jW,hw.fl];exact ci)];exact (Sg.q1 (.inr (.inr rfl))).mono (by decide)
   .rw [at',Zaa,List.getElem?_set_ne e,<- Zaa];show qy _ (at' (yM _ qf) j);rw [uH,show at' qf j*(((-1:Int):Rat)) = -at' qf j by rw [Zcu,rat1];grind];exact (hN (c2 j)).neg
  have H12:Hp h h12 nx12 (.arr b16 [t,u,t',u']::.arr f cf3::.arr r cr1::ML n lines.length o5 o6 Z cs cg D T):=H12;have bd:∀ {a b:Nat} {x y:Pa} {z:Int} {K:AV->OP},j6 [.za,.za,(I 0)] [(0,1,rwV a x),(1,1,rwV b y),(2,1,I z)] K=K (.agg [rwV a x,rwV b y,I z]):=nr rfl;rw [F31.zfm,bd];refine H12.dz (l:=knF n lines.length (r,f,p)) rfl λtb h13 nx13 H13 => ?_;refine H13.appN (k:=4) (o:=o5) (c:=1) (new:=knF n lines.length (r,f,p)) rfl (um.rd (l:=knF n lines.length (r,f,p)) (n:=1) (H13.own _ (Zaj ..)) rfl) rfl rfl (by decide) (by decide) (by omega) λo5' h14 nx14 _ H14 => ?_;have H15:Hp h h14 nx14 (.arr f cf3::.arr r cr1::.gro o5' 3 (Z.length+1) (Z.flatMap (knF n lines.length)++knF n lines.length (r,f,p))::.gro o6 2 D.length (D.flatMap tQ)::(List.zipWith Ob.arr (Z.map (·.1)) cs++(List.zipWith Ob.arr (Z.map (·.2.1)) cg++T))):=H14.drop.drop;have H16:=H15.perm zxf;obtain ⟨hDn,hln⟩:=hD.zwn hw ci hp hv;have sl:yM (((-1:Int):Rat)) qf=yM (-1) qf:=by rw [Zcu,rat1]
  rw [sl] at hcf3;rw [F31.zti,ug (by omega)];refine hR (m-1) _ _ _ _ _ _ _ _ _ _ _ _ _ _ _ _ _ _ _ _ _ _ _ _ (by omega) ⟨i+1,o5',o6,Z++[(r,f,p)],cs++[cr1],cg++[cf3],fr++[i],_,D,by rw [Zae];rfl,rfl,by congr 1,by omega,?_,?_,by rw [Zaz];exact hDn,H16.cast ?_⟩
  .rw [Zaz,Zaz,Zcw,Zcw,Zeg hln];exact S1.add hcr1
  .rw [Zaz,Zaz,Zcw,Zcw,Zgi hln];exact S2.add hcf3
  .rw [<- hT,ML,Zfa,Zae,Zaz,Zaz,Zcw,Zcw,zkf (by rw [S1.lr,S1.lc]),zkf (by rw [S2.lr,S2.lc])];simp
end Go.Ev
