import Derived.Test.YtfgpjkchdelphaaGreatDoorWordsb
import Derived.Test.YtfgpjkchdelphaaGreatDoorCodeb
set_option linter.unusedSimpArgs false
set_option linter.unusedVariables false
namespace Go.Ev
open Go Go.Proofs
variable {B:Nat}
set_option maxRecDepth 100000
theorem zdp {l:List Int} {c:Int} (hl:l.length<=1000):Pure Tryz.prog B 45 [encI l,I c] (· = .bool (decide (c∈l))):=by
 refine zX λh nx K H0 hK=>zM zO yD 2000 λhf => ?_;rw [F45.go,F45.t22,zA,F45.zx,zA,zA,F45.zu,zV,zJ];refine F45.tq (λm x6 h' nx'=>∃ i:Nat,x6=I (i:Int)/\m+i=l.length/\c∉l.take i/\h'=h/\nx'=nx) (m:=l.length) (by omega) ⟨0,rfl,rfl,by simp,rfl,rfl⟩ ?_;rintro m z2 z3 z6 z7 z8 h3 nx3 R ⟨i,rfl,hm,hn,rfl,rfl⟩ hR;rw [F45.t15,zA,F45.je,ji,zA,zB,F45.v7];by_cases ci:i<l.length
 .have hx:=List.getElem?_eq_getElem ci;rw [Zac (by omega),zD,zE,zA,zJ,zA,F45.fD,bR (i:=i) rfl ci,ldL (sV hx),zA,F45.mg,vw,zB,F45.v8];by_cases e:l[i]=c
  .rw [Zac e,zD,zA,F45.qj];simp only [zH,vG,zP];rw [F45.ret];exact hK _ _ _ _ _ H0 (.bool _) (by rw [Zac (e ▸ Zbb ci)])
  .rw [Zab e,zC,zE,F45.fB,gq (by omega)];refine hR (m-1) _ _ _ _ _ _ _ (by omega) ⟨i+1,by congr 1,by omega,λhmem => ?_,rfl,rfl⟩;rw [Zau,hx,Zch] at hmem;rcases List.mem_append.1 hmem with q | q
   .exact hn q
   .exact e (List.mem_singleton.1 q).symm
 .rw [Zap (by omega)] at hn;rw [Zab (by omega),zC,yA,yF,zA,F45.nQ];simp only [zH,zP];rw [F45.ret];exact hK _ _ _ _ _ H0 (.bool _) (by rw [Zab hn])
theorem zsg {n:Nat} {l:List Int} (hr:∀ c∈l,0<=c/\c<(n:Int)) (c:Nat):at' (nY n l) c=if (c:Int)∈l then 1 else 0:=by
 have key:∀ k,k<=l.length->at' (nY n (l.take k)) c=if (c:Int)∈l.take k then 1 else 0:=by
  intro k
  induction k with
  | zero=>intro _;rw [Zdi,if_neg (by simp)];exact xD n c
  | succ k ih =>
   intro hk;have hx:=List.getElem?_eq_getElem (l:=l) (i:=k) (by omega);have hc:=hr _ (Zbb (l:=l) (n:=k) (by omega));rw [Zau,hx,Zch,mV];by_cases e:l[k].toNat=c
   .have e2:(c:Int)=l[k]:=by omega
    rw [if_pos (Zdf _ (List.mem_singleton.2 e2)),at',Zaa,e,List.getElem?_set_self (by rw [yQ];omega)];rfl
   .rw [at',Zaa,List.getElem?_set_ne e,<- Zaa];show at' (nY n (l.take k)) c=_;rw [ih (by omega)];by_cases m:(c:Int)∈l.take k
    .rw [if_pos m,if_pos (Zco _ m)]
    .rw [if_neg m,if_neg λq=>(List.mem_append.1 q).elim m λq=>e (by have:=List.mem_singleton.1 q;omega)]
 have:=key l.length (Zaf _)
 rwa [Zcq] at this
theorem zwp:T9 1=.str [49]:=by
 have e:fF 1=[49]:=by
  unfold fF kg nX;rw [show (1:Int).natAbs=1 from rfl,kE (by decide) (by decide),gJ];rfl
 show AV.str (qp 1)=_;rw [qp,if_pos (show (1:Rat).den=1 from rfl),Zbj,show ((1:Rat).num)=1 from rfl,e]
theorem law8 {cells:Int} {lines:List (List Int)} (haw:∀ {B},Pure Tryz.prog B 17 [] (· = .bool true)):Pure Tryz.prog B 8 [.agg [I cells,wu lines]] (· = .bool true):=by
 refine zX λh nx K H0 hK=>zM zO yD 2000 λhf => ?_;have awk:∀ (h:T Blk) (nx:Pa) (Z:Kw Prop),Z (.bool true) h nx=.ok True->(CS Tryz.prog B).fn 17 (.of 17) [] h nx Z=.ok True:=λh nx Z hZ=>haw _ _ _ _ λv hv _=>by rw [hv];exact hZ
 have ret:∀ {h1 nx1 L},Hp h h1 nx1 L->K (.bool true) h1 nx1=.ok True:=λH=>hK _ _ _ _ _ H (zY rfl) rfl;rw [F8.go,F8.t109,zA,F8.zx];refine H0.box (l:=[I cells,wu lines]) rfl λbx h1 nx1 H1 => ?_;have lN:∀ op:AV->OP,zG 2 (.ptr bx 0) h1 op=op (.agg [I cells,wu lines]):=λop=>H1.zn (k:=0) (n:=2) rfl rfl;have l0:∀ op:AV->OP,zI (.ptr bx (0+0)) h1 op=op (I cells):=λop=>H1.load (k:=0) (i:=0+0) rfl rfl;have l1:∀ op:AV->OP,zI (.ptr bx (0+1)) h1 op=op (wu lines):=λop=>H1.load (k:=0) (i:=0+1) rfl rfl;rw [zA,zA,F8.zu,lN];refine zzu _ _ _ _ ?_;rintro _ rfl _;rw [jF,zB,F8.v14];cases cF:fewB 16 12 cells lines with
 | false =>
  rw [Zao,zD,zA,F8.je];refine awk _ _ _ ?_;simp only [zH,zP];rw [F8.ret];exact ret H1
 | true =>
 simp only [fewB,Zah,decide_eq_true_eq] at cF;obtain ⟨⟨hl,hll⟩,he,hc16⟩:=cF;have hl:lines.length<=12:=by omega
 have hll:∀ l∈lines,l.length<=16:=λl hm=>by have:=hll l hm;omega
 obtain ⟨n,rfl,hn1,_,_,hasc⟩:=zhp he;have hn:n<=16:=by omega
 have hr:∀ l∈lines,∀ c∈l,0<=c/\c<(n:Int):=λl hlm=>(hasc l hlm).2.2;have hll2:∀ l∈lines,l.length<=256:=λl hm=>by have:=hll l hm;omega
 rw [Zaj,zC,zE,zA,F8.qj,lN];refine zse (by omega) hl hll2 he _ _ _ _ ?_;rintro _ ⟨Q,ps,hRd,rfl⟩ _;rw [jK,jJ,zA,F8.nk,lN];refine zf0 (by omega) hl hll2 he _ _ _ _ ?_;rintro _ ⟨D,⟨fr,P,ps2,hD⟩,rfl⟩ _;obtain ⟨O,hS⟩:=hRd.1;have hQ11:Q.length<=11:=Zas hRd.2.1 (by omega);have hDl:D.length<=lines.length:=by rw [<- hD.cnt];exact Nat.le_add_left _ _
 have hfr:=zdh n ps;rw [jK,jJ,zA,zA,F8.fQ,F8.r5_0,F8.zf2,di,Zac rfl,Zaj];simp only [yJ];rw [di,Zac rfl,Zaj,zW];simp only [yJ];rw [F8.r5_1,F8.zf3];simp only [yJ];rw [zV,sFx,l1,zV,qm,Zab (by omega),zW,zB,F8.v15,zC,zE,zA,F8.fK,zA,zA,F8.rJ,zV,zJ]
 have hsm:∀ c,∀ x∈rT n Q ps c,Sml x/\x.den<1000000000:=λc x hx=>⟨zjk hS hQ11 c x hx,by
  obtain ⟨t,t1,t2,t3⟩:=za2 hS hQ11 c;obtain ⟨j,_,rfl⟩:=vI hx;exact (zcb t1 t2 (t3 j) (Nat.le_mul_of_pos_left HB (by decide))).2⟩
 obtain ⟨ex,hex⟩:∃ ex:Nat->Nat,ex=λi=>if lines≠[]/\∃ c∈(frQ n ps).take i,dot (liQ n lines 0) (rT n Q ps c)≠0 then 1 else 0:=⟨_,rfl⟩
 have hxv:∀ i,ex i=if lines≠[]/\∃ c∈(frQ n ps).take i,dot (liQ n lines 0) (rT n Q ps c)≠0 then 1 else 0:=λi=>by rw [hex]
 refine F8.zxo (λk x7 x18 h' nx'=>∃ i:Nat,x7=I ((ex i:Nat):Int)/\x18=I (i:Int)/\k+i=(frQ n ps).length/\h'=h1/\nx'=nx1) (m:=(frQ n ps).length) (by omega) ⟨0,by rw [hex];simp,rfl,rfl,rfl,rfl⟩ ?_;rintro k z2 z7 z8 z18 z19 z20 z21 h3 nx3 R ⟨i,rfl,rfl,hk,rfl,rfl⟩ hR;rw [F8.t33,zA,F8.tZ,ji,zA,zB,F8.v19];by_cases ci:i<(frQ n ps).length
 .have hx:=List.getElem?_eq_getElem ci;obtain ⟨c,hce⟩:∃ c,c=(frQ n ps)[i]:=⟨_,rfl⟩;rw [<- hce] at hx;obtain ⟨b,hbe⟩:∃ b,b=rT n Q ps c:=⟨_,rfl⟩;have hbl:b.length=n:=by rw [hbe];exact mC ..
  have hrow:(zcd n (basL n Q ps))[i]? = some (eR b):=by
   rw [List.getElem?_map,List.getElem?_map,hx,hbe,eR,mC];rfl
  have htk:(frQ n ps).take (i+1)=(frQ n ps).take i++[c]:=by rw [Zau,hx,Zch]
  rw [Zac (show (i:Int)<((frQ n ps).length:Int) by omega),zD,zE,zA,zJ,zA,F8.nV,bR (i:=i) rfl ci,ldL hrow,zA,zA,F8.aP,zV,sFx,l0,di,Zac (by rw [hbl]),Zaj];simp only [yJ,zdl];refine zue (by omega) (by rw [hbe];exact hsm c) _ _ _ _ ?_;rintro _ rfl _;rw [di,Zac rfl,Zaj,zW,zB,F8.v20,zC,zE,zA,F8.zdu,F8.zlq,F8.zqc,sFx,l1,zV,qm];by_cases hm0:0<lines.length
  .have hl0:lines[0]? = some (lines.getD 0 []):=gN hm0;have hmem:=yI (l:=lines) (i:=0) (d:=[]) hm0;have hl16:=hll _ hmem;obtain ⟨t,t1,t2,t3⟩:=za2 hS hQ11 c;rw [<- hbe] at t3;rw [Zac (by omega)];simp only [yL,zar];rw [lN];refine zr8 hl0 (by omega) hbl (hr _ hmem) hl16 t1 t2 t3 _ _ _ _ ?_;rintro _ rfl _;rw [zjg hbl (hasc _ hmem) _ (Zaf _),Zcq,F8.zn8,F8.zh1];simp only [zar];refine zko _ _ _ _ ?_;rintro _ rfl _;rw [F8.zn7,F8.zh2];simp only [yL];rw [jF,zZ,zB,F8.v21];by_cases z:dot (nY n (lines.getD 0 [])) b=0
   .rw [Zac z,Zaj,zC,zE,F8.zdv,gq (by omega)];refine hR (k-1) _ _ _ _ _ _ _ _ _ (by omega) ⟨i+1,?_,by congr 1,by omega,rfl,rfl⟩;rw [hxv,hxv];have:(lines≠[]/\∃ c∈(frQ n ps).take (i+1),dot (liQ n lines 0) (rT n Q ps c)≠0)↔(lines≠[]/\∃ c∈(frQ n ps).take i,dot (liQ n lines 0) (rT n Q ps c)≠0):=by
     rw [htk];refine ⟨λ⟨a,d,hd,hv⟩=>⟨a,d,?_,hv⟩,λ⟨a,d,hd,hv⟩=>⟨a,d,Zco _ hd,hv⟩⟩;rcases List.mem_append.1 hd with q | q
     .exact q
     .rw [List.mem_singleton.1 q,<- hbe] at hv;exact absurd z hv
    simp only [this]
   .rw [Zab z,Zao,zD,F8.aQ,F8.zdv,gq (by omega)];refine hR (k-1) _ _ _ _ _ _ _ _ _ (by omega) ⟨i+1,?_,by congr 1,by omega,rfl,rfl⟩;rw [hxv (i+1),if_pos ⟨List.length_pos_iff.1 hm0,c,by rw [htk];exact Zdf _ (List.mem_singleton.2 rfl),by rw [<- hbe];exact z⟩];rfl
  .have hle:lines=[]:=List.length_eq_zero_iff.1 (by omega);rw [Zab (by omega)];simp only [yZ,dT];rw [F8.zn8,F8.zh1];simp only [dT];rw [F8.zn7,F8.zh2];simp only [yZ];rw [zW,zB,F8.v21,zC,zE,F8.zdv,gq (by omega)];refine hR (k-1) _ _ _ _ _ _ _ _ _ (by omega) ⟨i+1,?_,by congr 1,by omega,rfl,rfl⟩;have e0:∀ i,ex i=0:=λi=>by rw [hex];exact if_neg λq=>q.1 hle
   rw [e0,e0]
 obtain rfl:i=(frQ n ps).length:=by omega
 have hdim:=zsf (extra:=ex (frQ n ps).length) hl hRd hD (by rw [hex];show (if _ then _ else _)=_;rw [Zcq]);have hex1:ex (frQ n ps).length<=1:=by rw [hex];show (if _ then _ else _)<=1;split <;> omega
 rw [Zab (by omega),zC,yA,yF,zA,zA,F8.zln,F8.zlu,F8.zqd,zV,sFx,l1,zV,gq (by omega),zV,F8.ztf,F8.zqe,wz (by omega),wz (by omega),sFx,l0,di,Zac (by omega),Zaj,zB,F8.v22,zC,zE,zA,zA,F8.zk6,zV,zJ];have ld2:∀ d,(aO d).length=2:=λ_=>rfl;refine F8.zxz (λk x25 h' nx'=>∃ i:Nat,x25=I (i:Int)/\k+i=D.length/\Hp h h' nx' [.arr bx [I (n:Int),wu lines]]) (m:=D.length) (by omega) ⟨0,rfl,rfl,H1⟩ ?_;rintro k z2 z9 z10 z11 z12 z13 z25 z26 z27 z28 z29 z30 z31 z32 z33 z34 z35 z36 h3 nx3 R ⟨i,rfl,hk,H3⟩ hR;rw [F8.t95,zA,F8.zk7,ji,zA,zB,F8.v26];by_cases ci:i<D.length
 case neg =>
  rw [Zab (by omega),zC,yA,yF,zA,F8.zx0];refine awk _ _ _ ?_;simp only [zH,zP];rw [F8.ret];exact ret H3
 have hx:=List.getElem?_eq_getElem ci;obtain ⟨d,hde⟩:∃ d,d=D[i]:=⟨_,rfl⟩;rw [<- hde] at hx;obtain ⟨dl,hd2,⟨t,t1,t2,t3⟩,hsum⟩:=hD.dep d (Zad hx);have dfl:=za5 ld2 D;have heR:aO d=[I ((d.1:Nat):Int),eR d.2]:=by rw [aO,eR,hd2]
 have hdr:((D.flatMap aO).drop (i*2)).take 2=[I ((d.1:Nat):Int),eR d.2]:=by rw [zdn ld2 hx,heR]
 rw [Zac (by omega),zD,zE,zA,zJ,zA,F8.zk9,bR (i:=i) rfl ci,zhj (by rw [Zcc];omega),hdr];refine H3.alloc λb9 h4 nx4 H4 => ?_;refine H4.yx (k:=0) (l2:=[I ((d.1:Nat):Int),eR d.2]) rfl rfl rfl λh5 H5 => ?_;have m0:∀ op:AV->OP,zI (.ptr b9 (0+0)) h5 op=op (I ((d.1:Nat):Int)):=λop=>H5.load (k:=0) (i:=0+0) rfl rfl;have m1:∀ op:AV->OP,zI (.ptr b9 (0+1)) h5 op=op (eR d.2):=λop=>H5.load (k:=0) (i:=0+1) rfl rfl;have l0:∀ op:AV->OP,zI (.ptr bx (0+0)) h5 op=op (I (n:Int)):=λop=>H5.load (k:=1) (i:=0+0) rfl rfl;have l1:∀ op:AV->OP,zI (.ptr bx (0+1)) h5 op=op (wu lines):=λop=>H5.load (k:=1) (i:=0+1) rfl rfl;rw [zA,zA,F8.zla,F8.zlx,F8.zqf,sFx,m0,ji,Zab (by omega)];simp only [yJ];rw [sFx,m0,sFx,l1,F8.zti,F8.zqg];simp only [yJ];rw [zV,pz,Zab (by omega),zW];simp only [yJ];rw [sFx,m1,zV,sFx,F8.zth,F8.zqh];simp only [yJ];rw [m0,di,Zac (by rw [hd2]),Zaj,zW];simp only [yJ,zdl];rw [sFx,m1];refine zue (by omega) (λx hx => ?_) _ _ _ _ ?_
 .obtain ⟨j,_,rfl⟩:=vI hx;exact ⟨(t3 j).sml t1 (Zas t2 (by decide)) (by decide),(zcb t1 t2 (t3 j) (by decide)).2⟩
 rintro _ rfl _;rw [F8.ztg,F8.zqi];simp only [yJ];rw [di,Zac rfl,Zaj,zW,zB,F8.v27,zC,zE,zA,F8.zd0,sFx,l0,zJ];refine F8.zxx (λk x29 h' nx'=>∃ c:Nat,x29=I (c:Int)/\k+c=n/\h'=h5/\nx'=nx4) (m:=n) (by omega) ⟨0,rfl,rfl,rfl,rfl⟩ ?_;rintro k2 y2 y10 y11 y12 y13 y29 y30 y31 y32 y33 y34 y35 y36 h6 nx6 R2 ⟨c,rfl,hk2,rfl,rfl⟩ hR2;rw [F8.t85,zA,F8.zdw,ji,zA,zB,F8.v30];by_cases cc:c<n
 case neg =>
  rw [Zab (by omega),zC,yA,yF,F8.zxy,gq (by omega)];exact hR (k-1) _ _ _ _ _ _ _ _ _ _ _ _ _ _ _ _ _ _ _ _ (by omega) ⟨i+1,by congr 1,by omega,H5.drop⟩
 obtain ⟨S,hSe⟩:∃ S:Nat->Rat,S=λk=>sR k λj=>at' d.2 j*at' (liQ n lines j) c:=⟨_,rfl⟩;have hin:∀ j,j<lines.length->at' (liQ n lines j) c=if (c:Int)∈lines.getD j [] then 1 else 0:=λj hj=>zsg (hr _ (yI hj)) c
 have sdn:∀ j,j<=d.1->Dn t (j*(13*HB)) (S j):=by
  intro j
  induction j with
  | zero=>intro _;rw [hSe];exact Dn.zero _ _
  | succ j ih =>
   intro hj;rw [hSe,Zaz,Zcl];have e:=hin j (by omega);refine Dn.add (by have:=ih (by omega);rw [hSe] at this;exact this) ?_;show Dn t (13*HB) (at' d.2 j*at' (liQ n lines j) c);rw [e];split
   .rw [Rat.mul_one];exact t3 j
   .rw [Zbk];exact Dn.zero _ _
 rw [Zac (by omega),zD,zE,zA,zJ,zA,F8.zxp,zA,F8.zxq,zA,zA,F8.zxr,sFx,m1,zV,zJ];refine F8.zxv (λk x11 x33 h' nx'=>∃ j:Nat,x11=T9 (S j)/\x33=I (j:Int)/\k+j=d.1/\h'=h6/\nx'=nx6) (m:=d.1) (by omega) ⟨0,by rw [hSe];exact zdi.symm,rfl,rfl,rfl,rfl⟩ ?_;rintro k3 w11 w12 w13 w33 w34 w35 h7 nx7 R3 ⟨j,rfl,rfl,hk3,rfl,rfl⟩ hR3;rw [F8.t69,zA,F8.zxs,ji,zA,zB,F8.v34];by_cases cj:j<d.1
 .have hjl:j<lines.length:=by omega
  have hxj:(lines.map Go.Ev.encI)[j]? = some (Go.Ev.encI (lines.getD j [])):=by rw [List.getElem?_map,gN (d:=[]) hjl];rfl
  have hmj:=hll _ (yI (l:=lines) (d:=[]) hjl);have hnx:S (j+1)=S j+at' d.2 j*at' (liQ n lines j) c:=by rw [hSe];rfl
  rw [Zac (by omega),zD,zE,zA,zJ,zA,F8.zxt,bR (i:=j) rfl (by omega),ldL (zhq (by omega)),zA,F8.zxu,sFx,l1,bR (i:=j) rfl hjl,ldL hxj];refine zdp (by omega) _ _ _ _ ?_;rintro _ rfl _;rw [zB,F8.v35];have e:=hin j hjl;by_cases hc:(c:Int)∈lines.getD j []
  .rw [if_pos hc] at e;have q1:=zcb t1 t2 ((sdn j (by omega)).mono (Zax _ (show j<=12 by omega))) (by decide);have q2:=zcb t1 t2 (t3 j) (by decide);rw [Zac hc,zD,F8.zh0];refine zpf q1.1 q1.2 q2.1 q2.2 _ _ _ _ ?_;rintro _ rfl _;rw [F8.zsv,gq (by omega)];exact hR3 (k3-1) _ _ _ _ _ _ _ _ (by omega) ⟨j+1,by rw [hnx,e,Rat.mul_one],by congr 1,by omega,rfl,rfl⟩
  .rw [if_neg hc] at e;rw [Zab hc,zC,zE,F8.zsv,gq (by omega)];exact hR3 (k3-1) _ _ _ _ _ _ _ _ (by omega) ⟨j+1,by rw [hnx,e,Zbk,Zew],by congr 1,by omega,rfl,rfl⟩
 obtain rfl:j=d.1:=by omega
 have hSv:S d.1=if (c:Int)∈lines.getD d.1 [] then 1 else 0:=by rw [<- hin d.1 dl,hsum c cc,hSe]
 have hxd:(lines.map Go.Ev.encI)[d.1]? = some (Go.Ev.encI (lines.getD d.1 [])):=by rw [List.getElem?_map,gN (d:=[]) dl];rfl
 have hmd:=hll _ (yI (l:=lines) (d:=[]) dl);have s1:∀ {K:AV->OP},za .eql .str (.str [49]) (.str [49]) K=K (.bool true):=nr rfl;have s2:∀ {K:AV->OP},za .eql .str (.str [48]) (.str [49]) K=K (.bool false):=nr rfl;have s3:∀ {K:AV->OP},za .neq .str (.str [49]) (.str [49]) K=K (.bool false):=nr rfl;have s4:∀ {K:AV->OP},za .neq .str (.str [48]) (.str [49]) K=K (.bool true):=nr rfl;have s5:∀ {K:AV->OP},za .neq .str (.str [48]) (.str [48]) K=K (.bool false):=nr rfl;rw [Zab (by omega),zC,yA,yF,zA,F8.zxw,F8.zl4,F8.zqj,hSv];by_cases hc:(c:Int)∈lines.getD d.1 []
 .rw [if_pos hc,zwp,s1,sFx,l1,sFx,m0,bR (i:=d.1) rfl dl,ldL hxd,F8.zob,F8.zh3];refine zdp (by omega) _ _ _ _ ?_;rintro _ rfl _;rw [Zac hc,F8.zoa,F8.zh4,zhg];simp only [bne_self_eq_false,yJ];rw [s3];simp only [yZ,dM];rw [zW,F8.zn9,F8.zh5,zW,zB,F8.v36,zC,zE,F8.zsw,gq (by omega)];exact hR2 (k2-1) _ _ _ _ _ _ _ _ _ _ _ _ _ _ _ (by omega) ⟨c+1,by congr 1,by omega,rfl,rfl⟩
 .rw [if_neg hc,zdi,s2,sFx,l1,sFx,m0,bR (i:=d.1) rfl dl,ldL hxd,F8.zob,F8.zh3];refine zdp (by omega) _ _ _ _ ?_;rintro _ rfl _;rw [Zab hc,F8.zoa,F8.zh4,zhg];simp only [bne_self_eq_false,yJ];rw [s4];simp only [yL];rw [s5,zZ,F8.zn9,F8.zh5,zW,zB,F8.v36,zC,zE,F8.zsw,gq (by omega)];exact hR2 (k2-1) _ _ _ _ _ _ _ _ _ _ _ _ _ _ _ (by omega) ⟨c+1,by congr 1,by omega,rfl,rfl⟩
end Go.Ev
