import Derived.Test.YtfgpjkchdelphaaGreatDoorWordsb
import Derived.Test.YtfgpjkchdelphaaGreatDoorCodeb
import Derived.Test.YtfgpjkchdelphaaGreatDoorWordsa
import Derived.Test.YtfgpjkchdelphaaGreatDoorCodea
set_option linter.unusedSimpArgs false
set_option linter.unusedVariables false
namespace Go.Ev
open Go Go.Proofs
variable {B:Nat}
set_option maxRecDepth 100000
theorem qy.qd {M:Nat} {q:Rat} (h:qy M q) (hM:M<1000000000):Qd q:=⟨Zdf h.1 hM,Zdf h.2 hM⟩
theorem Gd.szP {w j i:Nat} {M0 M:List (List Rat)} {P:List Nat} {li lr:List Rat} (h:Gd w M0 j M P) (hS:SmP M0) (hsg:∀ o∈M0,o.length=w/\∀ c,Sg (at' o c)) (hj:j<w) (hi:P.length<=i) (hli:M[i]? = some li) (hlr:M[P.length]? = some lr) (hv:li.getD j 0≠0) (hb:w<=12\/M.length<=11):zu4 j i li lr M P.length:=by
 have him:=(List.getElem?_eq_some_iff.1 hli).1;have hkm:=(List.getElem?_eq_some_iff.1 hlr).1;have hpl:=h.pl;have hP:P.length<=11:=by omega
 have gi:M.getD i []=li:=by rw [Zaa,hli];rfl
 have hsz:=h.sz hS hsg hP;have hlil:=h.row _ (Zad hli);have zk9:∀ l∈M,qy (12*ZB) (l.getD j 0):=λl hl=>hsz l hl _ (Zad (uA (by rw [h.row l hl];exact hj)));have hvi:qy (12*ZB) (li.getD j 0)⁻¹:=(zk9 li (Zad hli)).inv;have hrow:∀ q∈li.map (· * (li.getD j 0)⁻¹),qy ZB q:=λq hq=>by
  have hq':q∈yM (at' li j)⁻¹ li:=hq;obtain ⟨c,hc,rfl⟩:=at_mem hq';rw [jW,hlil] at hc;by_cases hk:P.length+1<=11
  .obtain ⟨t,t1,t2,t3,_⟩:=(h.piv hj hi hli hlr hv).col hS hsg (by rw [Zae,Zbf];exact hk) c;have:=t3 P.length (by rw [Zae,Zbf];omega);rw [zhq hkm,if_pos rfl] at this;exact this.nm t1 t2
  .rcases Zgy c j with e | e | e
   .rw [uH,<- gi,h.zer i hi c e,Zbj];exact (Dn.zero 1 ZB).nm (Zaf _) (by decide)
   .have:at' (yM (at' li j)⁻¹ li) c=1:=by rw [e,uH];have hv':at' li j≠0:=hv;grind
    rw [this];exact (Sg.q1 (.inr (.inr rfl))).mono (by decide)
   .omega
 refine ⟨hvi.qd (by decide),λq hq=>(hrow q hq).qd (by decide),λl hl q hq => ?_⟩;have hlj:qy (12*ZB) (l.getD j 0):=by
  rcases Zbs hl with e | e
  .rcases Zbs e with e | e
   .rcases Zbs e with e | e
    .exact zk9 l e
    .rw [e];exact zk9 _ (Zad hlr)
   .rw [e];exact zk9 _ (Zad hli)
  .rw [e];exact (hrow _ (Zad (uA (q:=li.map (· * (li.getD j 0)⁻¹)) (j:=j) (by rw [Zah,hlil];exact hj)))).mono (by decide)
 exact (ze5 hlj (hrow q hq)).qd (by decide)
theorem zs8 {M0:List (List Rat)} {w:Nat} (hS:SmP M0) (hsg:∀ o∈M0,o.length=w/\∀ c,Sg (at' o c)) (hw1:1<=w) (hw:w<=1000) (hM1:1<=M0.length) (hM:M0.length<=1000) (hb:w<=12\/M0.length<=11):Pure Tryz.prog B 190 [wL M0] (λv=>∃ j M P,Gd w M0 j M P/\M.length=M0.length/\(j=w\/P.length=M.length)/\v=.tup [wL (M.take P.length),.lst 1 P.length (P.map D)]):=λp h nx K hK=>by
 refine zms (λj M P=>Gd w M0 j M P) hw1 hw hM1 hM (λl hl=>(hsg l hl).1) (Gd.start λl hl=>(hsg l hl).1) (λj M P hg cj cP hm l hl q hq => ?_) (λj M P hg cj _ _ hz=>hg.skip cj hz) (λj M P i li lr hg cj cP hi hm hli hlr hv=>⟨hg.piv cj hi hli hlr hv,hg.szP hS hsg cj hi hli hlr hv (by omega)⟩) p h nx K ?_
 .have:=hg.pl;exact (hg.sz hS hsg (by omega) l hl q hq).qd (by decide)
 .rintro v ⟨j,M,P,hg,hm,_,he,rfl⟩ hf;exact hK _ ⟨j,M,P,hg,hm,he,rfl⟩ hf
theorem ze6 {h0 h:T Blk} {nx p:Pa} {L:List Ob} {n:Nat} {K:Kw Prop} (H:Hp h0 h nx L) (hn:n<=1000) (hK:∀ o h' nx',Hp h0 h' nx' (.gro o 1 n ((List.replicate n (0:Rat)).map T9)::L)->K (cu o 1 n) h' nx'=.ok True):(CS Tryz.prog B).fn 36 p [I (n:Int)] h nx K=.ok True:=by
 refine zM zQ yA 2000 λhf => ?_;rw [F36.go,F36.t18,zA,F36.zw,zA,F36.zu,zA,zA,F36.jd,zI];refine F36.oN (λm x2 x3 h' nx'=>∃ (i:Nat) (o:Option Pa),x2=cu o 1 i/\x3=I (i:Int)/\m+i=n/\Hp h0 h' nx' (.gro o 1 i ((List.replicate i (0:Rat)).map T9)::L)) (m:=n) (by omega) ⟨0,none,rfl,rfl,rfl,H.sw 1⟩ ?_;rintro m z2 z3 z4 h3 nx3 R ⟨i,o,rfl,rfl,hm,H3⟩ hR;rw [F36.t10,zA,zA,F36.pu,jk,zB,F36.v4];by_cases ci:i<n
 .rw [Zac (by omega),zD,zE,zA,zI,F36.ku];refine H3.aB (v:=.str [48]) (by omega) (by decide) rfl rfl λo' h7 nx7 H7 => ?_;rw [F36.fE,ug (by omega)];refine hR (m-1) _ _ _ _ _ (by omega) ⟨i+1,o',rfl,by congr 1,by omega,?_⟩;rw [Zgh,Zaz,Zcw,zs7];exact H7
 .obtain rfl:i=n:=by omega
  rw [Zab (by omega),zC,zW,yD,zA,F36.nT];simp only [zF,zN];rw [F36.ret];exact hK o _ _ H3
theorem zla {id:Pa} {n j:Nat} {z:Int} {op:AV->OP} (hz:z=(j:Int)) (hj:j<n):zK 1 (.sl id 0 n none 1) (I z) op=op (.ptr id j):=by
 subst hz;rw [uI hj,Zbe,Zby]
theorem zxg:T9 1=.str [49]:=by
 have e:mg 1=[49]:=by
  unfold mg qx nW;rw [show (1:Int).natAbs=1 from rfl,kN (by decide) (by decide),gM];rfl
 show AV.str (qg 1)=_;rw [qg,if_pos (show (1:Rat).den=1 from rfl),Zbh,show ((1:Rat).num)=1 from rfl,e]
theorem zhs {h0 h:T Blk} {nx p:Pa} {L:List Ob} {n i:Nat} {lines:List (List Int)} {l:List Int} {K:Kw Prop} (H:Hp h0 h nx L) (hli:lines[i]? = some l) (hr:∀ c∈l,0<=c/\c<(n:Int)) (hn1:1<=n) (hn:n<=1000) (hll:l.length<=1000) (hK:∀ id h' nx',Hp h0 h' nx' (.gro (some id) 1 n ((tF n l).map T9)::L)->K (.sl id 0 n none 1) h' nx'=.ok True):(CS Tryz.prog B).fn 98 p [.agg [I (n:Int),xk lines],I (i:Int)] h nx K=.ok True:=by
 refine zM zQ yA 2000 λhf => ?_;have hil:=(List.getElem?_eq_some_iff.1 hli).1;have hlm:(lines.map Go.Ev.encI)[i]? = some (Go.Ev.encI l):=by rw [List.getElem?_map,hli];rfl
 rw [F98.go,F98.t18,zA,F98.zw];refine H.box (l:=[I (n:Int),xk lines]) rfl λbx h1 nx1 H1 => ?_;rw [zA,F98.zu,sFx,H1.load (k:=0) (i:=0+0) rfl rfl];refine ze6 H1 hn λo h2 nx2 H2 => ?_;obtain ⟨id,rfl⟩:∃ id,o=some id:=by
  cases o with
  | none=>obtain ⟨_,hz⟩:=H2.own _ (Zaj ..);omega
  | some id=>exact ⟨id,rfl⟩
 rw [show cu (some id) 1 n=.sl id 0 n none 1 from rfl,zA,zA,F98.jd,zI];refine F98.oN (λm x5 h' nx'=>∃ k:Nat,x5=I (k:Int)/\m+k=l.length/\nx'=nx2/\Hp h0 h' nx2 (.gro (some id) 1 n ((tF n (l.take k)).map T9)::.arr bx [I (n:Int),xk lines]::L)) (m:=l.length) (by omega) ⟨0,rfl,rfl,rfl,H2⟩ ?_;rintro m z5 z6 h3 nx3 R ⟨k,rfl,hm,rfl,H3⟩ hR;have l1:∀ op:AV->OP,zH (.ptr bx (0+1)) h3 op=op (xk lines):=λop=>H3.load (k:=1) (i:=0+1) rfl rfl;rw [F98.t10,zA,zA,F98.pu,sFx,l1,fF (i:=i) rfl hil,ldL hlm,zX,jk,zB,F98.v6];by_cases ck:k<l.length
 .have hx:=List.getElem?_eq_getElem ck;have hc:=hr _ (Zav ck);have hql:=jE n (l.take k);rw [Zac (by omega),zD,zE,zA,zI,F98.ku,sFx,l1,fF (i:=i) rfl hil,ldL hlm,fF (i:=k) rfl ck,ldL (aO hx),zla (j:=l[k].toNat) (by omega) (by omega)];refine H3.zbf (k:=0) (i:=l[k].toNat) rfl (by rw [Zah,hql];omega) rfl λh4 H4 => ?_;have H5:Hp h0 h4 nx3 (.gro (some id) 1 n ((tF n (l.take (k+1))).map T9)::.arr bx [I (n:Int),xk lines]::L):=by
   have e:(tF n (l.take (k+1))).map T9=((tF n (l.take k)).map T9).set l[k].toNat (.str [49]):=by
    rw [Zat,hx,Zdn,bE,Zfm,zxg]
   rw [e];exact H4
  rw [F98.fE,ug (by omega)];exact hR (m-1) _ _ _ _ (by omega) ⟨k+1,by congr 1,by omega,rfl,H5⟩
 .rw [Zaq (by omega)] at H3;rw [Zab (by omega),zC,zW,yD,zA,F98.nT];simp only [zF,zN];rw [F98.ret];exact hK id _ _ (H3.perm (.swap _ _ _)).drop
theorem zmt {M:List (List Rat)} {w:Nat} (hM:1<=M.length) (hw:∀ l∈M,l.length=w):Pure Tryz.prog B 196 [wL M] (· = I (w:Int)):=by
 refine zT λh nx K H0 hK=>zM zQ yA 100 λhf => ?_;have hx:=List.getElem?_eq_getElem (l:=M) (i:=0) (by omega);have ec:(M.map gS)[0]? = some (gS M[0]):=by rw [List.getElem?_map,hx];rfl
 rw [vz.go,vz.t9,zA,vz.zw,zA,zA,vz.zu,wL,zX,wm,Zab (by omega),zB,vz.v2,zC,zE,zA,vz.ku,fF (j:=0) (i:=0) rfl (by omega),ldL ec,gS,zX];simp only [zF,zN];rw [vz.ret];exact hK _ _ _ _ _ H0 (.int _ _) (by rw [hw _ (Zav _)])
def oI (m:List (List Rat)) (b:List Rat):List (List Rat):=List.zipWith (λl y=>l++[y]) m b
theorem zht {m:List (List Rat)} {b:List Rat} (h:b.length=m.length):(oI m b).length=m.length:=by unfold oI;rw [Zcp];omega
theorem zcf {m:List (List Rat)} {b:List Rat} {i:Nat} {l:List Rat} {y:Rat} (h1:m[i]? = some l) (h2:b[i]? = some y):(oI m b)[i]? = some (l++[y]):=by
 unfold oI;rw [List.getElem?_zipWith,h1,h2]
def ax (K:Nat) (M:List (List Rat)) (P:List Nat):Nat->List Rat
 | 0=>List.replicate K 0
 | k+1=>(ax K M P k).set (P.getD k 0) (at' (M.getD k []) K)
theorem qO (K:Nat) (M:List (List Rat)) (P:List Nat):∀ k,(ax K M P k).length=K
 | 0=>Zau
 | k+1=>by rw [ax,Zas,qO K M P k]
theorem zq2 {m:List (List Rat)} {b:List Rat} {K:Nat} (hK1:1<=K) (hK2:K+1<=12) (hm1:1<=m.length) (hm:m.length<=1000) (hb:b.length=m.length) (hr:∀ l∈m,l.length=K) (hS:SmP (oI m b)) (hsg:∀ o∈oI m b,o.length=K+1/\∀ c,Sg (at' o c)) :
  Pure Tryz.prog B 113 [wL m,eR b] (λv=>∃ j M P,Gd (K+1) (oI m b) j M P/\M.length=m.length/\(j=K+1\/P.length=M.length)/\((K∈P/\v=.tup [.lst 1 0 [],.bool false])\/K∉P/\v=.tup [eR (ax K M P P.length),.bool true])):=by
 refine zT λh nx Kk H0 hK=>zM zQ yA 2000 λhf => ?_;have hwl:=zht hb;rw [zk.go,zk.t43,zA,zk.zw,zA,zk.zu,zA,zk.jd];refine zmt hm1 hr _ _ _ _ ?_;rintro _ rfl _;rw [zA,zA,zk.pu,zI];refine zk.zx6 (λq x4 x6 h' nx'=>∃ (i:Nat) (o:Option Pa) (rs:List Pa),x4=cu o 1 i/\x6=I (i:Int)/\q+i=m.length/\rs.length=i/\Hp h h' nx' (.gro o 1 i (rs.map (rv9 (K+1)))::yS rs ((oI m b).take i))) (m:=m.length) (by omega) ⟨0,none,[],rfl,rfl,rfl,rfl,H0.sw 1⟩ ?_;rintro q z4 z6 z11 h3 nx3 R ⟨i,o,rs,rfl,rfl,hq,hrs,H3⟩ hR;rw [zk.t11,zA,zA,zk.fG,show wL m=.lst 1 m.length (m.map gS) from rfl,zX,jk,zB,zk.v11];by_cases ci:i<m.length
 .have hx:=List.getElem?_eq_getElem ci;have hxb:=List.getElem?_eq_getElem (l:=b) (i:=i) (by omega);have hl:=hr _ (Zav ci);have ec:(m.map gS)[i]? = some (gS m[i]):=by rw [List.getElem?_map,hx];rfl
  obtain ⟨y,hy⟩:∃ y,y=b[i]:=⟨_,rfl⟩;rw [<- hy] at hxb;have ecb:(b.map T9)[i]? = some (T9 y):=by rw [List.getElem?_map,hxb];rfl
  have ix0:∀ op:AV->OP,zK 1 (.lst 1 m.length (m.map gS)) (I (i:Int)) op=op (.fp ((m.map gS).drop (i*1))):=λop=>fF rfl ci;have ld0:∀ (hh:T Blk) (op:AV->OP),zH (.fp ((m.map gS).drop (i*1))) hh op=op (gS m[i]):=λhh op=>ldL ec;have ix1:∀ op:AV->OP,zK 1 (.lst 1 b.length (b.map T9)) (I (i:Int)) op=op (.fp ((b.map T9).drop (i*1))):=λop=>fF rfl (by omega);have ld1:∀ (hh:T Blk) (op:AV->OP),zH (.fp ((b.map T9).drop (i*1))) hh op=op (T9 y):=λhh op=>ldL ecb;have k1:((gE (fB 0 [(.str [])]) []).isSome&&true)=true:=rfl;have k2:((gE (fB 1 [(.str [])]) [(0,1,T9 y)]).isSome&&true)=true:=rfl;rw [Zac (by omega),zD,zE,zA,zI,zk.fe];simp only [ix0,ld0,ix1,ld1,k1,k2,jR,zG];refine H3.dz (l:=[]) rfl λe h4 nx4 H4 => ?_;refine H4.appE (new:=m[i].map T9) (c:=K) (λno K'=>by rw [gS,hl];rfl) (by simp [hl]) (zkz _) (by decide) hK1 (by omega) λid h5 nx5 H5 => ?_;refine H5.zws (v:=T9 y) (by omega) (by decide) rfl rfl λid' h6 nx6 H6 => ?_;have H7:=H6.af.perm (.swap _ _ _);refine H7.aB (v:=rv9 (K+1) id') (by omega) (by decide) rfl rfl λo' h8 nx8 H8 => ?_;rw [zk.nP,ug (by omega)];refine hR (q-1) _ _ _ _ _ (by omega) ⟨i+1,o',rs++[id'],rfl,by congr 1,by omega,by simp [hrs],?_⟩;have ht:(oI m b).take (i+1)=(oI m b).take i++[m[i]++[y]]:=by rw [Zat,zcf hx hxb];rfl
  rw [ht,wF (by rw [Zai];omega),Zaz,Zaz];exact H8.perm ((Zdl _ _).symm.cons _)
 obtain rfl:i=m.length:=by omega
 rw [Zaq (by omega)] at H3;obtain ⟨tid,rfl⟩:∃ id,o=some id:=by
  cases o with
  | none=>obtain ⟨_,hz⟩:=H3.own _ (Zaj ..);omega
  | some id=>exact ⟨id,rfl⟩
 have HP:PM h h3 nx3 tid rs (K+1) [] (oI m b):=⟨by omega,λl hl=>(hsg l hl).1,by rw [Zbh];exact H3.af⟩;obtain ⟨h4,k4,H4,n1,n2⟩:=HP.zu3;have fz:=ze1 HP (Zaf _) n1 n2;rw [Zcx,hwl] at fz;rw [Zab (by omega),zC,zW,yD,zA,zk.tH];refine pR k4 (.cons fz .nil) ?_;refine zs8 hS hsg (by omega) (by omega) (by omega) (by omega) (.inl hK2) _ _ _ _ ?_;rintro _ ⟨j,M,P,hg,hM,he,rfl⟩ _;have hpm:=hg.pm;have hPr:∀ a,a<P.length->P.getD a 0<K+1:=λa ha=>Zcm (hg.rng _ (yG ha)) hg.jw;have hP12:P.length<=12:=by have:=hg.pl;have:=hg.jw;omega
 rw [jD,jC,zA,zk.rG];refine ze6 H4 (by omega) λo5 h5 nx5 H5 => ?_;obtain ⟨id,rfl⟩:∃ id,o5=some id:=by
  cases o5 with
  | none=>obtain ⟨_,hz⟩:=H5.own _ (Zaj ..);omega
  | some id=>exact ⟨id,rfl⟩
 rw [show cu (some id) 1 K=.sl id 0 K none 1 from rfl,zA,zA,zk.tT,zI];refine zk.zx7 (λq x10 h' nx'=>∃ k:Nat,x10=I (k:Int)/\q+k=P.length/\(∀ a,a<k->P.getD a 0≠K)/\nx'=nx5/\Hp h h' nx5 [.gro (some id) 1 K ((ax K M P k).map T9)]) (m:=P.length) (by omega) ⟨0,rfl,rfl,λa ha=>by omega,rfl,H5⟩ ?_;rintro q z2 z3 z10 z12 z13 h6 nx6 R2 ⟨k,rfl,hqk,hne,rfl,H6⟩ hR2;rw [zk.t31,zA,zA,zk.aT,zX,jk,zB,zk.v12];by_cases ck:k<P.length
 .have hpk:(P.map D)[k]? = some (D (P.getD k 0)):=by rw [List.getElem?_map,gR (d:=0) ck];rfl
  have hpr:=hPr k ck;have hMk:(M.take P.length)[k]? = some (M.getD k []):=by rw [List.getElem?_take_of_lt ck];exact gR (by omega)
  have hrl:=hg.row _ (yG (l:=M) (i:=k) (d:=[]) (by omega));have ecM:((M.take P.length).map gS)[k]? = some (gS (M.getD k [])):=by rw [List.getElem?_map,hMk];rfl
  have hcell:((M.getD k []).map T9)[K]? = some (T9 (at' (M.getD k []) K)):=by rw [List.getElem?_map,uA (by omega)];rfl
  rw [Zac (by omega),zD,zE,zA,zI,zA,zA,zk.oM,fF (i:=k) rfl ck,ldL hpk,wm,zB,zk.v13];by_cases e:P.getD k 0=K
  .rw [Zac (by omega),zD,zA,zk.rW];simp only [zF,dB,zN];rw [zk.ret];exact hK _ _ _ _ _ H6 (gD (.og 1) (.bool _)) ⟨j,M,P,hg,hM.trans hwl,he,.inl ⟨e ▸ yG ck,rfl⟩⟩
  .have hlen:(M.take P.length).length=P.length:=by rw [Zai];omega
   rw [Zab (by omega),zC,zE,zk.eY,zk.zm5,zk.zq6,fF (i:=k) rfl ck,ldL hpk,show wL (M.take P.length)=.lst 1 (M.take P.length).length ((M.take P.length).map gS) from rfl,fF (i:=k) rfl (by omega),zk.zt6,zk.zq7,ldL ecM,gS,fF (i:=K) rfl (by omega),ldL hcell,zla (j:=P.getD k 0) rfl (by omega)];refine H6.zbf (k:=0) (i:=P.getD k 0) rfl (by rw [Zah,qO];omega) rfl λh7 H7 => ?_;rw [zk.zm0,ug (by omega)];refine hR2 (q-1) _ _ _ _ _ _ _ (by omega) ⟨k+1,by congr 1,by omega,λa ha => ?_,rfl,?_⟩
   .by_cases ea:a=k
    .rw [ea];exact e
    .exact hne a (by omega)
   .rw [ax,Zfm];exact H7
 obtain rfl:k=P.length:=by omega
 have hnot:K∉P:=λhmem=>by
  obtain ⟨a,ha⟩:=List.mem_iff_getElem?.1 hmem;have hal:=(List.getElem?_eq_some_iff.1 ha).1;exact hne a hal (by rw [Zaa,ha];rfl)
 rw [Zab (by omega),zC,zW,yD,zA,zk.zfj];simp only [zF,zN];rw [zk.ret];refine hK _ _ _ _ _ H6 (gD (H6.zbe (k:=0) rfl λv hv=>by obtain ⟨x,_,rfl⟩:=List.mem_map.1 hv;rfl) (.bool _)) ⟨j,M,P,hg,hM.trans hwl,he,.inr ⟨hnot,?_⟩⟩;rw [eR,qO]
end Go.Ev
namespace Go.Ev
open Go Go.Proofs
abbrev cmb (n:Nat) (lines:List (List Int)) (i:Nat) (g:Nat->Rat) (c:Nat):Rat:=sR i λk=>g k*at' (liQ n lines k) c
structure Ds (n:Nat) (lines:List (List Int)) (i:Nat) (fr:List Nat) (D:List (Nat×List Rat)):Prop where
 frl:∀ x∈fr,x<i
 ffl:fr=(List.range i).filter λx=>decide (x∈fr)
 dix:D.map (·.1)=(List.range i).filter λx => !decide (x∈fr)
 dlen:∀ d∈D,d.2.length=d.1
 dsup:∀ d∈D,∀ k,k∉fr->at' d.2 k=0
 deq:∀ d∈D,∀ c,c<n->at' (liQ n lines d.1) c=cmb n lines d.1 (at' d.2) c
 ind:∀ g:Nat->Rat,(∀ k,k∉fr->g k=0)->(∀ c,c<n->cmb n lines i g c=0)->∀ k,g k=0
theorem Ds.nil (n:Nat) (lines:List (List Int)):Ds n lines 0 [] []:=⟨by simp,rfl,rfl,by simp,by simp,by simp,λg h _ k=>h k (by simp)⟩
theorem ze7 {F:Nat->Rat} {i:Nat}:∀ {m:Nat},i<=m->(∀ k,i<=k->k<m->F k=0)->sR m F=sR i F
 | 0,h,_=>by rw [show i=0 by omega]
 | m+1,h,hz=>by
  by_cases e:i=m+1
  .rw [e]
  .rw [sR,ze7 (m:=m) (by omega) λk h1 h2=>hz k h1 (by omega),hz m (by omega) (by omega),Zdu]
theorem zjk (F G:Nat->Rat):∀ k,sR k (λj=>F j+G j)=sR k F+sR k G
 | 0=>by simp only [sR];grind
 | k+1=>by rw [sR,sR,sR,zjk F G k];grind
theorem ze8 (c:Rat) (F:Nat->Rat):∀ k,sR k (λj=>c*F j)=c*sR k F
 | 0=>by simp only [sR];grind
 | k+1=>by rw [sR,sR,ze8 c F k];grind
theorem zlb (n:Nat) (lines:List (List Int)) (i:Nat) (f g:Nat->Rat) (c:Nat):cmb n lines i (λk=>f k-g k) c=cmb n lines i f c-cmb n lines i g c:=by
 have e:cmb n lines i (λk=>f k-g k) c=sR i (λk=>f k*at' (liQ n lines k) c + -1*(g k*at' (liQ n lines k) c)):=jJ λk _=>by grind
 rw [e,zjk,ze8];grind
theorem Ds.no {n m x:Nat} {lines:List (List Int)} {fr:List Nat} {D:List (Nat×List Rat)} (h:Ds n lines m fr D) (hx:x∈fr) {f:List Rat} (hf:f.length=x) (hs:∀ k,k∉fr->at' f k=0) (he:∀ c,c<n->at' (liQ n lines x) c=cmb n lines x (at' f) c):False:=by
 have hxm:=h.frl x hx
 have:=h.ind (λk=>(if k=x then 1 else 0)-at' f k) (λk hk=>by
  show (if k=x then 1 else 0)-at' f k=0;rw [if_neg (λe:k=x=>hk (by rw [e];exact hx)),hs k hk];grind) (λc hc=>by
  rw [zlb];have e1:cmb n lines m (λk=>if k=x then 1 else 0) c=at' (liQ n lines x) c:=by
   show sR m (λk=>(if k=x then 1 else 0)*at' (liQ n lines k) c)=_;rw [kP (i:=x) (x:=λk=>at' (liQ n lines k) c) λb _ => ?_,if_pos hxm];by_cases e:b=x
   .rw [if_pos e,if_pos e.symm]
   .rw [if_neg e,if_neg λq=>e q.symm]
  have e2:cmb n lines m (at' f) c=cmb n lines x (at' f) c:=ze7 (by omega) λk h1 h2=>by rw [jN (by omega),Zbj]
  rw [e1,e2,<- he c hc];grind) x
 have this:(if x=x then 1 else 0)-at' f x=0:=this;rw [if_pos rfl,jN (by omega)] at this
 grind
theorem Ds.unique {n m:Nat} {lines:List (List Int)} {fr fr':List Nat} {D D':List (Nat×List Rat)} (h:Ds n lines m fr D) (h':Ds n lines m fr' D'):fr=fr'/\D=D':=by
 have half:∀ {fr fr':List Nat} {D D':List (Nat×List Rat)},Ds n lines m fr D->Ds n lines m fr' D'->∀ x,(∀ y,y<x->(y∈fr↔y∈fr'))->x∈fr->x∈fr':=by
  intro fr fr' D D' h h' x hy hx;refine Classical.byContradiction λhx' => ?_;have hxm:=h.frl x hx;have:x∈D'.map (·.1):=by
   rw [h'.dix];exact List.mem_filter.2 ⟨List.mem_range.2 hxm,by simpa using hx'⟩
  obtain ⟨d,hd,rfl⟩:=List.mem_map.1 this;refine h.no hx (h'.dlen d hd) (λk hk => ?_) (h'.deq d hd);by_cases hkx:k<d.1
  .exact h'.dsup d hd k λq=>hk ((hy k hkx).2 q)
  .exact jN (by rw [h'.dlen d hd];omega)
 have iff:∀ x,x∈fr↔x∈fr':=by
  intro x
  induction x using Nat.strongRecOn with
  | _ x ih=>exact ⟨half h h' x ih,half h' h x λy hy=>(ih y hy).symm⟩
 have ef:fr=fr':=by
  rw [h.ffl,h'.ffl];exact Zfr λx _=>decide_eq_decide.2 (iff x)
 refine ⟨ef,?_⟩;subst ef;have em:D.map (·.1)=D'.map (·.1):=by rw [h.dix,h'.dix]
 have el:D.length=D'.length:=by have:=congrArg List.length em;simpa using this
 refine Zeu el λa h1 h2 => ?_;have e1:D[a].1=D'[a].1:=by
  have:=congrArg (λl=>l[a]?) em;simpa [h1,h2] using this
 have m1:=Zav h1;have m2:=Zav h2;have l1:=h.dlen _ m1;have l2:=h'.dlen _ m2;have lt:D[a].1<m:=by
  have:D[a].1∈D.map (·.1):=List.mem_map.2 ⟨_,m1,rfl⟩;rw [h.dix] at this;exact List.mem_range.1 (List.mem_filter.1 this).1
 have z:=h.ind (λk=>at' D[a].2 k-at' D'[a].2 k) (λk hk=>by rw [h.dsup _ m1 k hk,h'.dsup _ m2 k hk];grind) λc hc=>by
  rw [zlb];have c1:cmb n lines m (at' D[a].2) c=cmb n lines D[a].1 (at' D[a].2) c:=ze7 (by omega) λk h1 h2=>by rw [jN (by omega),Zbj]
  have c2:cmb n lines m (at' D'[a].2) c=cmb n lines D'[a].1 (at' D'[a].2) c:=ze7 (by omega) λk h1 h2=>by rw [jN (by omega),Zbj]
  rw [c1,c2,<- h.deq _ m1 c hc,<- h'.deq _ m2 c hc,e1];grind
 refine Prod.ext e1 (Zeu (by omega) λk k1 k2 => ?_);have e:=z k;have a1:at' D[a].2 k=D[a].2[k]:=by rw [at',Zaa,List.getElem?_eq_getElem k1];rfl
 have a2:at' D'[a].2 k=D'[a].2[k]:=by rw [at',Zaa,List.getElem?_eq_getElem k2];rfl
 rw [<- a1,<- a2]
 grind
theorem Ds.zs9 {n i:Nat} {lines:List (List Int)} {fr:List Nat} {D:List (Nat×List Rat)} (h:Ds n lines i fr D) (hn:¬ ∃ f:Nat->Rat,(∀ k,k∉fr->f k=0)/\∀ c,c<n->at' (liQ n lines i) c=cmb n lines i f c):Ds n lines (i+1) (fr++[i]) D:=by
 refine ⟨λx hx => ?_,zkt h.ffl h.frl,zg9 h.dix h.frl,h.dlen,λd hd k hk=>h.dsup d hd k λq=>hk (Zbw _ q),h.deq,λg hg hz => ?_⟩
 .rcases List.mem_append.1 hx with q | q
  .exact Zdz (h.frl x q)
  .rw [List.mem_singleton.1 q];exact Nat.lt_succ_self i
 have gi:g i=0:=Classical.byContradiction λhgi=>hn ⟨λk=>if k=i then 0 else -(g i)⁻¹*g k,λk hk=>by
  show (if k=i then 0 else -(g i)⁻¹*g k)=0;by_cases e:k=i
  .rw [if_pos e]
  .rw [if_neg e,hg k λq=>(List.mem_append.1 q).elim hk λq=>e (List.mem_singleton.1 q),Zbx],λc hc=>by
  have e1:=hz c hc;have e2:cmb n lines i (λk=>if k=i then 0 else -(g i)⁻¹*g k) c = -(g i)⁻¹*cmb n lines i g c:=by
   rw [<- ze8];exact jJ λk hk=>by
    show (if k=i then 0 else -(g i)⁻¹*g k)*at' (liQ n lines k) c=_;rw [if_neg (by omega)];grind
  have e3:cmb n lines (i+1) g c=cmb n lines i g c+g i*at' (liQ n lines i) c:=rfl;rw [e3] at e1;rw [e2]
  grind⟩
 refine h.ind g (λk hk => ?_) λc hc => ?_
 .by_cases e:k=i
  .rw [e];exact gi
  .exact hg k λq=>(List.mem_append.1 q).elim hk λq=>e (List.mem_singleton.1 q)
 .have e1:=hz c hc;have e3:cmb n lines (i+1) g c=cmb n lines i g c+g i*at' (liQ n lines i) c:=rfl;rw [e3,gi,Zbj,Zdu] at e1;exact e1
theorem Ds.zjb {n i:Nat} {lines:List (List Int)} {fr:List Nat} {D:List (Nat×List Rat)} {f:List Rat} (h:Ds n lines i fr D) (hf:f.length=i) (hs:∀ k,k∉fr->at' f k=0) (he:∀ c,c<n->at' (liQ n lines i) c=cmb n lines i (at' f) c):Ds n lines (i+1) fr (D++[(i,f)]):=by
 have hni:i∉fr:=λhm=>by have:=h.frl i hm;omega
 refine ⟨λx hx=>Zdz (h.frl x hx),zqf h.ffl hni,zks h.dix hni,λd hd => ?_,λd hd => ?_,λd hd => ?_,λg hg hz => ?_⟩
 .rcases List.mem_append.1 hd with q | q
  .exact h.dlen d q
  .rw [List.mem_singleton.1 q];exact hf
 .rcases List.mem_append.1 hd with q | q
  .exact h.dsup d q
  .rw [List.mem_singleton.1 q];exact hs
 .rcases List.mem_append.1 hd with q | q
  .exact h.deq d q
  .rw [List.mem_singleton.1 q];exact he
 .refine h.ind g hg λc hc => ?_;have e1:=hz c hc;have e3:cmb n lines (i+1) g c=cmb n lines i g c+g i*at' (liQ n lines i) c:=rfl;rw [e3,hg i hni,Zbj,Zdu] at e1;exact e1
def cmbV (O:List (List Rat)) (g:Nat->Rat) (N:Nat):Nat->List Rat
 | 0=>List.replicate N 0
 | b+1=>jT (-(g b)) (cmbV O g N b) (O.getD b [])
theorem mR {N:Nat} {O:List (List Rat)} {g:Nat->Rat} (hO:∀ o∈O,o.length=N):∀ k,k<=O.length->(cmbV O g N k).length=N
 | 0,_=>Zau
 | k+1,hk=>by
  have:=mR (g:=g) hO k (by omega);rw [cmbV,j3 (by rw [this,hO _ (yG (by omega))]),this]
theorem zlc {N:Nat} {O:List (List Rat)} {g:Nat->Rat} (hO:∀ o∈O,o.length=N) (j:Nat):∀ k,k<=O.length->at' (cmbV O g N k) j=sR k λb=>at' (O.getD b []) j*g b
 | 0,_=>xV N j
 | k+1,hk=>by rw [cmbV,jK (by rw [mR hO k (by omega),hO _ (yG (by omega))]),zlc hO j k (by omega),sR];grind
theorem zhu {N:Nat} {O:List (List Rat)} {g:Nat->Rat} {f:List Rat} (hO:∀ o∈O,o.length=N):∀ k,k<=O.length->(∀ b,b<k->dot (O.getD b []) f=0)->dot (cmbV O g N k) f=0
 | 0,_,_=>xL _ _ (xV N)
 | k+1,hk,h=>by
  rw [cmbV,q0 _ _ _ _ (by rw [mR hO k (by omega),hO _ (yG (by omega))]),zhu hO k (by omega) λb hb=>h b (by omega),h k (by omega)];grind
theorem ze9 {fr:List Nat} (hnd:fr.Nodup) {m:Nat} (hl:∀ x∈fr,x<m) (F:Nat->Rat) (hz:∀ k,k∉fr->F k=0):sR fr.length (λa=>F (fr.getD a 0))=sR m F:=by
 have key:∀ (fr:List Nat),fr.Nodup->(∀ x∈fr,x<m)->∀ F:Nat->Rat,(∀ k,k∉fr->F k=0)->sR fr.length (λa=>F (fr.reverse.getD a 0))=sR m F:=by
  intro fr
  induction fr with
  | nil=>intro _ _ F hz;exact (wD λb _=>hz b (by simp)).symm
  | cons x l ih =>
   intro hnd hl F hz;obtain ⟨hx,hnd2⟩:=List.nodup_cons.1 hnd;have e:=ih hnd2 (λy hy=>hl y (Zam _ hy)) (λk=>if k=x then 0 else F k) λk hk=>by
    by_cases q:k=x
    .rw [if_pos q]
    .rw [if_neg q];exact hz k λw=>(List.mem_cons.1 w).elim q hk
   have hxm:=hl x (Zaj ..);have e2:sR m F=sR m (λk=>if k=x then 0 else F k)+F x:=by
    have:sR m F=sR m (λk=>(if k=x then 0 else F k)+(if x=k then 1 else 0)*F k):=jJ λk _=>by
     by_cases q:k=x
     .rw [if_pos q,if_pos q.symm];grind
     .rw [if_neg q,if_neg λw=>q w.symm];grind
    rw [this,zjk,zes,if_pos hxm]
   rw [Zbb,sR,e2,<- e]
   congr 1
   .refine jJ λa ha => ?_;have h1:(x::l).reverse.getD a 0=l.reverse.getD a 0:=by
     rw [Zgz,Zaa,List.getElem?_append_left (by rw [Zbq];exact ha),<- Zaa]
    rw [h1,if_neg];intro q;exact hx (List.mem_reverse.1 (q ▸ yG (by rw [Zbq];exact ha)))
   .rw [Zgz,Zaa,List.getElem?_append_right (by rw [Zbq];exact Zaf _),Zbq,Zcj];rfl
 have:=key fr.reverse ((List.reverse_perm fr).nodup_iff.2 hnd) (λx hx=>hl x (List.mem_reverse.1 hx)) F λk hk=>hz k λq=>hk (List.mem_reverse.2 q);rw [Zew,Zbq] at this;exact this
theorem Dv.ds {n:Nat} {lines:List (List Int)} (hl:lines.length<=12) {fr:List Nat} {P:List (List Rat)} {ps:List Nat} {D:List (Nat×List Rat)} (h:Dv n lines lines.length fr P ps D):Ds n lines lines.length fr D:=by
 refine ⟨h.frl,h.ffl,h.dix,λd hd=>(h.dep d hd).2.1,h.dsup,λd hd=>(h.dep d hd).2.2.2,λg hg hz k => ?_⟩;have hT:=h.tv;have hol:=hT.olen;have hfl:(fr.map (lhQ n lines)).length=fr.length:=Zah ..;have at1:=λj=>zlc (g:=λa=>g (fr.getD a 0)) hT.oG j fr.length (by omega);have hlen:=mR (g:=λa=>g (fr.getD a 0)) hT.oG fr.length (by omega);have low:∀ c,c<n->at' (cmbV (fr.map (lhQ n lines)) (λa=>g (fr.getD a 0)) (n+lines.length) fr.length) c=0:=λc hc=>by
  rw [at1,<- hz c hc];show _=sR lines.length λk=>g k*at' (liQ n lines k) c;rw [<- ze9 h.nd h.frl (λk=>g k*at' (liQ n lines k) c) λk hk=>by rw [hg k hk,Zbj]];refine jJ λa ha => ?_;rw [zbz ha,lhQ,vH (jE ..) hc,Rat.mul_comm]
 have all:∀ j,j<n+lines.length->at' (cmbV (fr.map (lhQ n lines)) (λa=>g (fr.getD a 0)) (n+lines.length) fr.length) j=0:=λj hj=>by
  obtain ⟨x,hxk,_,hO⟩:=hT.sol (k:=P.length) (R:=12) (Bd:=12 ^ 12*100) (Zaf _) hj (by have:=h.cnt;omega) (by decide);have e:=zhu (g:=λa=>g (fr.getD a 0)) hT.oG fr.length (by omega) λb hb=>hO b (by omega);rw [hT.pl (Zaf _) hj _ hlen,wD λb hb=>by rw [low _ (h.pr _ (yG (by rw [hT.len];exact hb))),Zbj],Rat.zero_add] at e;have:=vD hxk
  grind
 by_cases hk:k∈fr
 case neg=>exact hg k hk
 obtain ⟨a,ha⟩:=List.mem_iff_getElem?.1 hk;have hal:=(List.getElem?_eq_some_iff.1 ha).1;have hga:fr.getD a 0=k:=by rw [Zaa,ha];rfl
 have e:=all (n+k) (by have:=h.frl k hk;omega);rw [at1,kP (i:=a) (x:=λb=>g (fr.getD b 0)) λb hb => ?_,if_pos hal,hga] at e
 .exact e
 .rw [zbz hb,lhQ,wN (jE ..),wC];by_cases q:a=b
  .rw [<- q,hga,if_pos ⟨rfl,h.frl k hk⟩,if_pos rfl]
  .rw [if_neg q,if_neg λw=>q ?_];have gb:=gR (l:=fr) (i:=b) (d:=0) hb;rw [w.1,<- ha] at gb;exact ((List.getElem?_inj hb h.nd).1 gb).symm
theorem zjl {fr:List Nat} {F:Nat->Rat} {a:Nat} (h:a<fr.length):at' (fr.map F) a=F (fr.getD a 0):=by
 rw [at',Zaa,List.getElem?_map,gR (d:=0) h];rfl
theorem zxh {M0:List (List Rat)} (h:∀ o∈M0,∀ c,at' o c=0\/at' o c=1):SmP M0:=by
 intro O c hO hl;obtain ⟨x,h1,h2,h3⟩:=zs6 hl (λi j=>if at' (O.getD i []) (c j)=1 then 1 else 0) λi j=>by
  show (if at' (O.getD i []) (c j)=1 then (1:Int) else 0)=0\/_;split
  .exact .inr rfl
  .exact .inl rfl
 refine ⟨x,h1,h2,λo ho => ?_⟩;obtain ⟨i,hi⟩:=List.mem_iff_getElem?.1 ho;have hil:=(List.getElem?_eq_some_iff.1 hi).1;have hio:O.getD i []=o:=by rw [Zaa,hi];rfl
 have e:=h3 i hil;rw [show (0:Rat)=((0:Int):Rat) from rfl,<- e,<- xT];refine jJ λj _ => ?_;rw [Zcg,hio]
 congr 1
 rcases h o (hO o ho) (c j) with q | q
 .rw [q,if_neg (by decide)];rfl
 .rw [q,if_pos rfl];rfl
def sJ (n:Nat) (lines:List (List Int)) (fr:List Nat):List (List Rat):=(List.range n).map λc=>fr.map λk=>at' (liQ n lines k) c
theorem uE (n:Nat) (lines:List (List Int)) (fr:List Nat):(sJ n lines fr).length=n:=by rw [sJ,Zah,Zdx]
theorem zcg {n c:Nat} {lines:List (List Int)} {fr:List Nat} (hc:c<n):(sJ n lines fr)[c]? = some (fr.map λk=>at' (liQ n lines k) c):=by
 rw [sJ,List.getElem?_map,List.getElem?_range hc];rfl
theorem zhv {n:Nat} {lines:List (List Int)} {fr:List Nat}:∀ l∈sJ n lines fr,l.length=fr.length:=λl hl=>by
 obtain ⟨c,_,rfl⟩:=List.mem_map.1 hl;exact Zah ..
abbrev widR (n:Nat) (lines:List (List Int)) (fr:List Nat) (i:Nat):List (List Rat):=oI (sJ n lines fr) (liQ n lines i)
theorem eB {n i:Nat} {lines:List (List Int)} {fr:List Nat} {o:List Rat}:o∈widR n lines fr i↔∃ c,c<n/\o=(fr.map λk=>at' (liQ n lines k) c)++[at' (liQ n lines i) c]:=by
 have hl:(liQ n lines i).length=(sJ n lines fr).length:=by rw [jE,uE]
 constructor
 .intro h;obtain ⟨c,hc⟩:=List.mem_iff_getElem?.1 h;have hcl:=(List.getElem?_eq_some_iff.1 hc).1;rw [zht hl,uE] at hcl;rw [zcf (zcg hcl) (uA (by rw [jE];exact hcl))] at hc;exact ⟨c,hcl,(Option.some.inj hc).symm⟩
 .rintro ⟨c,hc,rfl⟩;exact Zad (zcf (zcg hc) (uA (by rw [jE];exact hc)))
theorem zld {n i:Nat} {lines:List (List Int)} {fr:List Nat}:∀ o∈widR n lines fr i,∀ c,at' o c=0\/at' o c=1:=λo ho c=>by
 obtain ⟨d,_,rfl⟩:=eB.1 ho;by_cases h:c<fr.length
 .rw [vH (n:=fr.length) (Zah ..) h,zjl h];exact zeo ..
 .by_cases h2:c=fr.length
  .rw [h2,show fr.length=fr.length+0 from rfl,wN (n:=fr.length) (Zah ..)];exact zeo ..
  .rw [jN (by simp;omega)];exact .inl rfl
theorem zta {n i:Nat} {lines:List (List Int)} {fr:List Nat}:∀ o∈widR n lines fr i,o.length=fr.length+1/\∀ c,Sg (at' o c):=λo ho=>by
 refine ⟨?_,λc=>(zld o ho c).elim (λe=>.inr (.inl e)) λe=>.inr (.inr e)⟩;obtain ⟨d,_,rfl⟩:=eB.1 ho;simp
theorem zle {n i c:Nat} {lines:List (List Int)} {fr:List Nat} {x:List Rat} (hx:x.length=fr.length):dot ((fr.map λk=>at' (liQ n lines k) c)++[at' (liQ n lines i) c]) (x++[-1])=sR fr.length (λa=>at' (liQ n lines (fr.getD a 0)) c*at' x a)-at' (liQ n lines i) c:=by
 rw [qE _ _ _ _ (by rw [Zah,hx]),zbx _ _ (by rw [Zah,hx]),Zah];have e:sR fr.length (λj=>at' (fr.map λk=>at' (liQ n lines k) c) j*at' x j)=sR fr.length (λa=>at' (liQ n lines (fr.getD a 0)) c*at' x a):=jJ λa ha=>by rw [zjl ha]
 rw [e];show _+(at' (liQ n lines i) c * -1+dot [] [])=_;rw [show dot [] []=0 from rfl];grind
theorem zxi {n i j:Nat} {lines:List (List Int)} {fr:List Nat} {M:List (List Rat)} {P:List Nat} (hg:Gd (fr.length+1) (widR n lines fr i) j M P) (hnd:fr.Nodup) (hfi:∀ x∈fr,x<i) (hK:fr.length∈P):¬ ∃ f:Nat->Rat,(∀ k,k∉fr->f k=0)/\∀ c,c<n->at' (liQ n lines i) c=cmb n lines i f c:=by
 rintro ⟨f,hf,he⟩;obtain ⟨a,ha⟩:=List.mem_iff_getElem?.1 hK;have hal:=(List.getElem?_eq_some_iff.1 ha).1;have hPa:P.getD a 0=fr.length:=by rw [Zaa,ha];rfl
 obtain ⟨O,hol,hom,hker,_⟩:=hg.org;have hyl:(fr.map f++[-1]).length=fr.length+1:=by simp
 have hW:∀ o∈widR n lines fr i,dot o (fr.map f++[-1])=0:=λo ho=>by
  obtain ⟨c,hc,rfl⟩:=eB.1 ho;rw [zle (Zah ..),he c hc];have e:sR fr.length (λa=>at' (liQ n lines (fr.getD a 0)) c*at' (fr.map f) a)=cmb n lines i f c:=by
   show _=sR i λk=>f k*at' (liQ n lines k) c;rw [<- ze9 hnd hfi (λk=>f k*at' (liQ n lines k) c) λk hk=>by rw [hf k hk,Zbj]];exact jJ λa ha=>by rw [zjl ha,Rat.mul_comm]
  rw [e];grind
 have e:=hker _ hyl (λo ho=>hW o (hom o ho)) a hal;have hrl:=hg.row _ (yG (l:=M) (i:=a) (d:=[]) (by have:=hg.pm;omega));rw [zbx _ _ (by rw [hrl,hyl]),hrl,sR,wD λb hb=>by rw [hg.lead a hal b (by rw [hPa];exact hb),Zbj]] at e;have e1:=hg.one a a hal hal;rw [if_pos rfl,hPa] at e1;rw [e1,show fr.length=fr.length+0 from rfl,wN (n:=fr.length) (Zah ..)] at e;have e3:at' ([-1]:List Rat) 0 = -1:=rfl;rw [e3] at e
 grind
theorem zhw {K:Nat} {M:List (List Rat)} {P:List Nat} {j:Nat}:∀ k,(∀ c,c<k->P.getD c 0≠j)->at' (ax K M P k) j=0
 | 0,_=>xV K j
 | k+1,h=>by
  rw [ax,at',Zaa,List.getElem?_set_ne (h k (by omega)),<- Zaa];exact zhw k λc hc=>h c (by omega)
theorem zxj {P:List Nat} (h:P.Pairwise (· < ·)) {a b:Nat} (hab:a<b) (hb:b<P.length):P.getD a 0≠P.getD b 0:=by
 have:=List.pairwise_iff_getElem.1 h a b (by omega) hb hab;rw [Zaa,Zaa,List.getElem?_eq_getElem (show a<P.length by omega),List.getElem?_eq_getElem hb];exact Nat.ne_of_lt this
theorem zhx {K:Nat} {M:List (List Rat)} {P:List Nat} {g:List Rat} (hg:g.length=K) (hP:P.Pairwise (· < ·)) (hr:∀ a,a<P.length->P.getD a 0<K):∀ k,k<=P.length->dot (ax K M P k) g=sR k λc=>at' (M.getD c []) K*at' g (P.getD c 0)
 | 0,_=>xL _ _ (xV K)
 | k+1,hk=>by
  rw [ax,zkg _ _ _ _ (by rw [qO];exact hr k (by omega)) (by rw [qO,hg]),zhx hg hP hr k (by omega),zhw k λc hc=>zxj hP hc (by omega),sR]
  grind
theorem ztb {n i j:Nat} {lines:List (List Int)} {fr:List Nat} {M:List (List Rat)} {P:List Nat} (hg:Gd (fr.length+1) (widR n lines fr i) j M P) (he:j=fr.length+1\/P.length=M.length) (hK:fr.length∉P):∀ c,c<n->at' (liQ n lines i) c=sR fr.length λa=>at' (liQ n lines (fr.getD a 0)) c*at' (ax fr.length M P P.length) a:=by
 intro c hc;have hPr:∀ a,a<P.length->P.getD a 0<fr.length:=λa ha=>by
  have h1:=hg.rng _ (yG (l:=P) (i:=a) (d:=0) ha);have h2:=hg.jw;have h3:P.getD a 0≠fr.length:=λe=>hK (e ▸ yG ha);omega
 have hsl:=qO fr.length M P P.length;have hk:∀ l∈M,dot l (ax fr.length M P P.length++[-1])=0:=λl hl=>by
  obtain ⟨a,ha⟩:=List.mem_iff_getElem?.1 hl;have ham:=(List.getElem?_eq_some_iff.1 ha).1;have hla:M.getD a []=l:=by rw [Zaa,ha];rfl
  have hll:=hg.row l hl;by_cases e:a<P.length
  .have e0:l=l.take fr.length++[at' l fr.length]:=by
    have h1:l[fr.length]? = some (at' l fr.length):=uA (by omega);have h2:l.take (fr.length+1)=l.take fr.length++[at' l fr.length]:=by rw [Zat,h1];rfl
    rw [Zaq (by omega)] at h2;exact h2
   have htl:(l.take fr.length).length=fr.length:=by rw [Zai];omega
   rw [e0,qE _ _ _ _ (by rw [htl,hsl]),dot_comm,zhx htl hg.asc hPr _ (Zaf _),kP (i:=a) (x:=λb=>at' (M.getD b []) fr.length) λb hb => ?_,if_pos e,hla]
   .show at' l fr.length+(at' l fr.length * -1+dot [] [])=0;rw [show dot [] []=0 from rfl];grind
   .rw [mV (hPr b hb),<- hla,hg.one a b e hb,Rat.mul_comm]
  .refine xL _ _ λd => ?_;rcases he with he | he
   .by_cases hd:d<fr.length+1
    .rw [<- hla];exact hg.zer a (by omega) d (by omega)
    .exact jN (by omega)
   .omega
 have e:=hg.full _ (by rw [Zae,hsl];rfl) hk _ (eB.2 ⟨c,hc,rfl⟩);rw [zle hsl] at e
 grind
def sK (i:Nat) (fr:List Nat) (x:List Rat):Nat->List Rat
 | 0=>List.replicate i 0
 | k+1=>(sK i fr x k).set (fr.getD k 0) (at' x k)
theorem mI (i:Nat) (fr:List Nat) (x:List Rat):∀ k,(sK i fr x k).length=i
 | 0=>Zau
 | k+1=>by rw [sK,Zas,mI i fr x k]
theorem zch {i j:Nat} {fr:List Nat} {x:List Rat}:∀ k,(∀ a,a<k->fr.getD a 0≠j)->at' (sK i fr x k) j=0
 | 0,_=>xV i j
 | k+1,h=>by
  rw [sK,at',Zaa,List.getElem?_set_ne (h k (by omega)),<- Zaa];exact zch k λc hc=>h c (by omega)
theorem zlf {i:Nat} {fr:List Nat} {x:List Rat} (hnd:fr.Nodup) (hfi:∀ y∈fr,y<i):∀ k,k<=fr.length->∀ a,a<k->at' (sK i fr x k) (fr.getD a 0)=at' x a
 | 0,_,a,h=>by omega
 | k+1,hk,a,ha=>by
  by_cases e:a=k
  .subst e;rw [sK,at',Zaa,List.getElem?_set_self (by rw [mI];exact hfi _ (yG (by omega)))];rfl
  .have hne:fr.getD k 0≠fr.getD a 0:=λq=>by
    have ga:=gR (l:=fr) (i:=a) (d:=0) (by omega);have gk:=gR (l:=fr) (i:=k) (d:=0) (by omega);rw [q,<- ga] at gk;exact e ((List.getElem?_inj (show k<fr.length by omega) hnd).1 gk).symm
   rw [sK,at',Zaa,List.getElem?_set_ne hne,<- Zaa];exact zlf hnd hfi k (by omega) a (by omega)
theorem Ds.nodup {n i:Nat} {lines:List (List Int)} {fr:List Nat} {D:List (Nat×List Rat)} (h:Ds n lines i fr D):fr.Nodup:=by
 rw [h.ffl];exact (List.nodup_range (n:=i)).sublist List.filter_sublist
theorem Ds.zxk {n i j:Nat} {lines:List (List Int)} {fr:List Nat} {D:List (Nat×List Rat)} {M:List (List Rat)} {P:List Nat} (h:Ds n lines i fr D) (hg:Gd (fr.length+1) (widR n lines fr i) j M P) (he:j=fr.length+1\/P.length=M.length) (hK:fr.length∉P):Ds n lines (i+1) fr (D++[(i,sK i fr (ax fr.length M P P.length) fr.length)]):=by
 refine h.zjb (mI ..) (λk hk=>zch _ λa ha q=>hk (by rw [<- q];exact yG ha)) λc hc => ?_;rw [ztb hg he hK c hc];show _=sR i λk=>at' (sK i fr (ax fr.length M P P.length) fr.length) k*at' (liQ n lines k) c;rw [<- ze9 h.nodup h.frl (λk=>at' (sK i fr (ax fr.length M P P.length) fr.length) k*at' (liQ n lines k) c) λk hk=>by rw [zch _ λa ha q=>hk (by rw [<- q];exact yG ha),Zbj]];refine jJ λa ha => ?_;rw [zlf h.nodup h.frl _ (Zaf _) a ha,Rat.mul_comm]
end Go.Ev
namespace Go.Ev
open Go Go.Proofs
variable {B:Nat}
set_option maxRecDepth 100000
theorem ztc {n:Nat} {l:List Int} (hr:∀ c∈l,0<=c/\c<(n:Int)) (c:Nat):at' (tF n l) c=if (c:Int)∈l then 1 else 0:=by
 have key:∀ k,k<=l.length->at' (tF n (l.take k)) c=if (c:Int)∈l.take k then 1 else 0:=by
  intro k
  induction k with
  | zero=>intro _;rw [Zds,if_neg (by simp)];exact xV n c
  | succ k ih =>
   intro hk;have hx:=List.getElem?_eq_getElem (l:=l) (i:=k) (by omega);have hc:=hr _ (Zav (l:=l) (n:=k) (by omega));rw [Zat,hx,Zdn,bE];by_cases e:l[k].toNat=c
   .have e2:(c:Int)=l[k]:=by omega
    rw [if_pos (Zcr _ (List.mem_singleton.2 e2)),at',Zaa,e,List.getElem?_set_self (by rw [jE];omega)];rfl
   .rw [at',Zaa,List.getElem?_set_ne e,<- Zaa];show at' (tF n (l.take k)) c=_;rw [ih (by omega)];by_cases m:(c:Int)∈l.take k
    .rw [if_pos m,if_pos (Zbw _ m)]
    .rw [if_neg m,if_neg λq=>(List.mem_append.1 q).elim m λq=>e (by have:=List.mem_singleton.1 q;omega)]
 have:=key l.length (Zaf _)
 rwa [Zcx] at this
theorem flat_get {α:Type} {f:α->List AV} {e:Nat} (he:∀ x,(f x).length=e) {l:List α} {k r:Nat} {x:α} (hx:l[k]? = some x) (hr:r<e):(l.flatMap f)[k*e+r]? = (f x)[r]? := by
 have h:=ze4 he hx;rw [<- h,List.getElem?_take_of_lt hr,List.getElem?_drop]
theorem ztd {h0 h:T Blk} {nx:Pa} {L:List Ob} {o:Option Pa} {n k e:Nat} {l l':List AV} (H:Hp h0 h nx L) (hk:L[k]? = some (.gro o e n l)) (hl:l'.length=l.length) (hs:l'.all uo=true) (hf:∀ (i:Nat) (v v':AV),l[i]? = some v->l'[i]? = some v'->sH h0 h v v'):sH h0 h (cu o e n) (.lst e n l'):=by
 have own:=H.own _ (Zad hk);have hoff:=H.off;cases o with
 | none =>
  obtain ⟨rfl,rfl⟩:=own;obtain rfl:l'=[]:=by simpa using hl
  exact .og e
 | some id =>
  obtain ⟨t,h1,h2,h3⟩:=own;refine .sl _ _ _ _ _ true _ t _ (hoff id (List.mem_flatMap.2 ⟨_,Zad hk,by simp [Ob.names]⟩)) trivial h1 (by omega) (by rw [hl];exact h2) hs λi v hi => ?_;have hil:i<l.length:=by rw [<- hl];exact (List.getElem?_eq_some_iff.1 hi).1
  have:=yI t 0 (n*e) i (by rw [<- h2];exact hil);rw [h3,List.getElem?_eq_getElem hil] at this;rw [<- Option.some.inj this];exact hf i _ _ (List.getElem?_eq_getElem hil) hi
abbrev dcF (x:(Nat×List Rat)×Pa):List AV:=[I ((x.1.1:Nat):Int),rv9 x.1.1 x.2]
abbrev dcel (D:List (Nat×List Rat)) (gs:List Pa):List AV:=(List.zip D gs).flatMap dcF
abbrev DL (o3 o4:Option Pa) (D:List (Nat×List Rat)) (gs:List Pa) (fr:List Nat) (T:List Ob):List Ob:=.gro o3 2 D.length (dcel D gs)::.gro o4 1 fr.length (fr.map λp=>I ((p:Nat):Int))::(yS gs (D.map (·.2))++T)
theorem zq3 {h0 h:T Blk} {nx:Pa} {o3 o4:Option Pa} {D:List (Nat×List Rat)} {gs:List Pa} {fr:List Nat} {U:List Ob} (H:Hp h0 h nx (DL o3 o4 D gs fr U)) (hg:gs.length=D.length) (hd:∀ d∈D,d.2.length=d.1):sH h0 h (cu o3 2 D.length) (.lst 2 D.length (D.flatMap tQ)):=by
 have l1:∀ x,(dcF x).length=2:=λ_=>rfl;have l2:∀ d,(tQ d).length=2:=λ_=>rfl;have hz:(List.zip D gs).length=D.length:=by rw [List.length_zip];omega
 refine ztd H (k:=0) rfl (by rw [vW l1,vW l2,hz]) (List.all_eq_true.2 λv hv => ?_) λp v v' h1 h2 => ?_
 .obtain ⟨d,_,hd⟩:=List.mem_flatMap.1 hv;rcases List.mem_cons.1 hd with rfl | hd
  .rfl
  .rw [List.mem_singleton.1 hd];rfl
 .have hp:=(List.getElem?_eq_some_iff.1 h1).1;rw [vW l1,hz] at hp;have ha:p / 2<D.length:=by omega
  obtain ⟨g,hgg⟩:∃ g,gs[p / 2]? = some g:=⟨_,List.getElem?_eq_getElem (by omega)⟩;have hD:D[p / 2]? = some D[p / 2]:=List.getElem?_eq_getElem ha;have hZ:(List.zip D gs)[p / 2]? = some (D[p / 2],g):=List.getElem?_zip_eq_some.2 ⟨hD,hgg⟩;have hdl:=hd _ (Zav ha);rw [show p=p / 2*2+p%2 by omega,flat_get l1 hZ (Zdk _ (by decide))] at h1;rw [show p=p / 2*2+p%2 by omega,flat_get l2 hD (Zdk _ (by decide))] at h2;rcases Nat.mod_two_eq_zero_or_one p with e | e
  .rw [e] at h1 h2;obtain rfl:=Option.some.inj h1;obtain rfl:=Option.some.inj h2;exact .int _ _
  .rw [e] at h1 h2;obtain rfl:=Option.some.inj h1;obtain rfl:=Option.some.inj h2;have hM:(D.map (·.2))[p / 2]? = some D[p / 2].2:=by rw [List.getElem?_map,hD];rfl
   have hob:=xI (b:=U) (uM hgg hM);have hown:=H.own _ (Zam _ (Zam _ (Zad hob)));have hoff:=H.off g (List.mem_flatMap.2 ⟨Ob.arr g (D[p / 2].2.map T9),Zam _ (Zam _ (Zad hob)),by simp [Ob.names]⟩);have:=um.oJ (N:=λid=>T.get .no id h0=.no) (O:=λv=>(∃ id off,v=.ptr id off/\T.get .no id h0≠.no)\/(∃ id,v=.yld id/\T.get .no id h0≠.no)\/(∃ id,v=.map id/\T.get .no id h0≠.no)\/(∃ id off ln cap esz,v=.sl id off ln cap esz/\T.get .no id h0≠.no)) (n:=D[p / 2].1) (e:=1) (cap:=none) hown hoff trivial (by rw [Zah];omega) λv hv=>by obtain ⟨x,_,rfl⟩:=List.mem_map.1 hv;rfl
   rw [Zaq (by rw [Zah];omega)] at this;exact this
theorem zq4 {n:Nat} {lines:List (List Int)} (hn1:1<=n) (hn:n<=256) (hl:lines.length<=12) (hll:∀ l∈lines,l.length<=256) (hasc:∀ l∈lines,AscL n l) (hne:∀ l∈lines,l≠[]):Pure Tryz.prog B 32 [.agg [I (n:Int),xk lines]] (λv=>∃ fr D,Ds n lines lines.length fr D/\v=.lst 2 D.length (D.flatMap tQ)):=by
 have hr:∀ l∈lines,∀ c∈l,0<=c/\c<(n:Int):=λl hlm=>(hasc l hlm).2.2;refine zT λh nx K H0 hK=>zM zQ yA 1000 λhf => ?_;rw [F32.go,F32.t81,zA,F32.zw];refine H0.box (l:=[I (n:Int),xk lines]) rfl λbx h1 nx1 H1 => ?_;have H1:=(H1.zbv 1).zbv 2;rw [zA,F32.zu,zA,F32.jd,zA,zA,F32.pu,zI];refine F32.zyb (λm x3 x4 x5 h' nx'=>∃ (i:Nat) (o3 o4:Option Pa) (fr:List Nat) (D:List (Nat×List Rat)) (gs:List Pa),x3=cu o3 2 D.length/\x4=cu o4 1 fr.length/\x5=I (i:Int)/\m+i=lines.length/\gs.length=D.length/\D.length<=i/\fr.length<=i/\Ds n lines i fr D/\Hp h h' nx' (DL o3 o4 D gs fr [.arr bx [I (n:Int),xk lines]])) (m:=lines.length) (by omega) ⟨0,none,none,[],[],[],rfl,rfl,rfl,rfl,rfl,Zaf _,Zaf _,Ds.nil n lines,H1⟩ ?_;rintro m z3 z4 z5 z6 z7 z8 z9 z10 z11 z12 z13 z14 z15 z16 z17 z18 z19 z20 h3 nx3 R ⟨i,o3,o4,fr,D,gs,rfl,rfl,rfl,hm,hgs,hDi,hfi,hD,H3⟩ hR;obtain ⟨TT,hT⟩:∃ TT:List Ob,TT=[.arr bx [I (n:Int),xk lines]]:=⟨_,rfl⟩;rw [<- hT] at H3;have rl:(yS gs (D.map (·.2))).length=D.length:=by unfold yS;rw [Zcp,Zah];omega
 have tl:∀ (X:List Ob),(X++DL o3 o4 D gs fr TT)[X.length+(D.length+2)]? = some (.arr bx [I (n:Int),xk lines]):=λX=>by
  rw [List.getElem?_append_right (by omega),Zbz];show (yS gs (D.map (·.2))++TT)[D.length]? = _;rw [List.getElem?_append_right (by omega),rl,Zcj,hT];rfl
 have t4:∀ (X:List Ob),(X++DL o3 o4 D gs fr TT)[X.length+1]? = some (.gro o4 1 fr.length (fr.map λp=>I ((p:Nat):Int))):=λX=>by
  rw [List.getElem?_append_right (by omega),Zbz];rfl
 have a1:∀ op:AV->OP,zH (.ptr bx (0+1)) h3 op=op (xk lines):=λop=>H3.load (i:=0+1) (tl []) rfl;rw [F32.t72,zA,zA,F32.fG,sFx,a1,zX,jk,zB,F32.v15];by_cases ci:i<lines.length
 case neg =>
  rw [Zab (by omega),zC,zW,yD,zA,F32.zyc];simp only [zF,zN];rw [F32.ret];obtain rfl:i=lines.length:=by omega
  exact hK _ _ _ _ _ H3 (zq3 H3 hgs hD.dlen) ⟨fr,D,hD,rfl⟩
 have hxi:lines[i]? = some (lines.getD i []):=gR ci;have hmem:=yG (l:=lines) (i:=i) (d:=[]) ci;have hmi:=hll _ hmem;rw [Zac (by omega),zD,zE,zA,zI,zA,F32.fe,H3.zm (n:=2) (tl []) rfl];refine zhs H3 hxi (hr _ hmem) hn1 (by omega) (by omega) λid6 h4 nx4 H4 => ?_;have H4:=H4.af;rw [zA,F32.fE,zA,zA,F32.nP];have free:∀ {h7:Ev.T Blk} {nx7:Pa} {o4':Option Pa} {y6 y7 y8 y9 y10 y11 y12 y13 y14 y15 y16 y17 y18 y19 y20:AV},(¬ ∃ f:Nat->Rat,(∀ k,k∉fr->f k=0)/\∀ c,c<n->at' (liQ n lines i) c=cmb n lines i f c)->Hp h h7 nx7 (.gro o3 2 D.length (dcel D gs)::.gro o4' 1 (fr.length+1) ((fr.map λp=>I ((p:Nat):Int))++[I (i:Int)])::(yS gs (D.map (·.2))++TT))->R (F32.fr (.agg [I (n:Int),xk lines]) (.ptr bx 0) .za (cu o3 2 D.length) (cu o4' 1 (fr.length+1)) (I ((i:Int)+1)) y6 y7 y8 y9 y10 y11 y12 y13 y14 y15 y16 y17 y18 y19 y20) h7 nx7=.ok True:=by
  intro h7 nx7 o4' y6 y7 y8 y9 y10 y11 y12 y13 y14 y15 y16 y17 y18 y19 y20 hn0 H8;refine hR (m-1) _ _ _ _ _ _ _ _ _ _ _ _ _ _ _ _ _ _ _ _ (by omega) ⟨i+1,o3,o4',fr++[i],D,gs,rfl,by rw [Zae];rfl,by congr 1,by omega,hgs,by omega,by rw [Zae,Zbf];omega,hD.zs9 hn0,H8.cast ?_⟩;rw [<- hT];show _=Ob.gro o3 2 D.length (dcel D gs)::Ob.gro o4' 1 (fr++[i]).length ((fr++[i]).map λp=>I ((p:Nat):Int))::_;rw [Zae,Zaz];rfl
 by_cases hK0:fr=[]
 .-- no line is known: the table has empty rows
  subst hK0;rw [zI];refine F32.ztk (λq x7 x8 h' nx'=>∃ (c:Nat) (o7:Option Pa),x7=cu o7 1 c/\x8=I (c:Int)/\q+c=n/\Hp h h' nx' (.gro o7 1 c (List.replicate c .za)::.arr id6 ((liQ n lines i).map T9)::DL o3 o4 D gs [] TT)) (m:=n) (by omega) ⟨0,none,rfl,rfl,rfl,H4.sw 1⟩ ?_;rintro q y7 y8 y9 y10 y16 y17 h5 nx5 R2 ⟨c,o7,rfl,rfl,hq,H5⟩ hR2;have b0:∀ op:AV->OP,zH (.ptr bx (0+0)) h5 op=op (I (n:Int)):=λop=>H5.load (k:=2+(D.length+2)) (i:=0+0) (tl [_,_]) rfl;rw [F32.t32,zA,zA,F32.nX,sFx,b0,jk,zB,F32.v16];by_cases cc:c<n
  .rw [Zac (by omega),zD,zE,zA,zI,zA,F32.nS,zA,zA,F32.nT,zI];refine F32.ztj (λq x9 x10 h' nx'=>x9=.za/\x10=I 0/\h'=h5/\nx'=nx5) (m:=0) (by omega) ⟨rfl,rfl,rfl,rfl⟩ ?_;rintro q2 w9 w10 w17 h6 nx6 R3 ⟨rfl,rfl,rfl,rfl⟩ hR3;rw [F32.t22,zA,zA,F32.tH,H5.eH (k:=2+1) (t4 [_,_]),jk,Zab (by decide),zB,F32.v17,zC,zW,yD,F32.eY];refine H5.aB (v:=.za) (by omega) (by decide) rfl rfl λo' h7 nx7 H7 => ?_;rw [F32.zcp,ug (by omega)];refine hR2 (q-1) _ _ _ _ _ _ _ _ (by omega) ⟨c+1,o',rfl,by congr 1,by omega,?_⟩;rw [Zgh];exact H7
  .rw [Zab (by omega),zC,zW,yD,zA,zA,F32.zjn,H5.eH (k:=2+1) (t4 [_,_]),wm,Zac (by decide),zB,F32.v18,zD,zA,F32.zm8];refine H5.drop.drop.dz (l:=[I (i:Int)]) rfl λtb h6 nx6 H6 => ?_;refine H6.appN (k:=2) (o:=o4) (c:=1) (new:=[I (i:Int)]) rfl (um.rd (l:=[I (i:Int)]) (n:=1) (H6.own _ (Zaj ..)) rfl) rfl rfl (by decide) (by decide) (by show 0+1<=1000000;decide) λo4' h7 nx7 _ H7 => ?_;rw [zW,yD,F32.zm9,ug (by omega)];refine free (λ⟨f,hf0,hfe⟩ => ?_) H7.drop;obtain ⟨x,hx⟩:=List.exists_mem_of_ne_nil _ (hne _ hmem);have hxr:=hr _ hmem x hx;have e:=hfe x.toNat (by omega);have e2:cmb n lines i f x.toNat=0:=wD λb _=>by rw [hf0 b (by simp),Zbj]
   rw [e2,ztc (hr _ hmem),if_pos (by rw [show ((x.toNat:Nat):Int)=x by omega];exact hx)] at e;exact absurd e (by decide)
 .-- some lines are known
  have hK1:1<=fr.length:=List.length_pos_iff.2 hK0;obtain ⟨K',hKe⟩:∃ K',K'=fr.length:=⟨_,rfl⟩;rw [zI];refine F32.ztk (λq x7 x8 h' nx'=>∃ (c:Nat) (o7:Option Pa) (rs:List Pa),x7=cu o7 1 c/\x8=I (c:Int)/\q+c=n/\rs.length=c/\Hp h h' nx' (.gro o7 1 c (rs.map (rv9 fr.length))::(yS rs ((sJ n lines fr).take c)++(.arr id6 ((liQ n lines i).map T9)::DL o3 o4 D gs fr TT)))) (m:=n) (by omega) ⟨0,none,[],rfl,rfl,rfl,rfl,H4.sw 1⟩ ?_;rintro q y7 y8 y9 y10 y16 y17 h5 nx5 R2 ⟨c,o7,rs,rfl,rfl,hq,hrs,H5⟩ hR2;have rlc:c<=n->(yS rs ((sJ n lines fr).take c)).length=c:=λhc=>by unfold yS;rw [Zcp,Zai,uE];omega
  have hcn:c<=n:=by omega
  have tl2:∀ (X:List Ob),(X++(.gro o7 1 c (rs.map (rv9 fr.length))::(yS rs ((sJ n lines fr).take c)++(.arr id6 ((liQ n lines i).map T9)::DL o3 o4 D gs fr TT))))[X.length+(1+c+1+(D.length+2))]? = some (.arr bx [I (n:Int),xk lines]):=λX=>by
   have e:X++(.gro o7 1 c (rs.map (rv9 fr.length))::(yS rs ((sJ n lines fr).take c)++(.arr id6 ((liQ n lines i).map T9)::DL o3 o4 D gs fr TT)))=(X++(.gro o7 1 c (rs.map (rv9 fr.length))::(yS rs ((sJ n lines fr).take c)++[.arr id6 ((liQ n lines i).map T9)])))++DL o3 o4 D gs fr TT:=by simp
   rw [e,<- tl (X++(.gro o7 1 c (rs.map (rv9 fr.length))::(yS rs ((sJ n lines fr).take c)++[.arr id6 ((liQ n lines i).map T9)])))]
   congr 1
   rw [Zae,Zbb,Zae,rlc hcn,Zbf];omega
  have t42:∀ (X:List Ob),(X++(.gro o7 1 c (rs.map (rv9 fr.length))::(yS rs ((sJ n lines fr).take c)++(.arr id6 ((liQ n lines i).map T9)::DL o3 o4 D gs fr TT))))[X.length+(1+c+1+1)]? = some (.gro o4 1 fr.length (fr.map λp=>I ((p:Nat):Int))):=λX=>by
   have e:X++(.gro o7 1 c (rs.map (rv9 fr.length))::(yS rs ((sJ n lines fr).take c)++(.arr id6 ((liQ n lines i).map T9)::DL o3 o4 D gs fr TT)))=(X++(.gro o7 1 c (rs.map (rv9 fr.length))::(yS rs ((sJ n lines fr).take c)++[.arr id6 ((liQ n lines i).map T9)])))++DL o3 o4 D gs fr TT:=by simp
   rw [e,<- t4 (X++(.gro o7 1 c (rs.map (rv9 fr.length))::(yS rs ((sJ n lines fr).take c)++[.arr id6 ((liQ n lines i).map T9)])))]
   congr 1
   rw [Zae,Zbb,Zae,rlc hcn,Zbf];omega
  have b0:∀ op:AV->OP,zH (.ptr bx (0+0)) h5 op=op (I (n:Int)):=λop=>H5.load (i:=0+0) (tl2 []) rfl;rw [F32.t32,zA,zA,F32.nX,sFx,b0,jk,zB,F32.v16];by_cases cc:c<n
  .rw [Zac (by omega),zD,zE,zA,zI,zA,F32.nS,zA,zA,F32.nT,zI];obtain ⟨LL,hLL⟩:∃ LL:List Ob,LL=(.gro o7 1 c (rs.map (rv9 fr.length))::(yS rs ((sJ n lines fr).take c)++(.arr id6 ((liQ n lines i).map T9)::DL o3 o4 D gs fr TT))):=⟨_,rfl⟩;rw [<- hLL] at H5 tl2 t42;refine F32.ztj (λq x9 x10 h' nx'=>∃ (k:Nat) (o9:Option Pa),x9=cu o9 1 k/\x10=I (k:Int)/\q+k=fr.length/\Hp h h' nx' (.gro o9 1 k (((fr.take k).map λy=>at' (liQ n lines y) c).map T9)::LL)) (m:=fr.length) (by omega) ⟨0,none,rfl,rfl,rfl,H5.sw 1⟩ ?_;rintro q2 w9 w10 w17 h6 nx6 R3 ⟨k,o9,rfl,rfl,hq2,H6⟩ hR3;rw [F32.t22,zA,zA,F32.tH,H6.eH (t42 [_]),jk,zB,F32.v17];by_cases ck:k<fr.length
   .have hfk:(fr.map λp=>I ((p:Nat):Int))[k]? = some (I ((fr.getD k 0:Nat):Int)):=by rw [List.getElem?_map,gR (d:=0) ck];rfl
    have hfi2:=hD.frl _ (yG (l:=fr) (i:=k) (d:=0) ck);have hfl:fr.getD k 0<lines.length:=by omega
    have hmf:=yG (l:=lines) (i:=fr.getD k 0) (d:=[]) hfl;have hmf2:=hll _ hmf;obtain ⟨id4,g4,d4⟩:=H6.zt0 (t42 [_]) hfk;rw [Zac (by omega),zD,zE,zA,zI,F32.aT,H6.zm (n:=2) (tl2 [_]) rfl,g4,d4];refine zhs H6 (gR (d:=[]) hfl) (hr _ hmf) hn1 (by omega) (by omega) λidv h7 nx7 H7 => ?_;have hcell:((tF n (lines.getD (fr.getD k 0) [])).map T9)[c]? = some (T9 (at' (liQ n lines (fr.getD k 0)) c)):=by rw [List.getElem?_map,uA (by rw [jE];exact cc)];rfl
    simp only [zG];rw [zla (j:=c) rfl cc,H7.zrw (k:=0) rfl hcell];refine H7.drop.aB (v:=T9 (at' (liQ n lines (fr.getD k 0)) c)) (by omega) (by decide) rfl rfl λo' h8 nx8 H8 => ?_;rw [F32.sQ,ug (by omega)];refine hR3 (q2-1) _ _ _ _ _ (by omega) ⟨k+1,o',rfl,by congr 1,by omega,?_⟩;rw [Zat,gR (d:=0) ck,Zdn,Zaz,Zaz];exact H8
   obtain rfl:k=fr.length:=by omega
   rw [Zaq (Zaf _)] at H6;obtain ⟨id9,rfl⟩:∃ id,o9=some id:=by
    cases o9 with
    | none=>obtain ⟨_,hz⟩:=H6.own _ (Zaj ..);omega
    | some id=>exact ⟨id,rfl⟩
   rw [hLL] at H6;have H7:=H6.af.perm (.swap _ _ _);rw [Zab (by omega),zC,zW,yD,F32.eY];refine H7.aB (v:=rv9 fr.length id9) (by omega) (by decide) rfl rfl λo' h8 nx8 H8 => ?_;rw [F32.zcp,ug (by omega)];refine hR2 (q-1) _ _ _ _ _ _ _ _ (by omega) ⟨c+1,o',rs++[id9],rfl,by congr 1,by omega,by simp [hrs],?_⟩;have ht:(sJ n lines fr).take (c+1)=(sJ n lines fr).take c++[fr.map λy=>at' (liQ n lines y) c]:=by rw [Zat,zcg cc];rfl
   rw [ht,wF (by rw [Zai,uE];omega),Zaz,Zbo];exact H8.perm (List.perm_middle.symm.cons _)
  obtain rfl:c=n:=by omega
  rw [Zaq (by rw [uE];exact Zaf _)] at H5;obtain ⟨tid,rfl⟩:∃ id,o7=some id:=by
   cases o7 with
   | none=>obtain ⟨_,hz⟩:=H5.own _ (Zaj ..);omega
   | some id=>exact ⟨id,rfl⟩
  have hrl:(yS rs (sJ c lines fr)).length=c:=by unfold yS;rw [Zcp,uE];omega
  have hgl:∀ KK:AV->OP,sLen (cu o4 1 fr.length) KK=KK (I (fr.length:Int)):=λKK=>H5.eH (k:=1+(c+1+1)) (by
   rw [Zdc,List.getElem?_cons_succ,List.getElem?_append_right (by omega),hrl,show c+1+1-c=2 by omega];rfl)
  have HP:PM h h5 nx5 tid rs fr.length (.arr id6 ((liQ c lines i).map T9)::DL o3 o4 D gs fr TT) (sJ c lines fr):=⟨by rw [uE];exact hrs,zhv,H5.af⟩;obtain ⟨h6,k6,H6,n1,n2⟩:=HP.zu3;have H7:=H6.zda;have k7:uU (T.set .no .no id6 h6) h6:=pI;have nid:T.get .no id6 (T.set .no .no id6 h6)=.no:=T.get_set_same _ _ _ _;have gone:∀ x,T.get .no x h6=.no->T.get .no x (T.set .no .no id6 h6)=.no:=λx hx=>Classical.byContradiction λe=>e (by rw [<- k7 x e];exact hx);have fz1:=ze1 HP (Zaf _) (gone _ n1) λr hr'=>gone r (n2 r hr');rw [Zcx,uE] at fz1;have hown:=HP.2.2.own (.arr id6 ((liQ c lines i).map T9)) (Zam _ (Zcr _ (Zaj ..)));have hil:((liQ c lines i).map T9).length=c:=by rw [Zah,jE]
  have fz2:=um.oJ (N:=λid=>T.get .no id (T.set .no .no id6 h6)=.no) (O:=λv=>(∃ id off,v=.ptr id off/\T.get .no id (T.set .no .no id6 h6)≠.no)\/(∃ id,v=.yld id/\T.get .no id (T.set .no .no id6 h6)≠.no)\/(∃ id,v=.map id/\T.get .no id (T.set .no .no id6 h6)≠.no)\/(∃ id off ln cap esz,v=.sl id off ln cap esz/\T.get .no id (T.set .no .no id6 h6)≠.no)) (n:=c) (e:=1) (cap:=none) hown nid trivial (by omega) λv hv=>by obtain ⟨x,_,rfl⟩:=List.mem_map.1 hv;rfl
  rw [Zaq (by omega)] at fz2;have keep:uU (T.set .no .no id6 h6) h5:=λj hj=>by
   have e1:=k7 j hj;rw [<- e1] at hj ⊢;exact k6 j hj
  rw [Zab (by omega),zC,zW,yD,zA,zA,F32.zjn,hgl,wm,Zab (by omega),zB,F32.v18,zC,zE,zA,F32.zm2];refine pR keep (.cons fz1 (.cons fz2 .nil)) ?_;have eli:AV.lst 1 c ((liQ c lines i).map T9)=eR (liQ c lines i):=by rw [eR,jE]
  rw [eli];refine zq2 (K:=fr.length) hK1 (by omega) (by rw [uE];exact hn1) (by rw [uE];omega) (by rw [jE,uE]) zhv (zxh zld) zta _ _ _ _ ?_;rintro _ ⟨j,M,P,hg,hM,hje,⟨hKP,rfl⟩ | ⟨hKP,rfl⟩⟩ _
  .rw [jD,jC,zA,zA,F32.zco,jF,Zan,zB,F32.v19,zD,zA,F32.zfk];refine H7.dz (l:=[I (i:Int)]) rfl λtb h8 nx8 H8 => ?_;refine H8.appN (k:=2) (o:=o4) (c:=1) (new:=[I (i:Int)]) rfl (um.rd (l:=[I (i:Int)]) (n:=1) (H8.own _ (Zaj ..)) rfl) rfl rfl (by decide) (by decide) (by omega) λo4' h9 nx9 _ H9 => ?_;rw [zW,yD,F32.zm9,ug (by omega)];exact free (zxi hg hD.nodup hD.frl hKP) H9.drop
  .obtain ⟨x,hx⟩:∃ x,x=ax fr.length M P P.length:=⟨_,rfl⟩;have hxl:x.length=fr.length:=by rw [hx];exact qO ..
   rw [<- hx,jD,jC,zA,zA,F32.zco,jF,Zap,zB,F32.v19,zC,zE,zA,F32.zm3];refine ze6 H7 (by omega) λo8 h8 nx8 H8 => ?_;obtain ⟨ig,rfl⟩:∃ id,o8=some id:=by
    cases o8 with
    | none=>obtain ⟨_,hz⟩:=H8.own _ (Zaj ..);omega
    | some id=>exact ⟨id,rfl⟩
   rw [show cu (some ig) 1 i=.sl ig 0 i none 1 from rfl,zA,zA,F32.zfl,zI];refine F32.zx9 (λq x14 h' nx'=>∃ k:Nat,x14=I (k:Int)/\q+k=fr.length/\nx'=nx8/\Hp h h' nx8 (.gro (some ig) 1 i ((sK i fr x k).map T9)::DL o3 o4 D gs fr TT)) (m:=fr.length) (by omega) ⟨0,rfl,rfl,rfl,H8⟩ ?_;rintro q2 w14 w20 h9 nx9 R3 ⟨k,rfl,hq2,rfl,H9⟩ hR3;rw [F32.t56,zA,zA,F32.zm4,H9.eH (k:=2) rfl,jk,zB,F32.v20];by_cases ck:k<fr.length
   .have hfk:(fr.map λp=>I ((p:Nat):Int))[k]? = some (I ((fr.getD k 0:Nat):Int)):=by rw [List.getElem?_map,gR (d:=0) ck];rfl
    have hfi2:=hD.frl _ (yG (l:=fr) (i:=k) (d:=0) ck);obtain ⟨id4,g4,d4⟩:=H9.zt0 (k:=2) rfl hfk;rw [Zac (by omega),zD,zE,zA,zI,F32.zfm,g4,d4,fF (i:=k) rfl (by omega),ldL (zxe (by omega)),zla (j:=fr.getD k 0) rfl hfi2];refine H9.zbf (k:=0) (i:=fr.getD k 0) rfl (by rw [Zah,mI];exact hfi2) rfl λh10 H10 => ?_;rw [F32.zx8,ug (by omega)];refine hR3 (q2-1) _ _ _ _ (by omega) ⟨k+1,by congr 1,by omega,rfl,?_⟩;rw [sK,Zfm];exact H10
   obtain rfl:k=fr.length:=by omega
   have bd:∀ {z:Int} {a:Pa} {w:Nat} {KK:AV->OP},j6 [(I 0),.za] [(0,1,I z),(1,1,.sl a 0 w none 1)] KK=KK (.agg [I z,.sl a 0 w none 1]):=nr rfl;rw [Zab (by omega),zC,zW,yD,F32.zya,bd];refine H9.dz (l:=[I (i:Int),rv9 i ig]) rfl λtd h10 nx10 H10 => ?_;rw [zce];refine H10.appN (k:=2) (o:=o3) (c:=1) (new:=[I (i:Int),rv9 i ig]) rfl (um.rd (l:=[I (i:Int),rv9 i ig]) (n:=1) (H10.own _ (Zaj ..)) rfl) rfl rfl (by decide) (by decide) (by omega) λo3' h11 nx11 _ H11 => ?_;have H12:Hp h h11 nx11 (.gro (some ig) 1 i ((sK i fr x fr.length).map T9)::.gro o3' 2 (D.length+1) (dcel D gs++[I (i:Int),rv9 i ig])::.gro o4 1 fr.length (fr.map λp=>I ((p:Nat):Int))::(yS gs (D.map (·.2))++TT)):=H11.drop;have H13:=H12.af.perm ((List.Perm.swap _ _ _).trans ((List.Perm.swap _ _ _).trans (List.perm_middle.symm.cons _) |>.cons _));rw [F32.zm9,ug (by omega)];refine hR (m-1) _ _ _ _ _ _ _ _ _ _ _ _ _ _ _ _ _ _ _ _ (by omega) ⟨i+1,o3',o4,fr,D++[(i,sK i fr x fr.length)],gs++[ig],by rw [Zae];rfl,rfl,by congr 1,by omega,by simp [hgs],by rw [Zae,Zbf];omega,by omega,by rw [hx];exact hD.zxk hg (by rw [<- uE c lines fr,<- hM] at *;exact hje) hKP,H13.cast ?_⟩;rw [<- hT];show _=Ob.gro o3' 2 (D++[(i,sK i fr x fr.length)]).length (dcel (D++[(i,sK i fr x fr.length)]) (gs++[ig]))::.gro o4 1 fr.length (fr.map λp=>I ((p:Nat):Int))::(yS (gs++[ig]) ((D++[(i,sK i fr x fr.length)]).map (·.2))++TT);have ez:List.zip (D++[(i,sK i fr x fr.length)]) (gs++[ig])=List.zip D gs++[((i,sK i fr x fr.length),ig)]:=List.zip_append hgs.symm;have e1:dcel (D++[(i,sK i fr x fr.length)]) (gs++[ig])=dcel D gs++[I (i:Int),rv9 i ig]:=by
    show (List.zip (D++[(i,sK i fr x fr.length)]) (gs++[ig])).flatMap dcF=_;rw [ez,Zfa];rfl
   rw [e1,Zaz,Zcw,wF (by rw [Zah];exact hgs)];simp
theorem aQ.sgn {s w:AV} {z:Int} (h:aQ s w z):∃ n,s=I n/\(n<0↔z<0):=by
 rcases h with ⟨rfl,_⟩ | ⟨n,rfl,_,⟨a,rfl⟩ | ⟨a,rfl⟩,_⟩
 .exact ⟨_,rfl,Iff.rfl⟩
 .exact ⟨_,rfl,by constructor <;> intro <;> omega⟩
 .exact ⟨_,rfl,by constructor <;> intro <;> omega⟩
def zu6 (v:AV) (q:Rat):Prop:=∃ s w s' w',v=.agg [s,w,s',w']/\aQ s w q.num/\aQ s' w' (q.den:Int)
theorem aQ.aZ {s w s' w':AV} {a b:Int} (h:aQ s w a) (h':aQ s' w' b):∀ v∈[s,w,s',w'],nu v=true:=by
 intro v hv;rcases List.mem_cons.1 hv with rfl | hv
 .exact h.fix _ (by simp)
 rcases List.mem_cons.1 hv with rfl | hv
 .exact h.fix _ (by simp)
 exact h'.fix _ hv
theorem aQ.build {s w s' w':AV} {a b:Int} (h:aQ s w a) (h':aQ s' w' b) {K:AV->OP}:j6 [(I 0),.za,(I 0),.za] [(0,2,.agg [s,w]),(2,2,.agg [s',w'])] K=K (.agg [s,w,s',w']):=nr rfl
theorem Zs.mono {k m:Nat} {z:Int} (h:Zs k z) (hkm:k<=m):Zs m z:=Zcm h (Zcy (by decide) hkm)
theorem Zs.mul {k m:Nat} {a b:Int} (ha:Zs k a) (hb:Zs m b):Zs (k+m) (a*b):=by
 unfold Zs at *
 rw [Zcc,Zek];exact Zdt ha hb
theorem Zs.add {k:Nat} {a b:Int} (ha:Zs k a) (hb:Zs k b):Zs (k+1) (a+b):=by
 unfold Zs at *
 have h1:=Zdy a b;have h2:18446744073709551616 ^ (k+1)=18446744073709551616 ^ k*18446744073709551616:=Zde ..;omega
theorem zlg {z:Int}:((z:Rat)).num=z/\(((z:Rat)).den:Int)=1:=⟨Zgf z,by rw [Rat.den_intCast];rfl⟩
theorem zq5 {v:AV} {z:Int} (hv:IntV v z):Pure Tryz.prog B 186 [v] (λv=>zu6 v (z:Rat)):=by
 obtain ⟨s,w,rfl,hv⟩:=hv;refine zT λh nx K H0 hK=>zM zQ yA 100 λhf => ?_;rw [fA.go,fA.t3,zA,fA.zw];refine H0.box (l:=[s,w]) rfl λpa h1 nx1 H1 => ?_;refine H1.alloc λp h2 nx2 H2 => ?_;rw [zA,fA.zu,H2.zm (k:=1) (n:=2) rfl rfl];refine of85 (by omega) _ _ _ _ ?_;rintro _ ⟨s',w',rfl,h'⟩ _;rw [H2.zm (k:=1) (n:=2) rfl rfl,zG,hv.build h'];refine H2.jb (l2:=[s,w,s',w']) (k:=0) rfl rfl rfl λh4 H4 => ?_;simp only [zF,zN];rw [fA.ret,H4.zm (k:=0) (n:=4) rfl rfl];exact hK _ _ _ _ _ H4 (uAgg (hv.aZ h')) ⟨_,_,_,_,rfl,by rw [zlg.1];exact hv,by rw [zlg.2];exact h'⟩
theorem f89 {z:Int} (h : -9223372036854775808<=z/\z<=9223372036854775807):Pure Tryz.prog B 96 [I z] (λv=>zu6 v (z:Rat)):=by
 refine zT λhh nx K H0 hK=>zM zQ yA 100 λhf => ?_;rw [F96.go,F96.t3,zA,F96.zw];refine H0.alloc λp h2 nx2 H2 => ?_;rw [zA,F96.zu];refine of85 h _ _ _ _ ?_;intro v hv _;refine zq5 hv _ _ _ _ ?_;rintro _ ⟨s,w,s',w',rfl,i1,i2⟩ _;refine H2.jb (l2:=[s,w,s',w']) (k:=0) rfl rfl rfl λh4 H4 => ?_;simp only [zF,zN];rw [F96.ret,H4.zm (k:=0) (n:=4) rfl rfl];exact hK _ _ _ _ _ H4 (uAgg (i1.aZ i2)) ⟨_,_,_,_,rfl,i1,i2⟩
theorem uGWt (op:KW3->OP) (h:T Blk) (nx:Pa) (k:KW3):sGW (.bool true) true op h nx k=op k:=nr rfl
theorem uGWf (op:KW3->OP) (h:T Blk) (nx:Pa) (k:KW3):sGW (.bool false) true op h nx k=k .u h nx:=nr rfl
def fewB (a b:Int) (cells:Int) (lines:List (List Int)):Bool:=decide ((lines.length:Int)<=b/\∀ l∈lines,(l.length:Int)<=a)&&(decide (jV cells lines=0)&&decide (cells<=a))
theorem qaf {cells:Int} {lines:List (List Int)}:Pure Tryz.prog B 35 [.agg [I cells,xk lines],I 16,I 12] (· = .bool (fewB 16 12 cells lines)):=by
 refine zT λh nx K H0 hK=>zM zQ yA 100 λhf => ?_;rw [F35.go,F35.t3,zA,F35.zw];refine H0.box (l:=[I cells,xk lines]) rfl λbx h1 nx1 H1 => ?_;have ret:∀ {b:Bool},b=fewB 16 12 cells lines->K (.bool b) h1 nx1=.ok True:=λe=>hK _ _ _ _ _ H1 (zV rfl) (by rw [e]);rw [zA,F35.zu,F35.sD,F35.sF,H1.zm (k:=0) (n:=2) rfl rfl];refine zkp (by omega) _ _ _ _ ?_;rintro _ rfl _;rw [F35.tO,F35.rU];by_cases c1:(lines.length:Int)<=12/\∀ l∈lines,(l.length:Int)<=16
 case neg =>
  rw [Zab c1];simp only [jH,zgl,uGWf];rw [F35.r1_2,F35.zdq];simp only [jH,zgl,zZ];rw [F35.r1_3,F35.oP];simp only [zF,zN];rw [F35.ret];exact ret (by rw [fewB,Zab c1];rfl)
 rw [Zac c1];simp only [yO,uGWt];rw [H1.zm (k:=0) (n:=2) rfl rfl];refine pV (λq hq=>by have:=c1.2 q hq;omega) _ _ _ _ ?_;rintro _ rfl _;rw [F35.r1_2,F35.zdq];simp only [yO,zY];rw [wm];by_cases c2:jV cells lines=0
 case neg =>
  rw [Zab c2];simp only [jH,zgl,zZ];rw [F35.r1_3,F35.oP];simp only [zF,zN];rw [F35.ret];exact ret (by rw [fewB,Zac c1,Zab c2];rfl)
 rw [Zac c2];simp only [yO,zY];rw [sFx,H1.load (k:=0) (i:=0+0) rfl rfl,nV];rw [F35.r1_3,F35.oP];simp only [zF,zN];rw [F35.ret];exact ret (by rw [fewB,Zac c1,Zac c2];rfl)
theorem bW {cells:Int} {lines:List (List Int)} (hw:∀ q∈lines,q.length<=1000000) (he:jV cells lines≠0):Pure Tryz.prog B 31 [.agg [I cells,xk lines]] (· = .tup [.lst 2 0 [],I (jV cells lines)]):=by
 refine zT λh nx K H0 hK=>zM zQ yA 1000 λhf => ?_;rw [F31.go,F31.t77,zA,F31.zw];refine H0.box (l:=[I cells,xk lines]) rfl λb1 h1 nx1 H1 => ?_;rw [zA,zA,F31.zu,H1.zm (k:=0) (n:=2) rfl rfl];refine zuv hw _ _ _ _ ?_;rintro _ rfl _;rw [zA,F31.jd,bq,Zab he,Zan,zB,F31.v17,zD,zA,F31.pu];simp only [zF,zN];rw [F31.ret];exact hK _ _ _ _ _ H1 (gD (.og 2) (.int _ _)) rfl
def bC (cells:Int) (lines:List (List Int)):Bool:=decide ((lines.length:Int)<=130/\∀ l∈lines,(l.length:Int)<=40)&&(!decide (jV cells lines=0)||fewB 16 12 cells lines)
theorem zte {cells:Int} {lines:List (List Int)}:Pure Tryz.prog B 22 [.agg [I cells,xk lines]] (· = .bool (bC cells lines)):=by
 refine zT λh nx K H0 hK=>zM zQ yA 100 λhf => ?_;rw [F22.go,F22.t9,zA,F22.zw];refine H0.box (l:=[I cells,xk lines]) rfl λbx h1 nx1 H1 => ?_;rw [zA,zA,F22.zu,H1.zm (k:=0) (n:=2) rfl rfl];refine zkp (by omega) _ _ _ _ ?_;rintro _ rfl _;rw [jF,zB,F22.v3];by_cases c1:(lines.length:Int)<=130/\∀ l∈lines,(l.length:Int)<=40
 case neg =>
  rw [Zab c1,Zan,zD,zA,F22.jd];simp only [zF,zN];rw [F22.ret];exact hK _ _ _ _ _ H1 (.bool _) (by rw [bC,Zab c1];rfl)
 rw [Zac c1,Zap,zC,zE,zA,F22.ku,H1.zm (k:=0) (n:=2) rfl rfl];refine pV (λq hq=>by have:=c1.2 q hq;omega) _ _ _ _ ?_;rintro _ rfl _;rw [bq];by_cases c2:jV cells lines=0
 .rw [Zac c2,Zap];simp only [jB,ze0];rw [H1.zm (k:=0) (n:=2) rfl rfl];refine qaf _ _ _ _ ?_;rintro _ rfl _;rw [zZ];simp only [zF,zN];rw [F22.ret];exact hK _ _ _ _ _ H1 (.bool _) (by rw [bC,Zac c1,Zac c2];rfl)
 .have w1:∀ (op:KW3->OP) (h:Ev.T Blk) (nx:Pa) (k:KW3),sGW (.bool true) false op h nx k=k .u h nx:=λ_ _ _ _=>nr rfl;have w2:∀ (op:(AV->OP)->OP) (k:AV->OP),sG (.bool true) false op k=k .u:=λ_ _=>nr rfl;rw [Zab c2,Zan];simp only [w2,w1,zY];simp only [zF,zN];rw [F22.ret];exact hK _ _ _ _ _ H1 (.bool _) (by rw [bC,Zac c1,Zab c2];rfl)
theorem law5 {cells:Int} {lines:List (List Int)} (haw:∀ {B},Pure Tryz.prog B 17 [] (· = .bool true)):Pure Tryz.prog B 5 [.agg [I cells,xk lines]] (· = .bool true):=by
 refine zT λh nx K H0 hK=>zM zQ yA 2000 λhf => ?_;have awk:∀ (h:Ev.T Blk) (nx:Pa) (Z:Kw Prop),Z (.bool true) h nx=.ok True->(CS Tryz.prog B).fn 17 (.of 17) [] h nx Z=.ok True:=λh nx Z hZ=>haw _ _ _ _ λv hv _=>by rw [hv];exact hZ
 have ret:∀ {h1 nx1 L},Hp h h1 nx1 L->K (.bool true) h1 nx1=.ok True:=λH=>hK _ _ _ _ _ H (zV rfl) rfl;rw [F5.go,F5.t46,zA,F5.zw];refine H0.box (l:=[I cells,xk lines]) rfl λbx h1 nx1 H1 => ?_;have lN:∀ op:AV->OP,zJ 2 (.ptr bx 0) h1 op=op (.agg [I cells,xk lines]):=λop=>H1.zm (k:=0) (n:=2) rfl rfl;rw [zA,zA,F5.zu,lN];refine zte _ _ _ _ ?_;rintro _ rfl _;rw [jF,zB,F5.v8];cases cL:bC cells lines with
 | false =>
  rw [Zan,zD,zA,F5.jd];refine awk _ _ _ ?_;simp only [zF,zN];rw [F5.ret];exact ret H1
 | true =>
 simp only [bC,Zal,Zdi,decide_eq_true_eq,Bool.not_eq_true',decide_eq_false_iff_not] at cL;obtain ⟨⟨_,hw40⟩,hL⟩:=cL;have hw:∀ q∈lines,q.length<=1000000:=λq hq=>by have:=hw40 q hq;omega
 rw [Zap,zC,zE,zA,F5.ku,lN];by_cases he:jV cells lines=0
 case neg =>
  refine bW hw he _ _ _ _ ?_;rintro _ rfl _;rw [jD,jC,zA,F5.fe,lN];refine pV hw _ _ _ _ ?_;rintro _ rfl _;rw [zA,zA,F5.fE,bq,Zab he,Zan,zB,F5.v9,zD,zA,F5.nP,F5.om,F5.eD,zX,wm,Zac (by rfl)];simp only [yO];rw [wm,Zac rfl,zY,F5.r6_1,F5.tV];simp only [zi6];refine awk _ _ _ ?_;rw [F5.r6_2,F5.zdp,zY];simp only [zF,zN];rw [F5.ret];exact ret H1
 have cF:fewB 16 12 cells lines=true:=hL.resolve_left λq=>q he;simp only [fewB,Zal,decide_eq_true_eq] at cF;obtain ⟨⟨hl,hll⟩,_,hc16⟩:=cF;have hl:lines.length<=12:=by omega
 have hll:∀ l∈lines,l.length<=16:=λl hm=>by have:=hll l hm;omega
 obtain ⟨n,rfl,hn1,_,_,hasc⟩:=zqd he;have hn:n<=16:=by omega
 have hll2:∀ l∈lines,l.length<=256:=λl hm=>by have:=hll l hm;omega
 refine zhr (by omega) hl hll2 he _ _ _ _ ?_;rintro _ ⟨D,⟨fr,P,ps,hD⟩,rfl⟩ _;have hDl:D.length<=lines.length:=by rw [<- hD.cnt];exact Nat.le_add_left _ _
 rw [jD,jC,zA,F5.fe,lN];refine pV hw _ _ _ _ ?_;rintro _ rfl _;rw [zA,zA,F5.fE,he,bq,Zac rfl,Zap,zB,F5.v9,zC,zE,zA,F5.nS,lN];refine zq4 hn1 (by omega) hl hll2 hasc (λl hm e=>by have:=(hasc l hm).1;rw [e] at this;simp at this) _ _ _ _ ?_;rintro _ ⟨fr2,D2,hD2,rfl⟩ _;obtain ⟨_,rfl⟩:=(hD.ds hl).unique hD2;rw [zA,zA,F5.nT,F5.r8_0,F5.zhy,bq,Zac rfl,Zap];simp only [jB];rw [zX,zX,bq,Zac rfl,Zap,F5.r8_1,F5.zhz,zZ,zB,F5.v10,zC,zE,zA,zA,F5.rH,zX,zI];have ld2:∀ d,(tQ d).length=2:=λ_=>rfl;refine F5.zyd (λk x12 h' nx'=>∃ a:Nat,x12=I (a:Int)/\k+a=D.length/\h'=h1/\nx'=nx1) (m:=D.length) (by omega) ⟨0,rfl,rfl,rfl,rfl⟩ ?_;rintro k z2 z7 z12 z13 z14 h3 nx3 R ⟨a,rfl,hk,rfl,rfl⟩ hR;rw [F5.t33,zA,F5.sQ,jk,zA,zB,F5.v13];by_cases ca:a<D.length
 case neg =>
  rw [Zab (by omega),zC,zW,yD,zA,F5.zm8];refine awk _ _ _ ?_;simp only [zF,zN];rw [F5.ret];exact ret H1
 have hx:=List.getElem?_eq_getElem ca;obtain ⟨d,hde⟩:∃ d,d=D[a]:=⟨_,rfl⟩;rw [<- hde] at hx;obtain ⟨dl,hd2,_,_⟩:=hD.dep d (Zad hx);have heR:tQ d=[I ((d.1:Nat):Int),gS d.2]:=by rw [tQ,gS,hd2]
 have fx:∀ (p:Nat) (l:List AV) (op:AV->OP),zL p (.fp l) op=op (.fp (l.drop p)):=λ_ _ _=>rfl;have cell:∀ (p:Nat) (v:AV),p<2->(tQ d)[p]? = some v->∀ (hh:Ev.T Blk) (op:AV->OP),zH (.fp (((D.flatMap tQ).drop (a*2)).drop p)) hh op=op v:=λp v hp hv hh op=>by
  rw [Zeo];exact za8 (by rw [flat_get ld2 hx hp];exact hv)
 have c0:=cell 0 (I ((d.1:Nat):Int)) (by decide) (by rw [heR];rfl);have c1:=cell 1 (gS d.2) (by decide) (by rw [heR];rfl);have ix:∀ op:AV->OP,zK 2 (.lst 2 D.length (D.flatMap tQ)) (I (a:Int)) op=op (.fp ((D.flatMap tQ).drop (a*2))):=λop=>fF rfl ca;rw [Zac (by omega),zD,zE,zA,zI,zA,F5.rW,zA,F5.zff,F5.zna,F5.zq8,ix,fx,c0,ix,F5.zt5,F5.zq9,fx,c0,bq,Zac rfl,Zap];simp only [jB];rw [ix,fx,F5.zt4,F5.zra];simp only [jB,ze0];rw [c1,ix,fx,c1];refine zjd (by omega) _ _ _ _ ?_;rintro _ rfl _;rw [F5.zt3,F5.zrb];simp only [jB];rw [decide_true,jF,Zap,zZ,zB,F5.v14,zC,zE,F5.zcp,ug (by omega)];exact hR (k-1) _ _ _ _ _ _ _ (by omega) ⟨a+1,by congr 1,by omega,rfl,rfl⟩
end Go.Ev
