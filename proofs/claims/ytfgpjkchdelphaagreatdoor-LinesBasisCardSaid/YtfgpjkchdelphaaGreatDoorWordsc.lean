import Derived.Test.YtfgpjkchdelphaaGreatDoorWordsb
import Derived.Test.YtfgpjkchdelphaaGreatDoorCodeb
import Derived.Test.YtfgpjkchdelphaaGreatDoorEvD
import Derived.IntWalk
import Derived.Test.YtfgpjkchdelphaaGreatDoorWordsa
import Derived.Test.YtfgpjkchdelphaaGreatDoorCodea
set_option linter.unusedSimpArgs false
set_option linter.unusedVariables false
namespace Go.Ev
open Go Go.Proofs
theorem zum {b:List Rat} {p:Nat} {x:Rat}:at' (b.set p x) p=x\/at' (b.set p x) p=at' b p:=by
 by_cases h:p<b.length
 .left;rw [at',Zaa,Zhc h];rfl
 .right;rw [jV (by rw [Zan];omega),jV (by omega)]
theorem bA (c j:Nat) {P:Rat->Prop}:∀ (l:List (List Rat×Nat)) (b:List Rat),(∀ x∈l,x.2=j->P (-at' x.1 c))->P (at' b j)->P (at' (eZ c l b) j)
 | [],b,_,h=>h
 |(q,p)::l,b,hl,h=>by
  refine bA c j l _ (λx hx=>hl x (Zap _ hx)) ?_;by_cases e:p=j
  .subst e;rcases zum (b:=b) (p:=p) (x := -at' q c) with e2 | e2 <;> rw [e2]
   .exact hl (q,p) (Zaj ..) rfl
   .exact h
  .rw [zjk e];exact h
theorem zr0 {n c:Nat} (h:c<n):at' (uD n c) c=1:=by
 unfold uD;rw [at',Zaa,Zhc (by rw [Zav];exact h)];rfl
theorem zd0 {n c:Nat} {O Q:List (List Rat)} {ps:List Nat} (hS:Sv n O Q ps) (hc:c<n) (hcp:c∉ps):at' (aN n Q ps c) c=1/\∀ b,b<c->at' (aN n Q ps c) b=0:=by
 have hz:∀ x∈oW Q ps,∃ a,a<Q.length/\x.1=Q.getD a []/\x.2=ps.getD a 0:=λx hx=>by
  obtain ⟨a,ha⟩:=Zau.1 hx;obtain ⟨h1,h2⟩:=List.getElem?_zip_eq_some.1 ha;have hl:=(Zgw.1 h1).1;exact ⟨a,hl,by rw [Zaa,h1];rfl,by rw [Zaa,h2];rfl⟩
 unfold aN;refine ⟨bA (P:=(· = 1)) c c _ _ (λx hx e => ?_) (zr0 hc),λb hb=>bA (P:=(· = 0)) c b _ _ (λx hx e => ?_) (ze9 (by omega))⟩
 .exact absurd (e ▸ (Zej hx).2) hcp
 .obtain ⟨a,ha,e1,e2⟩:=hz x hx;show -at' x.1 c=0;rw [e1,hS.tri a ha c (by rw [<- e2,e];exact hb)];grind
theorem zr1 {n c b:Nat} {O Q:List (List Rat)} {ps:List Nat} (hS:Sv n O Q ps) (hb:b∉ps) (hne:b≠c):at' (aN n Q ps c) b=0:=by
 unfold aN;exact bA (P:=(· = 0)) c b _ _ (λx hx e=>absurd (e ▸ (Zej hx).2) hb) (ze9 hne)
theorem zhz:∀ (r f:List Rat) (p:Nat),(∀ j,j≠p->at' r j*at' f j=0)->r.length=f.length->dot r f=at' r p*at' f p
 | [],[],p,_,_=>by rw [jV (q:=[]) (by simp)];show (0:Rat)=_;grind
 | x::r,y::f,0,h,hl=>by
  have hz:dot r f=0:=by
   have hall:∀ j,at' r j*at' f j=0:=λj=>h (j+1) (by omega);have:∀ (r f:List Rat),(∀ j,at' r j*at' f j=0)->dot r f=0:=by
    intro r
    induction r with
    | nil=>intro f _;cases f <;> rfl
    | cons a r ih =>
     intro f hf;cases f with
     | nil=>rfl
     | cons b f =>
      have h0:a*b=0:=hf 0;rw [dot,h0,ih f λj=>hf (j+1)];grind
   exact this r f hall
  rw [dot,hz];show x*y+0=x*y;grind
 | x::r,y::f,p+1,h,hl=>by
  have h0:x*y=0:=h 0 (by omega);rw [dot,zhz r f p (λj hj=>h (j+1) (by omega)) (by simpa using hl),h0];show 0+at' r p*at' f p=at' r p*at' f p
  grind
 | [],_::_,_,_,hl=>by simp at hl
 | _::_,[],_,_,hl=>by simp at hl
theorem qcd {n:Nat} {O Q:List (List Rat)} {ps:List Nat} {f:List Rat} (hS:Sv n O Q ps) (hf:f.length=n) (hk:∀ q∈Q,dot q f=0) (h0:∀ c,c<n->c∉ps->at' f c=0):∀ j,at' f j=0:=λj=>by
 by_cases hj:j<n
 .by_cases hp:j∈ps
  .obtain ⟨a,ha,hx⟩:=List.getElem_of_mem hp;have ha':a<Q.length:=by have:=hS.len;omega
   have ea:ps.getD a 0=j:=by rw [Zaa,Zgv ha];exact hx
   have hm:=yF (l:=Q) (d:=[]) ha';have h1:=zhz (Q.getD a []) f j (λb hb => ?_) (by rw [hS.row _ hm,hf])
   .rw [hk _ hm,<- ea,hS.one a a ha' ha',if_pos rfl,Rat.one_mul,ea] at h1;exact h1.symm
   .by_cases hbn:b<n
    .by_cases hbp:b∈ps
     .obtain ⟨d,hd,hy⟩:=List.getElem_of_mem hbp;have hd':d<Q.length:=by have:=hS.len;omega
      have ed:ps.getD d 0=b:=by rw [Zaa,Zgv hd];exact hy
      have h2:=hS.one a d ha' hd';rw [ed,if_neg (λe=>hb (by rw [<- ed,<- ea,e]))] at h2;rw [h2,Zbz]
     .rw [h0 b hbn hbp,Zbm]
    .rw [jV (q:=f) (by omega),Zbm]
  .exact h0 j hj hp
 .exact jV (by omega)
end Go.Ev
namespace Go.Ev
open Go Go.Proofs
variable {B:Nat}
set_option maxRecDepth 100000
theorem zun:T9 0=.str [48]:=by rw [T9,aQ.2 rfl]
abbrev eR (f:List Rat):AV:=.lst 1 f.length (f.map T9)
theorem Dn.add {t M N:Nat} {p q:Rat} (hp:Dn t M p) (hq:Dn t N q):Dn t (M+N) (p+q):=by
 obtain ⟨z,e,hz⟩:=hp;obtain ⟨w,f,hw⟩:=hq;refine ⟨z+w,by rw [Zgc];grind,?_⟩;have:=Zfp z w;omega
theorem Dn.sml {t M:Nat} {q:Rat} (ht:1<=t) (htM:t<=M) (hM:M<9223372036854775808) (h:Dn t M q):Sml q:=by
 obtain ⟨z,e,hz⟩:=h;have h0:((t:Int):Rat)≠0:=dH (by omega);have eq:q=Rat.divInt z (t:Int):=by rw [Zgr];grind
 obtain ⟨d1,d2⟩:=kM (n:=z) (d:=(t:Int)) (by omega);have a1:q.num.natAbs<=z.natAbs:=by
  rw [eq,d1,Zel (Zev ..)];exact Zcl _ _
 have a2:(q.den:Int).natAbs<=t:=by
  rw [eq,d2,Zel (Zfq ..)];exact Zcl _ _
 rw [Zbo] at a2;exact ⟨by omega,by omega⟩
theorem zuo {n:Nat} {O Q:List (List Rat)} {ps:List Nat} (hS:Sv n O Q ps) (hQ:Q.length<=11) (c:Nat):∀ x∈aN n Q ps c,Sml x:=by
 obtain ⟨t,h1,h2,h3⟩:=zrn hS hQ c;refine vZ λj=>(h3 j).sml h1 h2 (by decide)
abbrev basL (n:Nat) (Q:List (List Rat)) (ps:List Nat):List (List Rat):=(frQ n ps).map (aN n Q ps)
theorem zup {n:Nat} {lines:List (List Int)} (hn:n<=256) (hl:lines.length<=12) (hll:∀ l∈lines,l.length<=256) (he:jA (n:Int) lines=0):Pure Tryz.prog B 23 [.agg [I (n:Int),uf lines]] (λv=>∃ Q ps,zdu n lines Q ps/\v=.tup [.lst 1 (frQ n ps).length (zdz n (basL n Q ps)),I 0]):=by
 obtain ⟨n',hn',_,_,_,hasc⟩:=zfd he;have en:n'=n:=by omega
 rw [en] at hasc;have hr:∀ l∈lines,∀ c∈l,0<=c/\c<(n:Int):=λl hlm=>(hasc l hlm).2.2;refine zT λh nx K H0 hK=>zL zN yC 1000 λhf => ?_;rw [F23.go,F23.t11,zA,F23.zu];refine H0.box (l:=[I (n:Int),uf lines]) rfl λb1 h1 nx1 H1 => ?_;rw [zA,zA,F23.zo,H1.zm (k:=0) (n:=2) rfl rfl];refine zrm (λq hq=>by have:=hll q hq;omega) _ _ _ _ ?_;rintro _ rfl _;rw [he,zA,F23.yw,fB,Zac rfl,Zao,zB,F23.v5,zD,zE,zA,F23.fU,H1.zm (k:=0) (n:=2) rfl rfl];refine zdv hn (by omega) hll hr _ _ _ _ ?_;rintro _ ⟨Q,ps,⟨⟨O,hS⟩,hQ,hdot,hcv⟩,cb,hcl,hcr,rfl⟩ _;have hfl:(basL n Q ps).length=(frQ n ps).length:=Zah ..;rw [jR];refine zui hcl hcr (λb hb => ?_) (by omega) (by rw [hfl];exact Zax (vC n ps) (by omega)) (λb hb => ?_) _ _ _ _ ?_
 .obtain ⟨c,_,rfl⟩:=Zar.1 hb;exact dL ..
 .obtain ⟨c,_,rfl⟩:=Zar.1 hb;exact zuo hS (by omega) c
 rintro _ rfl _;rw [jB,jE];simp only [zF,zO];rw [F23.ret];refine hK _ _ _ _ _ H1 (j4 (zS (qE λv hv => ?_)) (zS rfl)) ⟨Q,ps,⟨⟨O,hS⟩,hQ,hdot,hcv⟩,by rw [hfl]⟩;obtain ⟨x,_,rfl⟩:=Zar.1 hv;exact qE λv hv=>by obtain ⟨x,_,rfl⟩:=Zar.1 hv;rfl
theorem zfh {M N:Nat} {a b:Rat} (ha:xg M a) (hb:xg N b):xg (M*N) (a*b):=by
 have key:∀ {M:Nat} {a:Rat},xg M a->Dn a.den M a:=λ{M a} h=>⟨a.num,by
  have e:=wA a;rw [Zgr] at e;have:=dH (kB a)
  grind,h.1⟩
 exact ((key ha).mul (key hb)).nm (Nat.mul_pos a.den_pos b.den_pos) (Zbl ha.2 hb.2)
theorem xg.qd {M:Nat} {q:Rat} (h:xg M q) (hM:M<1000000000):Qd q:=⟨Zdb h.1 hM,Zdb h.2 hM⟩
theorem Gd.szP {w j i:Nat} {M0 M:List (List Rat)} {P:List Nat} {li lr:List Rat} (h:Gd w M0 j M P) (hS:SmP M0) (hsg:∀ o∈M0,o.length=w/\∀ c,Sg (at' o c)) (hj:j<w) (hi:P.length<=i) (hli:M[i]? = some li) (hlr:M[P.length]? = some lr) (hv:li.getD j 0≠0) (hb:w<=12\/M.length<=11):zrx j i li lr M P.length:=by
 have him:=(Zgw.1 hli).1;have hkm:=(Zgw.1 hlr).1;have hpl:=h.pl;have hP:P.length<=11:=by omega
 have gi:M.getD i []=li:=by rw [Zaa,hli];rfl
 have hsz:=h.sz hS hsg hP;have hlil:=h.row _ (Zad hli);have oI:∀ l∈M,xg (12*ZB) (l.getD j 0):=λl hl=>hsz l hl _ (Zad (uE (by rw [h.row l hl];exact hj)));have hvi:xg (12*ZB) (li.getD j 0)⁻¹:=(oI li (Zad hli)).inv;have hrow:∀ q∈li.map (· * (li.getD j 0)⁻¹),xg ZB q:=λq hq=>by
  have hq':q∈yU (at' li j)⁻¹ li:=hq;obtain ⟨c,hc,rfl⟩:=dM hq';rw [u9,hlil] at hc;by_cases hk:P.length+1<=11
  .obtain ⟨t,t1,t2,t3,_⟩:=(h.piv hj hi hli hlr hv).col hS hsg (by rw [Zae,Zbq];exact hk) c;have:=t3 P.length (by rw [Zae,Zbq];omega);rw [xH hkm,if_pos rfl] at this;exact this.nm t1 t2
  .rcases Nat.lt_trichotomy c j with e | e | e
   .rw [kE,<- gi,h.zer i hi c e,Zbz];exact (Dn.zero 1 ZB).nm (Zaf _) (by decide)
   .have:at' (yU (at' li j)⁻¹ li) c=1:=by rw [e,kE];have hv':at' li j≠0:=hv;grind
    rw [this];exact (Sg.q1 (.inr (.inr rfl))).mono (by decide)
   .omega
 refine ⟨hvi.qd (by decide),λq hq=>(hrow q hq).qd (by decide),λl hl q hq => ?_⟩;have hlj:xg (12*ZB) (l.getD j 0):=by
  rcases Zbc hl with e | e
  .rcases Zbc e with e | e
   .rcases Zbc e with e | e
    .exact oI l e
    .rw [e];exact oI _ (Zad hlr)
   .rw [e];exact oI _ (Zad hli)
  .rw [e];exact (hrow _ (Zad (uE (q:=li.map (· * (li.getD j 0)⁻¹)) (j:=j) (by rw [Zah,hlil];exact hj)))).mono (by decide)
 exact (zfh hlj (hrow q hq)).qd (by decide)
theorem zuq {M0:List (List Rat)} {w:Nat} (hS:SmP M0) (hsg:∀ o∈M0,o.length=w/\∀ c,Sg (at' o c)) (hw1:1<=w) (hw:w<=1000) (hM1:1<=M0.length) (hM:M0.length<=1000) (hb:w<=12\/M0.length<=11):Pure Tryz.prog B 190 [jK M0] (λv=>∃ j M P,Gd w M0 j M P/\M.length=M0.length/\(j=w\/P.length=M.length)/\v=.tup [jK (M.take P.length),.lst 1 P.length (P.map D)]):=λp h nx K hK=>by
 refine bN (λj M P=>Gd w M0 j M P) hw1 hw hM1 hM (λl hl=>(hsg l hl).1) (Gd.start λl hl=>(hsg l hl).1) (λj M P hg cj cP hm l hl q hq => ?_) (λj M P hg cj _ _ hz=>hg.skip cj hz) (λj M P i li lr hg cj cP hi hm hli hlr hv=>⟨hg.piv cj hi hli hlr hv,hg.szP hS hsg cj hi hli hlr hv (by omega)⟩) p h nx K ?_
 .have:=hg.pl;exact (hg.sz hS hsg (by omega) l hl q hq).qd (by decide)
 .rintro v ⟨j,M,P,hg,hm,_,he,rfl⟩ hf;exact hK _ ⟨j,M,P,hg,hm,he,rfl⟩ hf
theorem zli {h0 h:T Blk} {nx p:Pa} {L:List Ob} {n:Nat} {K:Kw Prop} (H:Hp h0 h nx L) (hn:n<=1000) (hK:∀ o h' nx',Hp h0 h' nx' (.gro o 1 n ((List.replicate n (0:Rat)).map T9)::L)->K (uw o 1 n) h' nx'=.ok True):(CS Tryz.prog B).fn 36 p [I (n:Int)] h nx K=.ok True:=by
 refine zL zN yC 2000 λhf => ?_;rw [F36.go,F36.t18,zA,F36.zu,zA,F36.zo,zA,zA,F36.yw,zI];refine F36.zac (λm x2 x3 h' nx'=>∃ (i:Nat) (o:Option Pa),x2=uw o 1 i/\x3=I (i:Int)/\m+i=n/\Hp h0 h' nx' (.gro o 1 i ((List.replicate i (0:Rat)).map T9)::L)) (m:=n) (by omega) ⟨0,none,rfl,rfl,rfl,H.ax 1⟩ ?_;rintro m z2 z3 z4 h3 nx3 R ⟨i,o,rfl,rfl,hm,H3⟩ hR;rw [F36.t10,zA,zA,F36.vk,jf,zB,F36.v4];by_cases ci:i<n
 .rw [Zac (by omega),zC,zE,zA,zI,F36.uy];refine H3.oH (v:=.str [48]) (by omega) (by decide) rfl rfl λo' h7 nx7 H7 => ?_;rw [F36.fU,jo (by omega)];refine hR (m-1) _ _ _ _ _ (by omega) ⟨i+1,o',rfl,by congr 1,by omega,?_⟩;rw [List.replicate_succ',Zbh,List.map_singleton,zun];exact H7
 .obtain rfl:i=n:=by omega
  rw [Zab (by omega),zD,zX,yD,zA,F36.rG];simp only [zF,zO];rw [F36.ret];exact hK o _ _ H3
theorem zd1 {id:Pa} {n j:Nat} {z:Int} {op:AV->OP} (hz:z=(j:Int)) (hj:j<n):zJ 1 (.sl id 0 n none 1) (I z) op=op (.ptr id j):=by
 subst hz;rw [uR hj,Zbg,Zbv]
theorem zr2:T9 1=.str [49]:=by
 have e:fC 1=[49]:=by
  unfold fC xk rT;rw [show (1:Int).natAbs=1 from rfl,qJ (by decide) (by decide),gN];rfl
 show AV.str (ql 1)=_;rw [ql,if_pos (show (1:Rat).den=1 from rfl),Zba,show ((1:Rat).num)=1 from rfl,e]
theorem zh0 {h0 h:T Blk} {nx p:Pa} {L:List Ob} {n i:Nat} {lines:List (List Int)} {l:List Int} {K:Kw Prop} (H:Hp h0 h nx L) (hli:lines[i]? = some l) (hr:∀ c∈l,0<=c/\c<(n:Int)) (hn1:1<=n) (hn:n<=1000) (hll:l.length<=1000) (hK:∀ id h' nx',Hp h0 h' nx' (.gro (some id) 1 n ((sP n l).map T9)::L)->K (.sl id 0 n none 1) h' nx'=.ok True):(CS Tryz.prog B).fn 98 p [.agg [I (n:Int),uf lines],I (i:Int)] h nx K=.ok True:=by
 refine zL zN yC 2000 λhf => ?_;have hil:=(Zgw.1 hli).1;have hlm:(lines.map Go.Ev.encI)[i]? = some (Go.Ev.encI l):=by rw [Zgx,hli];rfl
 rw [F98.go,F98.t18,zA,F98.zu];refine H.box (l:=[I (n:Int),uf lines]) rfl λbx h1 nx1 H1 => ?_;rw [zA,F98.zo,sFx,H1.load (k:=0) (i:=0+0) rfl rfl];refine zli H1 hn λo h2 nx2 H2 => ?_;obtain ⟨id,rfl⟩:∃ id,o=some id:=by
  cases o with
  | none=>obtain ⟨_,hz⟩:=H2.own _ (Zaj ..);omega
  | some id=>exact ⟨id,rfl⟩
 rw [show uw (some id) 1 n=.sl id 0 n none 1 from rfl,zA,zA,F98.yw,zI];refine F98.zac (λm x5 h' nx'=>∃ k:Nat,x5=I (k:Int)/\m+k=l.length/\nx'=nx2/\Hp h0 h' nx2 (.gro (some id) 1 n ((sP n (l.take k)).map T9)::.arr bx [I (n:Int),uf lines]::L)) (m:=l.length) (by omega) ⟨0,rfl,rfl,rfl,H2⟩ ?_;rintro m z5 z6 h3 nx3 R ⟨k,rfl,hm,rfl,H3⟩ hR;have l1:∀ op:AV->OP,zG (.ptr bx (0+1)) h3 op=op (uf lines):=λop=>H3.load (k:=1) (i:=0+1) rfl rfl;rw [F98.t10,zA,zA,F98.vk,sFx,l1,cu (i:=i) rfl hil,ldL hlm,zW,jf,zB,F98.v6];by_cases ck:k<l.length
 .have hx:=Zgv ck;have hc:=hr _ (Zat ck);have hql:=yR n (l.take k);rw [Zac (by omega),zC,zE,zA,zI,F98.uy,sFx,l1,cu (i:=i) rfl hil,ldL hlm,cu (i:=k) rfl ck,ldL (sF hx),zd1 (j:=l[k].toNat) (by omega) (by omega)];refine H3.oD (k:=0) (i:=l[k].toNat) rfl (by rw [Zah,hql];omega) rfl λh4 H4 => ?_;have H5:Hp h0 h4 nx3 (.gro (some id) 1 n ((sP n (l.take (k+1))).map T9)::.arr bx [I (n:Int),uf lines]::L):=by
   have e:(sP n (l.take (k+1))).map T9=((sP n (l.take k)).map T9).set l[k].toNat (.str [49]):=by
    rw [Zaq,hx,Zcm,zdp,Zer,zr2]
   rw [e];exact H4
  rw [F98.fU,jo (by omega)];exact hR (m-1) _ _ _ _ (by omega) ⟨k+1,by congr 1,by omega,rfl,H5⟩
 .rw [Zak (by omega)] at H3;rw [Zab (by omega),zD,zX,yD,zA,F98.rG];simp only [zF,zO];rw [F98.ret];exact hK id _ _ (H3.perm (.swap _ _ _)).drop
theorem zy8 {P:List Nat} {c:Nat} (hP:P.length<=1000):Pure Tryz.prog B 191 [.lst 1 P.length (P.map D),I (c:Int)] (· = .bool (decide (c∈P))):=by
 refine zT λh nx K H0 hK=>zL zN yC 2000 λhf => ?_;rw [gm.go,gm.t20,zA,gm.zu,zA,zA,gm.zo,zI];refine gm.zfp (λm x3 h' nx'=>∃ i:Nat,x3=I (i:Int)/\m+i=P.length/\c∉P.take i/\h'=h/\nx'=nx) (m:=P.length) (by omega) ⟨0,rfl,rfl,by simp,rfl,rfl⟩ ?_;rintro m z2 z3 z4 z5 h3 nx3 R ⟨i,rfl,hm,hn,rfl,rfl⟩ hR;rw [gm.t13,zA,zA,gm.yw,zW,jf,zB,gm.v4];by_cases ci:i<P.length
 .have hx:=Zgv ci;have hxm:(P.map D)[i]? = some (D P[i]):=by rw [Zgx,hx];rfl
  rw [Zac (by omega),zC,zE,zA,zI,zA,gm.fZ,cu (i:=i) rfl ci,ldL hxm,qz,zB,gm.v5];by_cases e:P[i]=c
  .rw [Zac (by omega),zC,zA,gm.uy];simp only [zF,vI,zO];rw [gm.ret];exact hK _ _ _ _ _ H0 (.bool _) (by rw [Zac (e ▸ Zat ci)])
  .rw [Zab (by omega),zD,zE,gm.xu,jo (by omega)];refine hR (m-1) _ _ _ _ _ _ (by omega) ⟨i+1,by congr 1,by omega,λhmem => ?_,rfl,rfl⟩;rw [Zaq,hx,Zcm] at hmem;rcases Zbf.1 hmem with q | q
   .exact hn q
   .exact e (Zaz.1 q).symm
 .rw [Zak (by omega)] at hn;rw [Zab (by omega),zD,zX,yD,zA,gm.tL];simp only [zF,zO];rw [gm.ret];exact hK _ _ _ _ _ H0 (.bool _) (by rw [Zab hn])
theorem pW (R:List (List Rat)):rJ (jK R)=true:=qE λv hv=>by
 obtain ⟨l,_,rfl⟩:=Zar.1 hv;exact qE λv hv=>by obtain ⟨x,_,rfl⟩:=Zar.1 hv;rfl
theorem zcl {M0:List (List Rat)} {Q:List (List Rat)->Prop} (h190:∀ {B},Pure Tryz.prog B 190 [jK M0] (λv=>∃ R y,Q R/\v=.tup [jK R,y])):Pure Tryz.prog B 100 [jK M0] (λv=>∃ R,Q R/\v=jK R):=by
 refine zT λh nx K H0 hK=>zL zN yC 100 λhf => ?_;rw [fT.go,fT.t5,zA,fT.zu,zA,fT.zo];refine h190 _ _ _ _ ?_;rintro _ ⟨R,y,hR,rfl⟩ _;rw [jB,zA,fT.yw];simp only [zF,zO];rw [fT.ret];exact hK _ _ _ _ _ H0 (zS (pW R)) ⟨R,hR,rfl⟩
theorem bM:Pure Tryz.prog B 190 [jK []] (· = .tup [jK [],.lst 1 0 []]):=by
 refine zT λh nx K H0 hK=>zL zN yC 100010 λhf => ?_;rw [ze.go,ze.t84,zA,ze.zu,zA,ze.zo];refine zq4 (M:=[]) (w:=1) H0 (Zaf _) (by decide) (by simp) (by simp) λo rs h1 nx1 hrs H1 => ?_;obtain rfl:rs=[]:=Zch.1 hrs;have hlen:∀ KK:AV->OP,sLen (uw o 1 0) KK=KK (I 0):=λKK=>H1.zbp (k:=0) rfl;have w0:∀ {p:Pa} {KK:Kw Prop},KK (I 0) h1 nx1=.ok True->(CS Tryz.prog B).fn 196 p [uw o 1 0] h1 nx1 KK=.ok True:=λ{p KK} hKK=>by
  refine zL zN yC 100 λhf => ?_;rw [ve.go,ve.t9,zA,ve.zu,zA,zA,ve.zo,hlen,qz,Zac (by rfl),zB,ve.v2,zC,zA,ve.yw];simp only [zF,zO];rw [ve.ret];exact hKK
 rw [show ([]:List (List Rat)).length=0 from rfl,zA,ze.yw,zA,zA,ze.vk,zI];refine ze.zu0 (λm x3 x4 h' nx'=>x3=.zb/\x4=I 0/\h'=h1/\nx'=nx1) (m:=0) (by omega) ⟨rfl,rfl,rfl,rfl⟩ ?_;rintro m z3 z4 z5 z6 z7 z8 z9 z10 z11 z12 z13 z14 z15 z16 z17 z18 h3 nx3 R ⟨rfl,rfl,rfl,rfl⟩ hR;rw [ze.t75,zA,zA,ze.ng,ze.r4_0,ze.zd4];refine w0 ?_;rw [ze.r4_1,ze.zd5,jf,Zab (by decide)];simp only [jD];rw [yB,ze.t5,zB,ze.v12,zD,zX,yD,ze.t80,zA,ze.zu1,yJ];have cut:∀ op:AV->OP,wX 1 (uw o 1 0) none (some (I 0)) none op=op (uw o 1 0):=λop=>H1.qbn (k:=0) (i:=0) (op:=op) rfl (Zaf 0);rw [cut];simp only [zF,zO];rw [ze.ret];exact hK _ _ _ _ _ H1 (j4 (H1.ak (k:=0) rfl (by simp)) (.aX 1)) rfl
def kvF (n:Nat) (E:List (List Rat)) (P:List Nat) (c:Nat):Nat->List Rat
 | 0=>uD n c
 | k+1=>(kvF n E P c k).set (P.getD k 0) (-(at' (E.getD k []) c))
abbrev rO (n:Nat) (E:List (List Rat)) (P:List Nat) (c:Nat):List Rat:=kvF n E P c P.length
theorem wR (n:Nat) (E:List (List Rat)) (P:List Nat) (c:Nat):∀ k,(kvF n E P c k).length=n
 | 0=>gV n c
 | k+1=>by rw [kvF,Zan,wR n E P c k]
theorem zm0 {M0:List (List Rat)} {n:Nat} {QP:List (List Rat)->List Nat->Prop} {Q2:AV->Prop} (hn1:1<=n) (hn:n<=1000)
  (h190:∀ {B},Pure Tryz.prog B 190 [jK M0] (λv=>∃ E P,QP E P/\v=.tup [jK E,.lst 1 P.length (P.map D)]))
  (hEP:∀ E P,QP E P->E.length=P.length/\P.length<=1000/\(∀ l∈E,l.length=n/\∀ q∈l,Qd q)/\∀ p∈P,p<n)
  (h100:∀ {B} E P,QP E P->Pure Tryz.prog B 100 [jK ((frQ n P).map (rO n E P))] (λv=>Q2 v/\rJ v=true)):Pure Tryz.prog B 101 [jK M0,I (n:Int)] Q2:=by
 refine zT λh nx K H0 hK=>zL zN yC 2000 λhf => ?_;rw [zy.go,zy.t41,zA,zy.zu,zA,zy.zo];refine h190 _ _ _ _ ?_;rintro _ ⟨E,P,hq,rfl⟩ _;obtain ⟨hEl,hPl,qce,hPn⟩:=hEP E P hq;rw [jB,jE,zA,zy.yw,zA,zA,zy.vk,zI];refine zy.qaa (λq x5 x6 h' nx'=>∃ (c:Nat) (o:Option Pa) (rs:List Pa),x5=uw o 1 rs.length/\x6=I (c:Int)/\q+c=n/\rs.length=(frQ c P).length/\Hp h h' nx' (.gro o 1 rs.length (rs.map (rv9 n))::jU rs ((frQ c P).map (rO n E P)))) (m:=n) (by omega) ⟨0,none,[],rfl,rfl,rfl,rfl,H0.ax 1⟩ ?_;rintro q z5 z6 z7 z8 z9 z10 z11 h3 nx3 R ⟨c,o,rs,rfl,rfl,hqc,hrs,H3⟩ hR;have hfl:=vC c P;rw [zy.t32,zA,zA,zy.ng,jf,zB,zy.v9];by_cases cc:c<n
 .have hfs:=zhx (c:=c) (ps:=P);rw [Zac (by omega),zC,zE,zA,zI,zA,zA,zy.fF];refine zy8 hPl _ _ _ _ ?_;rintro _ rfl _;rw [zB,zy.v10];by_cases hc:c∈P
  .rw [if_pos hc,Zba] at hfs;rw [Zac hc,zC,zX,yD,zy.zj1,jo (by omega)];exact hR (q-1) _ _ _ _ _ _ _ _ _ (by omega) ⟨c+1,o,rs,rfl,by congr 1,by omega,by rw [hfs];exact hrs,by rw [hfs];exact H3⟩
  rw [if_neg hc] at hfs;rw [Zab hc,zD,zE,zA,zy.ny];refine zli H3 hn λo8 h4 nx4 H4 => ?_;obtain ⟨id,rfl⟩:∃ id,o8=some id:=by
   cases o8 with
   | none=>obtain ⟨_,hz⟩:=H4.own _ (Zaj ..);omega
   | some id=>exact ⟨id,rfl⟩
  rw [show uw (some id) 1 n=.sl id 0 n none 1 from rfl,zA,zy.xu,zd1 (j:=c) rfl cc];refine H4.oD (k:=0) (i:=c) rfl (by rw [Zah,Zav];exact cc) rfl λh5 H5 => ?_;have H5:Hp h h5 nx4 (.gro (some id) 1 n ((uD n c).map T9)::.gro o 1 rs.length (rs.map (rv9 n))::jU rs ((frQ c P).map (rO n E P))):=by
   have e:(uD n c).map T9=((List.replicate n (0:Rat)).map T9).set c (.str [49]):=by rw [uD,Zer,zr2]
   rw [e];exact H5
  rw [zA,zA,zy.rH,zI];refine zy.znd (λq x8 h' nx'=>∃ k:Nat,x8=I (k:Int)/\q+k=P.length/\nx'=nx4/\Hp h h' nx4 (.gro (some id) 1 n ((kvF n E P c k).map T9)::.gro o 1 rs.length (rs.map (rv9 n))::jU rs ((frQ c P).map (rO n E P)))) (m:=P.length) (by omega) ⟨0,rfl,rfl,rfl,H5⟩ ?_;rintro q2 w8 w11 h6 nx6 R2 ⟨k,rfl,hqk,rfl,H6⟩ hR2;rw [zy.t20,zA,zA,zy.rP,zW,jf,zB,zy.v11];by_cases ck:k<P.length
  .have hpk:(P.map D)[k]? = some (D (P.getD k 0)):=by rw [Zgx,j7 (d:=0) ck];rfl
   have hpr:=hPn _ (yF (l:=P) (i:=k) (d:=0) ck);have hEk:=j7 (l:=E) (i:=k) (d:=[]) (by omega);obtain ⟨hrl,hrq⟩:=qce _ (yF (l:=E) (i:=k) (d:=[]) (by omega));have ecE:(E.map gU)[k]? = some (gU (E.getD k [])):=by rw [Zgx,hEk];rfl
   have hcell:((E.getD k []).map T9)[c]? = some (T9 (at' (E.getD k []) c)):=by rw [Zgx,uE (by omega)];rfl
   have hqd:=hrq _ (Zad (uE (q:=E.getD k []) (j:=c) (by omega)));have ix4:∀ op:AV->OP,zJ 1 (.lst 1 P.length (P.map D)) (I (k:Int)) op=op (.fp ((P.map D).drop (k*1))):=λop=>cu rfl ck;have ld4:∀ (hh:Ev.T Blk) (op:AV->OP),zG (.fp ((P.map D).drop (k*1))) hh op=op (D (P.getD k 0)):=λhh op=>ldL hpk;rw [Zac (by omega),zC,zE,zA,zI,zy.sw,ix4,ld4,show jK E=.lst 1 E.length (E.map gU) from rfl,cu (i:=k) rfl (by omega),ldL ecE,gU,cu (i:=c) rfl (by omega),ldL hcell];refine zq2 (Zax hqd.txt (by decide)) _ _ _ _ ?_;rintro _ rfl _;simp only [ld4,ix4,zH];rw [zd1 (j:=P.getD k 0) rfl hpr];refine H6.oD (k:=0) (i:=P.getD k 0) rfl (by rw [Zah,wR];exact hpr) rfl λh7 H7 => ?_;rw [zy.zad,jo (by omega)];refine hR2 (q2-1) _ _ _ _ (by omega) ⟨k+1,by congr 1,by omega,rfl,?_⟩;rw [kvF,Zer];exact H7
  obtain rfl:k=P.length:=by omega
  have H7:=H6.oQ.perm (.swap _ _ _);rw [Zab (by omega),zD,zX,yD,zy.aV];refine H7.oH (v:=rv9 n id) (by omega) (by decide) rfl rfl λo' h8 nx8 H8 => ?_;rw [zy.zj1,jo (by omega)];refine hR (q-1) _ _ _ _ _ _ _ _ _ (by omega) ⟨c+1,o',rs++[id],by rw [Zae];rfl,by congr 1,by omega,by rw [hfs,Zae,Zae,hrs];rfl,?_⟩;rw [hfs,show (frQ c P++[c]).map (rO n E P)=(frQ c P).map (rO n E P)++[rO n E P c] from Zbh ..,vT (by rw [Zah,hrs]),Zbh,Zae];exact H8.perm ((Zdk _ _).symm.cons _)
 obtain rfl:c=n:=by omega
 rw [Zab (by omega),zD,zX,yD,zA,zy.znh];have fin:∀ {hh:Ev.T Blk} {L:List Ob},Hp h hh nx3 L->(CS Tryz.prog B).fn 100 (.of 100) [jK ((frQ c P).map (rO c E P))] hh nx3 (λv1 h2 n3=>IR.run .ret (CS Tryz.prog B) 2000 (fnO zy.res K) (zi zy.res K) (zy.fr (jK M0) (I (c:Int)) v1 (jK E) (.lst 1 P.length (P.map D)) (uw o 1 rs.length) (I (c:Int)) z7 z8 (.bool false) z10 z11) h2 n3)=.ok True:=by
  intro hh L HH;refine h100 E P hq _ _ _ _ ?_;rintro v ⟨hv,hfx⟩ _;simp only [zF,zO];rw [zy.ret];exact hK _ _ _ _ _ HH (zS hfx) hv
 by_cases h0:rs.length=0
 .obtain rfl:rs=[]:=Zch.1 h0;have e0:(frQ c P).map (rO c E P)=[]:=by rw [Zch.1 (show (frQ c P).length=0 by rw [<- hrs];rfl)];rfl
  rw [e0] at fin;obtain ⟨h',k1,H',fz⟩:=H3.zi3 (by simp);exact dQ k1 (.cons fz .nil) (fin H')
 .obtain ⟨tid,rfl⟩:∃ id,o=some id:=by
   cases o with
   | none=>obtain ⟨_,hz⟩:=H3.own _ (Zaj ..);omega
   | some id=>exact ⟨id,rfl⟩
  have HP:PM h h3 nx3 tid rs c [] ((frQ c P).map (rO c E P)):=⟨by rw [Zah,hrs],λl hl=>by obtain ⟨x,_,rfl⟩:=Zar.1 hl;exact wR ..,by rw [Zba];exact H3.oQ⟩;obtain ⟨h',k1,H',n1,n2⟩:=HP.zww;have fz:=zff HP (Zaf _) n1 n2;rw [Zcu,Zah,<- hrs] at fz;exact dQ k1 (.cons fz .nil) (fin H')
end Go.Ev
namespace Go.Ev
open Go Go.Proofs
theorem zcm (F G:Nat->Rat):∀ k,sR k (λj=>F j+G j)=sR k F+sR k G
 | 0=>by simp only [sR];grind
 | k+1=>by rw [sR,sR,sR,zcm F G k];grind
theorem mB (c:Rat) (F:Nat->Rat):∀ k,sR k (λj=>c*F j)=c*sR k F
 | 0=>by simp only [sR];grind
 | k+1=>by rw [sR,sR,mB c F k];grind
theorem zlj {fr:List Nat} (hnd:fr.Nodup) {m:Nat} (hl:∀ x∈fr,x<m) (F:Nat->Rat) (hz:∀ k,k∉fr->F k=0):sR fr.length (λa=>F (fr.getD a 0))=sR m F:=by
 have key:∀ (fr:List Nat),fr.Nodup->(∀ x∈fr,x<m)->∀ F:Nat->Rat,(∀ k,k∉fr->F k=0)->sR fr.length (λa=>F (fr.reverse.getD a 0))=sR m F:=by
  intro fr
  induction fr with
  | nil=>intro _ _ F hz;exact (qL λb _=>hz b (by simp)).symm
  | cons x l ih =>
   intro hnd hl F hz;obtain ⟨hx,hnd2⟩:=Zeh.1 hnd;have e:=ih hnd2 (λy hy=>hl y (Zap _ hy)) (λk=>if k=x then 0 else F k) λk hk=>by
    by_cases q:k=x
    .rw [if_pos q]
    .rw [if_neg q];exact hz k λw=>(Zas.1 w).elim q hk
   have hxm:=hl x (Zaj ..);have e2:sR m F=sR m (λk=>if k=x then 0 else F k)+F x:=by
    have:sR m F=sR m (λk=>(if k=x then 0 else F k)+(if x=k then 1 else 0)*F k):=jI λk _=>by
     by_cases q:k=x
     .rw [if_pos q,if_pos q.symm];grind
     .rw [if_neg q,if_neg λw=>q w.symm];grind
    rw [this,zcm,zfc,if_pos hxm]
   rw [Zbd,sR,e2,<- e]
   congr 1
   .refine jI λa ha => ?_;have h1:(x::l).reverse.getD a 0=l.reverse.getD a 0:=by
     rw [Zgt,Zaa,Zhb (by rw [Zbp];exact ha),<- Zaa]
    rw [h1,if_neg];intro q;exact hx (List.mem_reverse.1 (q ▸ yF (by rw [Zbp];exact ha)))
   .rw [Zgt,Zaa,Zgy (by rw [Zbp];exact Zaf _),Zbp,Zcw];rfl
 have:=key fr.reverse ((List.reverse_perm fr).nodup_iff.2 hnd) (λx hx=>hl x (List.mem_reverse.1 hx)) F λk hk=>hz k λq=>hk (List.mem_reverse.2 q);rw [Zeu,Zbp] at this;exact this
theorem zy9 {P:List Nat} (h:P.Pairwise (· < ·)) {a b:Nat} (hab:a<b) (hb:b<P.length):P.getD a 0≠P.getD b 0:=by
 have:=Zff.1 h a b (by omega) hb hab;rw [Zaa,Zaa,Zgv (show a<P.length by omega),Zgv hb];exact Nat.ne_of_lt this
end Go.Ev
namespace Go.Ev
section
variable {σ α:Type}
end
end Go.Ev
namespace Go.Ev
open Go Go.Proofs
variable {B:Nat}
set_option maxRecDepth 100000
theorem pQ {α:Type} [DecidableEq α]:∀ (l r:List α),l.Nodup->(∀ x∈l,x∈r)->∃ s,r.Perm (l++s)
 | [],r,_,_=>⟨r,.refl _⟩
 | a::l,r,hn,hs=>by
  obtain ⟨h1,h2⟩:=Zeh.1 hn;have ha:=hs a (by simp);obtain ⟨s,hp⟩:=pQ l (r.erase a) h2 λx hx=>(List.mem_erase_of_ne (by rintro rfl;exact h1 hx)).2 (hs x (by simp [hx]));exact ⟨s,(List.perm_cons_erase ha).trans (.cons a hp)⟩
theorem xZ {α:Type} [DecidableEq α] {l r:List α} (h1:l.Nodup) (h2:∀ x∈l,x∈r) (h3:r.length<=l.length):r.Perm l:=by
 obtain ⟨s,hs⟩:=pQ l r h1 h2;have hl:=hs.length_eq;obtain rfl:s=[]:=Zda (by rw [Zae] at hl;omega);simpa using hs
end Go.Ev
namespace Go.Ev
open Go Go.Proofs
structure Ee (n:Nat) (E:List (List Rat)) (P:List Nat):Prop where
 len:E.length=P.length
 row:∀ l∈E,l.length=n
 rng:∀ p∈P,p<n
 asc:P.Pairwise (· < ·)
 one:∀ a b,a<P.length->b<P.length->at' (E.getD a []) (P.getD b 0)=if a=b then 1 else 0
 lead:∀ a,a<P.length->∀ c,c<P.getD a 0->at' (E.getD a []) c=0
 sm:P.length<=11->∀ c:Nat->Nat,(∀ j,j<=P.length->c j<n)->∃ x:Nat->Int,(∃ j,j<=P.length/\x j≠0)/\(∀ j,(x j).natAbs<=ZB)/\∀ q∈E,dot q (plF n c (λi=>(x i:Rat)) (P.length+1))=0
theorem Gd.ee {w j:Nat} {M0 M:List (List Rat)} {P:List Nat} (h:Gd w M0 j M P) (hS:SmP M0) (hsg:∀ o∈M0,o.length=w/\∀ c,Sg (at' o c)):Ee w (M.take P.length) P:=by
 have hpm:=h.pm;have g:∀ a,a<P.length->(M.take P.length).getD a []=M.getD a []:=λa ha=>by
  rw [Zaa,Zhe ha,<- Zaa]
 refine ⟨by rw [Zai];omega,λl hl=>h.row l (Zbx hl),λp hp=>Zck (h.rng p hp) h.jw,h.asc,λa b ha hb=>by rw [g a ha];exact h.one a b ha hb,λa ha c hc=>by rw [g a ha];exact h.lead a ha c hc,λhP c hc => ?_⟩;obtain ⟨O,hol,hom,hker,_⟩:=h.org;obtain ⟨x,h1,h2,h3⟩:=hS O c hom (by omega);rw [hol] at h1;refine ⟨x,h1,h2,λq hq => ?_⟩;obtain ⟨a,ha⟩:=Zau.1 hq;have hal:=(Zgw.1 ha).1;rw [Zai] at hal;have hqa:M.getD a []=q:=by rw [<- g a (by omega),Zaa,ha];rfl
 rw [<- hqa];refine hker _ (kH _) (λo ho => ?_) a (by omega);rw [qP (hsg o (hom o ho)).1 _ λi hi=>hc i (by omega)];have:=h3 o ho;rw [hol] at this;exact this
theorem cC {P:List Nat} (h:P.Pairwise (· < ·)):P.Nodup:=h.imp λh=>Nat.ne_of_lt h
theorem c5 {P:List Nat} (h:P.Nodup) {a b:Nat} (ha:a<P.length) (hb:b<P.length) (hab:a≠b):P.getD a 0≠P.getD b 0:=λq=>by
 have ga:=j7 (l:=P) (i:=a) (d:=0) ha;have gb:=j7 (l:=P) (i:=b) (d:=0) hb;rw [<- q,<- ga] at gb;exact hab ((List.getElem?_inj hb h).1 gb).symm
theorem zfi {n c j:Nat} {E:List (List Rat)} {P:List Nat}:∀ k,(∀ a,a<k->P.getD a 0≠j)->at' (kvF n E P c k) j=at' (uD n c) j
 | 0,_=>rfl
 | k+1,h=>by
  rw [kvF,at',Zaa,Zhd (h k (by omega)),<- Zaa];exact zfi k λa ha=>h a (by omega)
theorem zlk {n c:Nat} {E:List (List Rat)} {P:List Nat} {g:List Rat} (hE:Ee n E P) (hc:c<n) (hcP:c∉P) (hg:g.length=n):∀ k,k<=P.length->dot (kvF n E P c k) g=at' g c-sR k λb=>at' (E.getD b []) c*at' g (P.getD b 0)
 | 0,_=>by
  rw [kvF,gF,qU hg hc];show _=at' g c-0
  grind
 | k+1,hk=>by
  have hpn:=hE.rng _ (yF (l:=P) (i:=k) (d:=0) (by omega));have h0:at' (kvF n E P c k) (P.getD k 0)=0:=by
   rw [zfi k λa ha=>zy9 hE.asc ha (by omega),cV,if_neg];exact λq=>hcP (by rw [q.1];exact yF (by omega))
  rw [kvF,c6 _ _ _ _ (by rw [wR];exact hpn) (by rw [wR,hg]),zlk hE hc hcP hg k (by omega),h0,sR]
  grind
theorem zr3 {n c:Nat} {E:List (List Rat)} {P:List Nat} {g:List Rat} (hE:Ee n E P) (hc:c<n) (hcP:c∉P) (hg:g.length=n):dot (rO n E P c) g=at' g c-sR P.length λb=>at' (E.getD b []) c*at' g (P.getD b 0):=zlk hE hc hcP hg _ (Zaf _)
theorem zwx {n c j:Nat} {E:List (List Rat)} {P:List Nat} (hj:j∉P):at' (rO n E P c) j=if c=j/\j<n then 1 else 0:=by
 rw [zfi _ λa ha q=>hj (by rw [<- q];exact yF ha),cV]
theorem fJ {n c:Nat} {ps:List Nat}:c∈frQ n ps↔c<n/\c∉ps:=by
 unfold frQ;rw [Zcd,Zbe];simp
theorem xN (n:Nat) (ps:List Nat):(frQ n ps).Nodup:=(Zed (n:=n)).sublist Zdp
theorem zr4 {n c:Nat} {E:List (List Rat)} {P:List Nat} (hE:Ee n E P) (hc:c<n) (hcP:c∉P):∀ q∈E,dot q (rO n E P c)=0:=λq hq=>by
 obtain ⟨a,ha⟩:=Zau.1 hq;have hal:=(Zgw.1 ha).1;have hlen:=hE.len;have hqa:E.getD a []=q:=by rw [Zaa,ha];rfl
 rw [gF,zr3 hE hc hcP (hE.row q hq),qM (i:=a) (x:=λb=>at' (E.getD b []) c) λb hb => ?_,if_pos (by omega),hqa]
 .grind
 .rw [<- hqa,hE.one a b (by omega) hb,Zge]
theorem zh1 {n:Nat} {P:List Nat} (hnd:P.Nodup) (hr:∀ p∈P,p<n) (H:Nat->Rat):sR n H=(sR P.length λa=>H (P.getD a 0))+sR (frQ n P).length λi=>H ((frQ n P).getD i 0):=by
 have e1:=zlj hnd hr (λj=>if j∈P then H j else 0) λk hk=>if_neg hk;have e2:=zlj (xN n P) (λx hx=>(fJ.1 hx).1) (λj=>if j∈frQ n P then H j else 0) λk hk=>if_neg hk;have e3:sR n H=sR n (λj=>(if j∈P then H j else 0)+if j∈frQ n P then H j else 0):=jI λj hj=>by
  by_cases q:j∈P
  .rw [if_pos q,if_neg λw=>(fJ.1 w).2 q];grind
  .rw [if_neg q,if_pos (fJ.2 ⟨hj,q⟩)];grind
 rw [e3,zcm,<- e1,<- e2]
 congr 1
 .exact jI λa ha=>if_pos (yF ha)
 .exact jI λa ha=>if_pos (yF ha)
theorem zll (F:Nat->Nat->Rat) (m:Nat):∀ k,sR k (λi=>sR m λj=>F i j)=sR m λj=>sR k λi=>F i j
 | 0=>(qL λ_ _=>rfl).symm
 | k+1=>by rw [sR,zll F m k,<- zcm];exact jI λj _=>rfl
theorem zlm {a b:List Rat} {n:Nat} (ha:a.length=n) (hb:b.length=n):dot a b=sR n λj=>at' a j*at' b j:=by rw [zrz _ _ (by rw [ha,hb]),ha]
theorem zln {n:Nat} {E:List (List Rat)} {P:List Nat} {v g:List Rat} (hE:Ee n E P) (hv:v.length=n) (hg:g.length=n) (hk:∀ q∈E,dot q v=0):dot v g=sR (frQ n P).length λi=>at' v ((frQ n P).getD i 0)*dot (rO n E P ((frQ n P).getD i 0)) g:=by
 have hnd:=cC hE.asc;have hlen:=hE.len;have hpv:∀ b,b<P.length->at' v (P.getD b 0) = -(sR (frQ n P).length λi=>at' v ((frQ n P).getD i 0)*at' (E.getD b []) ((frQ n P).getD i 0)):=λb hb=>by
  have hm:=yF (l:=E) (i:=b) (d:=[]) (by omega);have e:=hk _ hm;rw [zlm (hE.row _ hm) hv,zh1 hnd hE.rng,qM (i:=b) (x:=λa=>at' v (P.getD a 0)) (λa ha=>by rw [hE.one b a hb ha]),if_pos hb] at e;have e2:(sR (frQ n P).length λi=>at' (E.getD b []) ((frQ n P).getD i 0)*at' v ((frQ n P).getD i 0))=sR (frQ n P).length λi=>at' v ((frQ n P).getD i 0)*at' (E.getD b []) ((frQ n P).getD i 0):=jI λi _=>Zge ..;rw [e2] at e
  grind
 have e1:(sR (frQ n P).length λi=>at' v ((frQ n P).getD i 0)*dot (rO n E P ((frQ n P).getD i 0)) g)=(sR (frQ n P).length λi=>at' v ((frQ n P).getD i 0)*at' g ((frQ n P).getD i 0)) + -1*sR (frQ n P).length λi=>sR P.length λb=>at' v ((frQ n P).getD i 0)*at' (E.getD b []) ((frQ n P).getD i 0)*at' g (P.getD b 0):=by
  rw [<- mB,<- zcm];refine jI λi hi => ?_;have hm:=fJ.1 (yF (l:=frQ n P) (i:=i) (d:=0) hi);rw [zr3 hE hm.1 hm.2 hg];have e3:(sR P.length λb=>at' v ((frQ n P).getD i 0)*at' (E.getD b []) ((frQ n P).getD i 0)*at' g (P.getD b 0))=at' v ((frQ n P).getD i 0)*sR P.length λb=>at' (E.getD b []) ((frQ n P).getD i 0)*at' g (P.getD b 0):=by
   rw [<- mB];exact jI λb _=>Rat.mul_assoc ..
  rw [e3]
  grind
 rw [e1,zll,zlm hv hg,zh1 hnd hE.rng];have e4:(sR P.length λa=>at' v (P.getD a 0)*at' g (P.getD a 0)) = -1*sR P.length λb=>sR (frQ n P).length λi=>at' v ((frQ n P).getD i 0)*at' (E.getD b []) ((frQ n P).getD i 0)*at' g (P.getD b 0):=by
  rw [<- mB];refine jI λb hb => ?_;rw [hpv b hb];have e5:(sR (frQ n P).length λi=>at' v ((frQ n P).getD i 0)*at' (E.getD b []) ((frQ n P).getD i 0)*at' g (P.getD b 0))=at' g (P.getD b 0)*sR (frQ n P).length λi=>at' v ((frQ n P).getD i 0)*at' (E.getD b []) ((frQ n P).getD i 0):=by
   rw [<- mB];exact jI λi _=>by rw [Zge]
  rw [e5]
  grind
 rw [e4]
 grind
theorem bX {n:Nat} {ps:List Nat} (hnd:ps.Nodup) (hr:∀ p∈ps,p<n):(frQ n ps).length+ps.length=n:=by
 have h1:((List.range n).filter λx=>decide (x∈ps)).length=ps.length:=by
  refine (xZ (l:=ps) hnd (λx hx => ?_) ?_).length_eq
  .exact Zcd.2 ⟨Zbe.2 (hr x hx),by simpa using hx⟩
  .have hn2:((List.range n).filter λx=>decide (x∈ps)).Nodup:=(Zed (n:=n)).sublist Zdp;obtain ⟨s,hs⟩:=pQ _ ps hn2 λx hx=>by simpa using (Zcd.1 hx).2
   have:=hs.length_eq;rw [Zae] at this;omega
 have h2:=List.length_eq_countP_add_countP (λx=>decide (x∈ps)) (l:=List.range n);rw [Zcz,List.countP_eq_length_filter,List.countP_eq_length_filter,h1] at h2;have e:(List.range n).filter (λa=>decide (¬ (λx=>decide (x∈ps)) a=true))=frQ n ps:=by
  unfold frQ;refine Zfo λx _ => ?_;by_cases c:x∈ps <;> simp [c]
 rw [e] at h2;omega
theorem zr5 {i k j:Nat} {li lr:List Rat} {M:List (List Rat)} (hk:k<M.length) (f:List Rat):dot ((rX i k j li lr M).getD k []) f=(at' li j)⁻¹*dot li f:=by
 rw [xH hk,if_pos rfl,kY]
theorem zr6 {w i k j a:Nat} {li lr:List Rat} {M:List (List Rat)} {f:List Rat} (hrow:∀ l∈M,l.length=w) (hli:M[i]? = some li) (hlr:M[k]? = some lr) (ha:a<M.length) (hne:a≠k) (hr:dot li f=0):dot ((rX i k j li lr M).getD a []) f=dot (if a=i then lr else M.getD a []) f:=by
 have hs:swR i k lr (yU (at' li j)⁻¹ li) M a=if a=i then lr else M.getD a []:=by unfold swR;rw [if_neg hne]
 have hl:(if a=i then lr else M.getD a []).length=(yU (at' li j)⁻¹ li).length:=by
  rw [u9,hrow _ (Zad hli)];split
  .exact hrow _ (Zad hlr)
  .exact hrow _ (yF ha)
 rw [xH ha,if_neg hne,hs,uA _ _ _ _ hl,kY,hr,Zbm,Zbm];grind
structure Ge (w:Nat) (K0:List (List Rat)) (j:Nat) (M:List (List Rat)) (P:List Nat):Prop where
 gd:Gd w K0 j M P
 ml:M.length=K0.length
 per:∃ s:Nat->Nat,(∀ a,a<K0.length->s a<K0.length)/\(∀ a b,a<K0.length->b<K0.length->s a=s b->a=b)/\(∀ f:List Rat,f.length=w->((∀ b,b<P.length->dot (M.getD b []) f=0)↔∀ b,b<P.length->dot (K0.getD (s b) []) f=0))/\∀ a,P.length<=a->a<K0.length->∀ f:List Rat,f.length=w->(∀ b,b<P.length->dot (M.getD b []) f=0)->dot (M.getD a []) f=dot (K0.getD (s a) []) f
theorem Ge.start {w:Nat} {K0:List (List Rat)} (h:∀ l∈K0,l.length=w):Ge w K0 0 K0 [] :=
 ⟨Gd.start h,rfl,id,λa ha=>ha,λa b _ _ e=>e,λf _=>⟨λ_ b hb=>by simp at hb,λ_ b hb=>by simp at hb⟩,λa _ _ f _ _=>rfl⟩
theorem Ge.skip {w j:Nat} {K0 M:List (List Rat)} {P:List Nat} (h:Ge w K0 j M P) (hj:j<w) (hz:∀ i' l,P.length<=i'->M[i']? = some l->l.getD j 0=0):Ge w K0 (j+1) M P:=⟨h.gd.skip hj hz,h.ml,h.per⟩
theorem Ge.piv {w j i:Nat} {K0 M:List (List Rat)} {P:List Nat} {li lr:List Rat} (h:Ge w K0 j M P) (hj:j<w) (hi:P.length<=i) (hli:M[i]? = some li) (hlr:M[P.length]? = some lr) (hv:li.getD j 0≠0):Ge w K0 (j+1) (rX i P.length j li lr M) (P++[j]):=by
 have him:=(Zgw.1 hli).1;have hkm:=(Zgw.1 hlr).1;have gi:M.getD i []=li:=by rw [Zaa,hli];rfl
 have gk:M.getD P.length []=lr:=by rw [Zaa,hlr];rfl
 have hml:(rX i P.length j li lr M).length=M.length:=by unfold rX ay;rw [Zdl,Zan,Zan,Zan]
 have plen:(P++[j]).length=P.length+1:=by rw [Zae,Zbq]
 have hm:=h.ml;obtain ⟨s,s1,s2,s3,s4⟩:=h.per;have hv':at' li j≠0:=hv;have d0:=λf=>zr5 (i:=i) (k:=P.length) (j:=j) (li:=li) (lr:=lr) hkm f;have liz:∀ f,dot ((rX i P.length j li lr M).getD P.length []) f=0->dot li f=0:=λf e=>by
  rw [d0] at e
  grind
 have dA:=λf a (ha:a<M.length) (hne:a≠P.length) (hr:dot li f=0)=>zr6 (j:=j) h.gd.row hli hlr ha hne hr;have low:∀ f a,a<P.length->dot li f=0->dot ((rX i P.length j li lr M).getD a []) f=dot (M.getD a []) f:=λf a ha hr=>by
  rw [dA f a (by omega) (by omega) hr,if_neg (by omega)]
 obtain ⟨t,ht⟩:∃ t:Nat->Nat,t=λa=>if a=P.length then s i else if a=i then s P.length else s a:=⟨_,rfl⟩
 have tk:t P.length=s i:=by rw [ht];exact if_pos rfl
 have ti:i≠P.length->t i=s P.length:=λe=>by rw [ht];show (if i=P.length then _ else _)=_;rw [if_neg e,if_pos rfl]
 have to:∀ a,a≠P.length->a≠i->t a=s a:=λa e1 e2=>by rw [ht];show (if a=P.length then _ else _)=_;rw [if_neg e1,if_neg e2]
 have old:∀ f:List Rat,f.length=w->(∀ b,b<(P++[j]).length->dot ((rX i P.length j li lr M).getD b []) f=0)->dot li f=0/\∀ b,b<P.length->dot (M.getD b []) f=0:=λf hf hz=>by
  have hl:=liz f (hz P.length (by omega));exact ⟨hl,λb hb=>by rw [<- low f b hb hl];exact hz b (by omega)⟩
 refine ⟨h.gd.piv hj hi hli hlr hv,by rw [hml,hm],t,λa ha => ?_,λa b ha hb e => ?_,λf hf=>⟨λhz b hb => ?_,λhz b hb => ?_⟩,λa ha ham f hf hz => ?_⟩
 .by_cases e1:a=P.length
  .rw [e1,tk];exact s1 i (by omega)
  .by_cases e2:a=i
   .subst e2;rw [ti e1];exact s1 _ (by omega)
   .rw [to a e1 e2];exact s1 a ha
 .have inj:=s2;by_cases a1:a=P.length <;> by_cases b1:b=P.length
  .omega
  .rw [a1,tk] at e;by_cases b2:b=i
   .subst b2;rw [ti b1] at e;have:=inj _ _ (by omega) (by omega) e;omega
   .rw [to b b1 b2] at e;have:=inj _ _ (by omega) hb e;omega
  .rw [b1,tk] at e;by_cases a2:a=i
   .subst a2;rw [ti a1] at e;have:=inj _ _ (by omega) (by omega) e;omega
   .rw [to a a1 a2] at e;have:=inj _ _ ha (by omega) e;omega
  .by_cases a2:a=i <;> by_cases b2:b=i
   .omega
   .subst a2;rw [ti a1,to b b1 b2] at e;have:=inj _ _ (by omega) hb e;omega
   .subst b2;rw [ti b1,to a a1 a2] at e;have:=inj _ _ ha (by omega) e;omega
   .rw [to a a1 a2,to b b1 b2] at e;exact inj _ _ ha hb e
 .obtain ⟨hl,ho⟩:=old f hf hz;rw [plen] at hb;by_cases e:b=P.length
  .rw [e,tk,<- s4 i hi (by omega) f hf ho,gi];exact hl
  .rw [to b e (by omega)];exact (s3 f hf).1 ho b (by omega)
 .have ho:∀ b,b<P.length->dot (M.getD b []) f=0:=(s3 f hf).2 λb hb=>by
   have:=hz b (by omega)
   rwa [to b (by omega) (by omega)] at this
  have hl:dot li f=0:=by
   have:=hz P.length (by omega);rw [tk,<- s4 i hi (by omega) f hf ho,gi] at this;exact this
  rw [plen] at hb;by_cases e:b=P.length
  .rw [e,d0,hl,Zbm]
  .rw [low f b (by omega) hl];exact ho b (by omega)
 .obtain ⟨hl,ho⟩:=old f hf hz;rw [plen] at ha;rw [dA f a (by omega) (by omega) hl];by_cases e:a=i
  .subst e;rw [if_pos rfl,ti (by omega),<- gk];exact s4 P.length (Zaf _) (by omega) f hf ho
  .rw [if_neg e,to a (by omega) e];exact s4 a (by omega) ham f hf ho
theorem zwy {n c0:Nat} {c:Nat->Nat} {x:Nat->Rat} {k:Nat} (hc:∀ i,i<k->c i<n) (h0:c0<n):at' (plF n c x k) c0=sR k λi=>(if c i=c0 then 1 else 0)*x i:=by
 rw [<- qU (kH k) h0,gF,qP (gV n c0) _ hc];refine jI λi hi => ?_;rw [cV];by_cases e:c i=c0
 .rw [if_pos e,if_pos ⟨e.symm,hc i hi⟩]
 .rw [if_neg e,if_neg λq=>e q.1.symm]
theorem Ge.small {n j:Nat} {E M:List (List Rat)} {P P2:List Nat} (hE:Ee n E P) (hP:P.length<=11) (h:Ge n ((frQ n P).map (rO n E P)) j M P2) {a:Nat} (ha:a<M.length):∃ t,1<=t/\t<=ZB/\∀ c,Dn t ZB (at' (M.getD a []) c):=by
 have hnd:=cC hE.asc;have hcount:=bX hnd hE.rng;have hKl:((frQ n P).map (rO n E P)).length=(frQ n P).length:=Zah ..;have hml:=h.ml;rw [hKl] at hml;have hg:=h.gd;have hpm:=hg.pm;obtain ⟨s,s1,s2,s3,s4⟩:=h.per;rw [hKl] at s1 s2 s4;have Kget:∀ b,b<(frQ n P).length->((frQ n P).map (rO n E P)).getD b []=rO n E P ((frQ n P).getD b 0):=λb hb=>zjs hb;have Fm:∀ b,b<(frQ n P).length->(frQ n P).getD b 0<n/\(frQ n P).getD b 0∉P:=λb hb=>fJ.1 (yF hb);have Finj:∀ b b',b<(frQ n P).length->b'<(frQ n P).length->(frQ n P).getD b 0=(frQ n P).getD b' 0->b=b':=λb b' hb hb' e=>Classical.byContradiction λq=>c5 (xN n P) hb hb' q e;have kF:∀ b b',b<(frQ n P).length->b'<(frQ n P).length->dot (((frQ n P).map (rO n E P)).getD (s b) []) (uD n ((frQ n P).getD (s b') 0))=if b=b' then 1 else 0:=λb b' hb hb'=>by
  have f1:=Fm _ (s1 b' hb');rw [Kget _ (s1 b hb),qU (wR ..) f1.1,zwx f1.2];by_cases e:b=b'
  .rw [if_pos e,if_pos ⟨by rw [e],f1.1⟩]
  .rw [if_neg e,if_neg λq=>e (s2 b b' hb hb' (Finj _ _ (s1 b hb) (s1 b' hb') q.1))]
 have kill:∀ b',P2.length<=b'->b'<(frQ n P).length->∀ b,b<P2.length->dot (M.getD b []) (uD n ((frQ n P).getD (s b') 0))=0:=λb' h1 h2=>(s3 _ (gV ..)).2 λb hb=>by rw [kF b b' (by omega) h2,if_neg (by omega)]
 have rowl:∀ b,b<M.length->(M.getD b []).length=n:=λb hb=>hg.row _ (yF hb);have P2n:∀ b,b<P2.length->P2.getD b 0<j:=λb hb=>hg.rng _ (yF hb);have hjn:=hg.jw;obtain ⟨z,hz⟩:∃ z:Nat->Nat,z=λb=>if b<P2.length then P2.getD b 0 else (frQ n P).getD (s b) 0:=⟨_,rfl⟩
 have zl:∀ b,b<P2.length->z b=P2.getD b 0:=λb hb=>by rw [hz];exact if_pos hb
 have zh:∀ b,P2.length<=b->z b=(frQ n P).getD (s b) 0:=λb hb=>by rw [hz];exact if_neg (by omega)
 have zn:∀ b,b<(frQ n P).length->z b<n:=λb hb=>by
  by_cases e:b<P2.length
  .rw [zl b e];have:=P2n b e;omega
  .rw [zh b (by omega)];exact (Fm _ (s1 b hb)).1
 have Mz:∀ a b,a<M.length->b<(frQ n P).length->at' (M.getD a []) (z b)=if a=b then 1 else 0:=λa b ha hb=>by
  by_cases eb:b<P2.length
  .rw [zl b eb];by_cases ea:a<P2.length
   .exact hg.one a b ea eb
   .rw [hg.zer a (by omega) _ (P2n b eb),if_neg (by omega)]
  .rw [zh b (by omega),<- qU (rowl a ha) (Fm _ (s1 b hb)).1];by_cases ea:a<P2.length
   .rw [kill b (by omega) hb a ea,if_neg (by omega)]
   .rw [s4 a (by omega) (by omega) _ (gV ..) (kill b (by omega) hb),kF a b (by omega) hb]
 have zinj:∀ b b',b<(frQ n P).length->b'<(frQ n P).length->z b=z b'->b=b':=λb b' hb hb' e=>Classical.byContradiction λq=>by
  have e1:=Mz b b (by omega) hb;have e2:=Mz b b' (by omega) hb';rw [e,e2,if_neg q,if_pos rfl] at e1;exact absurd e1 (by decide)
 obtain ⟨Z,hZ⟩:∃ Z:List Nat,Z=((List.range (frQ n P).length).filter λb=>decide (b≠a)).map z:=⟨_,rfl⟩;have Zm:∀ y,y∈Z↔∃ b,b<(frQ n P).length/\b≠a/\z b=y:=λy=>by
  rw [hZ,Zar];constructor
  .rintro ⟨b,hb,rfl⟩;obtain ⟨h1,h2⟩:=Zcd.1 hb;exact ⟨b,Zbe.1 h1,by simpa using h2,rfl⟩
  .rintro ⟨b,h1,h2,rfl⟩;exact ⟨b,Zcd.2 ⟨Zbe.2 h1,by simpa using h2⟩,rfl⟩
 have Znd:Z.Nodup:=by
  rw [hZ];refine Zgu.2 ?_;have hr:((List.range (frQ n P).length).filter λb=>decide (b≠a)).Nodup:=(Zed (n:=(frQ n P).length)).sublist Zdp;refine List.Pairwise.imp_of_mem (λ{x y} hx hy hne e => ?_) hr;exact hne (zinj x y (Zbe.1 (Zcd.1 hx).1) (Zbe.1 (Zcd.1 hy).1) e)
 have Zn:∀ y∈Z,y<n:=λy hy=>by
  obtain ⟨b,h1,_,rfl⟩:=(Zm y).1 hy;exact zn b h1
 have Zl:Z.length+1=(frQ n P).length:=by
  have e:Z.length=(frQ (frQ n P).length [a]).length:=by
   rw [hZ,Zah]
   congr 1
   unfold frQ;exact Zfo λb _=>by by_cases q:b=a <;> simp [q]
  have:=bX (n:=(frQ n P).length) (ps:=[a]) (by simp) (by simp;omega);rw [Zbq] at this;omega
 have Zc:=bX Znd Zn;have hcl:(frQ n Z).length=P.length+1:=by omega
 obtain ⟨x,⟨i0,hi0,hx0⟩,hx,hxE⟩:=hE.sm hP (λi=>(frQ n Z).getD i 0) λi hi=>(fJ.1 (yF (l:=frQ n Z) (i:=i) (d:=0) (by omega))).1;have hcn:∀ i,i<P.length+1->(frQ n Z).getD i 0<n:=λi hi=>(fJ.1 (yF (l:=frQ n Z) (i:=i) (d:=0) (by omega))).1;obtain ⟨f,hf⟩:∃ f,f=plF n (λi=>(frQ n Z).getD i 0) (λi=>(x i:Rat)) (P.length+1):=⟨_,rfl⟩;rw [<- hf] at hxE;have hfl:f.length=n:=by rw [hf];exact kH _
 have fin:∀ i,i<P.length+1->at' f ((frQ n Z).getD i 0)=(x i:Rat):=λi hi=>by
  rw [hf,zwy hcn (hcn i hi),qM (i:=i) (x:=λb=>(x b:Rat)) λb hb => ?_,if_pos hi];by_cases e:i=b
  .rw [if_pos e,if_pos (by rw [e])]
  .rw [if_neg e,if_neg (c5 (xN n Z) (by omega) (by omega) (Ne.symm e))]
 have fout:∀ y,y<n->y∈Z->at' f y=0:=λy hy hyZ=>by
  rw [hf,zwy hcn hy];refine qL λb hb => ?_;rw [if_neg,Zbz];intro q;exact (fJ.1 (yF (l:=frQ n Z) (i:=b) (d:=0) (by omega))).2 (by rw [q];exact hyZ)
 have fint:∀ y,∃ X:Int,at' f y=(X:Rat)/\X.natAbs<=ZB:=λy=>by
  by_cases hy:y<n
  .by_cases hyZ:y∈Z
   .exact ⟨0,fout y hy hyZ,by decide⟩
   .obtain ⟨i,hi⟩:=Zau.1 (fJ.2 ⟨hy,hyZ⟩);have hil:=(Zgw.1 hi).1;have e:(frQ n Z).getD i 0=y:=by rw [Zaa,hi];rfl
    rw [<- e];exact ⟨x i,fin i (by omega),hx i⟩
  .exact ⟨0,jV (by omega),by decide⟩
 have Mker:∀ q∈E,dot q (M.getD a [])=0:=λq hq=>by
  have hql:=hE.row q hq;have hk:∀ b,b<(frQ n P).length->dot (((frQ n P).map (rO n E P)).getD (s b) []) q=0:=λb hb=>by
   rw [Kget _ (s1 b hb),gF];exact zr4 hE (Fm _ (s1 b hb)).1 (Fm _ (s1 b hb)).2 q hq
  have hpv:∀ b,b<P2.length->dot (M.getD b []) q=0:=(s3 q hql).2 λb hb=>hk b (by omega);rw [gF];by_cases ea:a<P2.length
  .exact hpv a ea
  .rw [s4 a (by omega) (by omega) q hql hpv];exact hk a (by omega)
 have hall:∀ c,at' f c=at' f (z a)*at' (M.getD a []) c:=λj0=>by
  by_cases hj0:j0<n
  case neg=>rw [jV (q:=f) (j:=j0) (by omega),jV (q:=M.getD a []) (j:=j0) (by rw [rowl a ha];omega),Zbm]
  obtain ⟨v,hv⟩:∃ v,v=jX (at' f (z a)) f (M.getD a []):=⟨_,rfl⟩;have hll:f.length=(M.getD a []).length:=by rw [hfl,rowl a ha]
  have hvl:v.length=n:=by rw [hv,gB hll];exact hfl
  have hva:∀ c,at' v c=at' f c-at' f (z a)*at' (M.getD a []) c:=λc=>by rw [hv,gZ hll]
  have hvE:∀ q∈E,dot q v=0:=λq hq=>by rw [gF,hv,uA _ _ _ _ hll,gF,hxE q hq,gF,Mker q hq];grind
  have hvz:∀ b,b<(frQ n P).length->at' v (z b)=0:=λb hb=>by
   rw [hva,Mz a b ha hb];by_cases e:b=a
   .rw [e,if_pos rfl];grind
   .rw [fout _ (zn b hb) ((Zm _).2 ⟨b,hb,e,rfl⟩),if_neg (Ne.symm e)];grind
  obtain ⟨g,hgd⟩:∃ g,g=plF n (og P2.length P2 j0) (λb=>if b<P2.length then -(at' (M.getD b []) j0) else 1) (P2.length+1):=⟨_,rfl⟩;have hgl:g.length=n:=by rw [hgd];exact kH _
  have hgu:∀ u:List Rat,u.length=n->dot u g=(sR P2.length λb=>at' u (P2.getD b 0) * -(at' (M.getD b []) j0))+at' u j0:=λu hu=>by
   rw [hgd,qP hu _ λi hi => ?_,sR]
   .congr 1
    .refine jI λb hb => ?_;rw [og,if_pos hb];show _*(if b<P2.length then _ else _)=_;rw [if_pos hb]
    .rw [og,if_neg (Zci _)];show _*(if P2.length<P2.length then _ else _)=_;rw [if_neg (Zci _),Rat.mul_one]
   .unfold og;split
    .rename_i hb;have:=P2n i hb;omega
    .exact hj0
  have gM:∀ b,b<P2.length->dot (M.getD b []) g=0:=λb hb=>by
   rw [hgu _ (rowl b (by omega)),qM (i:=b) (x:=λb => -(at' (M.getD b []) j0)) λb' hb'=>by rw [hg.one b b' hb hb'],if_pos hb]
   grind
  have gK:=(s3 g hgl).1 gM;have e1:dot v g=0:=by
   rw [zln hE hvl hgl hvE];refine qL λi hi => ?_;obtain ⟨b,hb,rfl⟩:∃ b,b<(frQ n P).length/\s b=i:=by
    have hsn:((List.range (frQ n P).length).map s).Nodup:=Zgu.2 (List.Pairwise.imp_of_mem (λ{x y} hx hy hne e=>hne (s2 x y (Zbe.1 hx) (Zbe.1 hy) e)) (Zed (n:=(frQ n P).length)))
    have hp:=xZ (l:=(List.range (frQ n P).length).map s) (r:=List.range (frQ n P).length) hsn (λy hy=>by
     obtain ⟨b,hb,rfl⟩:=Zar.1 hy;exact Zbe.2 (s1 b (Zbe.1 hb))) (by simp)
    obtain ⟨b,hb,e⟩:=Zar.1 (hp.mem_iff.1 (Zbe.2 hi));exact ⟨b,Zbe.1 hb,e⟩
   by_cases e:b<P2.length
   .have:=gK b e;rw [Kget _ (s1 b hb)] at this;rw [this,Zbm]
   .have:=hvz b hb;rw [zh b (by omega)] at this;rw [this,Zbz]
  rw [hgu v hvl,qL λb hb=>by
   have:=hvz b (by omega);rw [zl b hb] at this;rw [this,Zbz],Rat.zero_add,hva] at e1
  grind
 obtain ⟨X,hX,hXb⟩:=fint (z a);have hX0:X≠0:=λe=>by
  have e1:=fin i0 (by omega);rw [hall,hX,e,show ((0:Int):Rat)=0 from rfl,Zbz] at e1;exact dH hx0 e1.symm
 refine ⟨X.natAbs,by omega,hXb,λc => ?_⟩;obtain ⟨Y,hY,hYb⟩:=fint c;refine zro (z:=Y) ?_ hYb;rw [<- hY,hall c,hX,Zge]
theorem Ge.szP {n j i:Nat} {E M:List (List Rat)} {P P2:List Nat} {li lr:List Rat} (hE:Ee n E P) (hP:P.length<=11) (h:Ge n ((frQ n P).map (rO n E P)) j M P2) (hj:j<n) (hi:P2.length<=i) (hli:M[i]? = some li) (hlr:M[P2.length]? = some lr) (hv:li.getD j 0≠0):zrx j i li lr M P2.length:=by
 have hkm:=(Zgw.1 hlr).1;have hlil:=h.gd.row _ (Zad hli);have oI:∀ l∈M,xg ZB (l.getD j 0):=λl hl=>by
  obtain ⟨a,ha⟩:=Zau.1 hl;have ham:=(Zgw.1 ha).1;have hla:M.getD a []=l:=by rw [Zaa,ha];rfl
  obtain ⟨t,t1,t2,t3⟩:=h.small hE hP ham;rw [<- hla];exact (t3 j).nm t1 t2
 have hml:(rX i P2.length j li lr M).length=M.length:=by unfold rX ay;rw [Zdl,Zan,Zan,Zan]
 have hrow:∀ q∈li.map (· * (li.getD j 0)⁻¹),xg ZB q:=λq hq=>by
  have hq':q∈yU (at' li j)⁻¹ li:=hq;obtain ⟨c,hc,rfl⟩:=dM hq';obtain ⟨t,t1,t2,t3⟩:=(h.piv hj hi hli hlr hv).small hE hP (a:=P2.length) (by rw [hml];exact hkm);have:=t3 c;rw [xH hkm,if_pos rfl] at this;exact this.nm t1 t2
 refine ⟨(oI li (Zad hli)).inv.qd (by decide),λq hq=>(hrow q hq).qd (by decide),λl hl q hq => ?_⟩;have hlj:xg ZB (l.getD j 0):=by
  rcases Zbc hl with e | e
  .rcases Zbc e with e | e
   .rcases Zbc e with e | e
    .exact oI l e
    .rw [e];exact oI _ (Zad hlr)
   .rw [e];exact oI _ (Zad hli)
  .rw [e];exact hrow _ (Zad (uE (q:=li.map (· * (li.getD j 0)⁻¹)) (j:=j) (by rw [Zah,hlil];exact hj)))
 exact (zfh hlj (hrow q hq)).qd (by decide)
structure Rr (n:Nat) (V:List Rat->Prop) (R:List (List Rat)) (p:List Nat):Prop where
 len:R.length=p.length
 row:∀ l∈R,l.length=n/\V l
 rng:∀ x∈p,x<n
 asc:p.Pairwise (· < ·)
 one:∀ a b,a<p.length->b<p.length->at' (R.getD a []) (p.getD b 0)=if a=b then 1 else 0
 lead:∀ a,a<p.length->∀ c,c<p.getD a 0->at' (R.getD a []) c=0
 none:∀ v:List Rat,v.length=n->V v->(∀ a,a<p.length->at' v (p.getD a 0)=0)->∀ c,at' v c=0
def zcn (v:List Rat) (R:List (List Rat)) (p:List Nat):Nat->List Rat
 | 0=>v
 | k+1=>jX (at' v (p.getD k 0)) (zcn v R p k) (R.getD k [])
theorem zh2 {n:Nat} {V:List Rat->Prop} {R:List (List Rat)} {p:List Nat} {v:List Rat} (hV:∀ (b:Rat) (x y:List Rat),x.length=n->y.length=n->V x->V y->V (jX b x y)) (h:Rr n V R p) (hv:v.length=n) (hvV:V v):∀ k,k<=p.length->(zcn v R p k).length=n/\V (zcn v R p k)/\∀ c,at' (zcn v R p k) c=at' v c-sR k λb=>at' v (p.getD b 0)*at' (R.getD b []) c
 | 0,_=>⟨hv,hvV,λc=>by show _=at' v c-0;rw [zcn];grind⟩
 | k+1,hk=>by
  obtain ⟨h1,h2,h3⟩:=zh2 hV h hv hvV k (by omega);have hlen:=h.len;obtain ⟨hr,hrV⟩:=h.row _ (yF (l:=R) (i:=k) (d:=[]) (by omega));refine ⟨by rw [zcn,gB (by rw [h1,hr])];exact h1,hV _ _ _ h1 hr h2 hrV,λc => ?_⟩;rw [zcn,gZ (by rw [h1,hr]),h3 c,sR];grind
theorem Rr.sub {n:Nat} {V:List Rat->Prop} {R R':List (List Rat)} {p p':List Nat} (hV:∀ (b:Rat) (x y:List Rat),x.length=n->y.length=n->V x->V y->V (jX b x y)) (h:Rr n V R p) (h':Rr n V R' p'):∀ x∈p,x∈p':=λx hx=>Classical.byContradiction λhx'=>by
 obtain ⟨a,ha⟩:=Zau.1 hx;have hal:=(Zgw.1 ha).1;have hpa:p.getD a 0=x:=by rw [Zaa,ha];rfl
 have hlen:=h.len;obtain ⟨hvl,hvV⟩:=h.row _ (yF (l:=R) (i:=a) (d:=[]) (by omega));obtain ⟨u1,u2,u3⟩:=zh2 hV h' hvl hvV p'.length (Zaf _)
 have z:=h'.none _ u1 u2 (λb hb=>by
  rw [u3,qM (i:=b) (x:=λc=>at' (R.getD a []) (p'.getD c 0)) λc hc => ?_,if_pos hb]
  .grind
  .rw [h'.one c b hc hb,Zge];by_cases e:c=b
   .rw [if_pos e,if_pos e.symm]
   .rw [if_neg e,if_neg (Ne.symm e)]) x
 rw [u3,qL λb hb => ?_] at z
 .have e1:=h.one a a hal hal;rw [hpa,if_pos rfl] at e1;rw [e1] at z
  grind
 .rcases Nat.lt_trichotomy (p'.getD b 0) x with q | q | q
  .rw [h.lead a hal _ (by rw [hpa];exact q),Zbz]
  .exact absurd (by rw [<- q];exact yF hb) hx'
  .rw [h'.lead b hb _ q,Zbm]
theorem vK {p:List Nat} {n:Nat} (h:p.Pairwise (· < ·)) (hr:∀ x∈p,x<n):p=(List.range n).filter λx=>decide (x∈p):=by
 refine List.Perm.eq_of_pairwise (le:=(· < ·)) (λa b _ _ h1 h2=>by omega) h ((List.pairwise_lt_range (n:=n)).sublist Zdp) ?_;refine ((List.perm_ext_iff_of_nodup (cC h) ((Zed (n:=n)).sublist Zdp)).2 λx => ?_);rw [Zcd,Zbe];exact ⟨λq=>⟨hr x q,by simpa using q⟩,λq=>by simpa using q.2⟩
theorem Rr.unique {n:Nat} {V:List Rat->Prop} {R R':List (List Rat)} {p p':List Nat} (hV:∀ (b:Rat) (x y:List Rat),x.length=n->y.length=n->V x->V y->V (jX b x y)) (h:Rr n V R p) (h':Rr n V R' p'):p=p'/\R=R':=by
 have ep:p=p':=by
  rw [vK h.asc h.rng,vK h'.asc h'.rng];exact Zfo λx _=>decide_eq_decide.2 ⟨h.sub hV h' x,h'.sub hV h x⟩
 refine ⟨ep,?_⟩;subst ep;have l1:=h.len;have l2:=h'.len;refine Zdc (by omega) λa h1 h2 => ?_;have g1:R.getD a []=R[a]:=by rw [Zaa,Zgv h1];rfl
 have g2:R'.getD a []=R'[a]:=by rw [Zaa,Zgv h2];rfl
 obtain ⟨r1,v1⟩:=h.row _ (Zat h1);obtain ⟨r2,v2⟩:=h'.row _ (Zat h2);have hll:R[a].length=R'[a].length:=by rw [r1,r2]
 have z:=h.none (jX 1 R[a] R'[a]) (by rw [gB hll];exact r1) (hV _ _ _ r1 r2 v1 v2) λb hb=>by
  rw [gZ hll,<- g1,<- g2,h.one a b (by omega) hb,h'.one a b (by omega) hb];grind
 refine Zdc hll λc c1 c2 => ?_;have e:=z c;rw [gZ hll] at e;have a1:at' R[a] c=R[a][c]:=by rw [at',Zaa,Zgv c1];rfl
 have a2:at' R'[a] c=R'[a][c]:=by rw [at',Zaa,Zgv c2];rfl
 rw [<- a1,<- a2]
 grind
abbrev aU (E:List (List Rat)) (v:List Rat):Prop:=∀ q∈E,dot q v=0
theorem zm1 {n:Nat} {E:List (List Rat)} (b:Rat) (x y:List Rat) (hx:x.length=n) (hy:y.length=n) (h1:aU E x) (h2:aU E y):aU E (jX b x y):=λq hq=>by
 rw [gF,uA _ _ _ _ (by rw [hx,hy]),gF,h1 q hq,gF,h2 q hq];grind
theorem Ge.fin {n j:Nat} {E M:List (List Rat)} {P P2:List Nat} (hE:Ee n E P) (h:Ge n ((frQ n P).map (rO n E P)) j M P2) (he:j=n\/P2.length=M.length):Rr n (aU E) (M.take P2.length) P2/\P2.length=M.length:=by
 have hKl:((frQ n P).map (rO n E P)).length=(frQ n P).length:=Zah ..;have hml:=h.ml;rw [hKl] at hml;have hg:=h.gd;have hpm:=hg.pm;obtain ⟨s,s1,s2,s3,s4⟩:=h.per;rw [hKl] at s1 s2 s4;have Kget:∀ b,b<(frQ n P).length->((frQ n P).map (rO n E P)).getD b []=rO n E P ((frQ n P).getD b 0):=λb hb=>zjs hb;have Fm:∀ b,b<(frQ n P).length->(frQ n P).getD b 0<n/\(frQ n P).getD b 0∉P:=λb hb=>fJ.1 (yF hb);have rowl:∀ b,b<M.length->(M.getD b []).length=n:=λb hb=>hg.row _ (yF hb);have hjn:=hg.jw;have hfull:P2.length=M.length:=by
  rcases he with he | he
  case inr=>exact he
  refine Classical.byContradiction λq => ?_;have hk:P2.length<(frQ n P).length:=by omega
  have f1:=Fm _ (s1 _ hk);have kF:∀ b,b<(frQ n P).length->dot (((frQ n P).map (rO n E P)).getD (s b) []) (uD n ((frQ n P).getD (s P2.length) 0))=if b=P2.length then 1 else 0:=λb hb=>by
   rw [Kget _ (s1 b hb),qU (wR ..) f1.1,zwx f1.2];by_cases e:b=P2.length
   .rw [if_pos e,if_pos ⟨by rw [e],f1.1⟩]
   .rw [if_neg e,if_neg λw => ?_];exact c5 (xN n P) (s1 b hb) (s1 _ hk) (λw2=>e (s2 b _ hb hk w2)) w.1
  have kill:=(s3 _ (gV n ((frQ n P).getD (s P2.length) 0))).2 λb hb=>by rw [kF b (by omega),if_neg (by omega)]
  have e:=s4 P2.length (Zaf _) hk _ (gV ..) kill;rw [kF _ hk,if_pos rfl,qU (rowl _ (by omega)) f1.1,hg.zer _ (Zaf _) _ (by omega)] at e;exact absurd e (by decide)
 have g:∀ a,a<P2.length->(M.take P2.length).getD a []=M.getD a []:=λa ha=>by
  rw [Zaa,Zhe ha,<- Zaa]
 refine ⟨⟨by rw [Zai];omega,λl hl => ?_,λx hx=>Zck (hg.rng x hx) hjn,hg.asc,λa b ha hb=>by rw [g a ha];exact hg.one a b ha hb,λa ha c hc=>by rw [g a ha];exact hg.lead a ha c hc,λv hvl hvE hv0 j0 => ?_⟩,hfull⟩
 .have hlM:=Zbx hl;refine ⟨hg.row l hlM,λq hq => ?_⟩;obtain ⟨a,ha⟩:=Zau.1 hlM;have ham:=(Zgw.1 ha).1;have hla:M.getD a []=l:=by rw [Zaa,ha];rfl
  have hql:=hE.row q hq;have hk:∀ b,b<(frQ n P).length->dot (((frQ n P).map (rO n E P)).getD (s b) []) q=0:=λb hb=>by
   rw [Kget _ (s1 b hb),gF];exact zr4 hE (Fm _ (s1 b hb)).1 (Fm _ (s1 b hb)).2 q hq
  rw [<- hla,gF];exact (s3 q hql).2 (λb hb=>hk b (by omega)) a (by omega)
 .by_cases hj0:j0<n
  case neg=>exact jV (by omega)
  obtain ⟨g',hgd⟩:∃ g',g'=plF n (og P2.length P2 j0) (λb=>if b<P2.length then -(at' (M.getD b []) j0) else 1) (P2.length+1):=⟨_,rfl⟩;have hgl:g'.length=n:=by rw [hgd];exact kH _
  have hgu:∀ u:List Rat,u.length=n->dot u g'=(sR P2.length λb=>at' u (P2.getD b 0) * -(at' (M.getD b []) j0))+at' u j0:=λu hu=>by
   rw [hgd,qP hu _ λi hi => ?_,sR]
   .congr 1
    .refine jI λb hb => ?_;rw [og,if_pos hb];show _*(if b<P2.length then _ else _)=_;rw [if_pos hb]
    .rw [og,if_neg (Zci _)];show _*(if P2.length<P2.length then _ else _)=_;rw [if_neg (Zci _),Rat.mul_one]
   .unfold og;split
    .rename_i hb;have:=hg.rng _ (yF (l:=P2) (i:=i) (d:=0) hb);omega
    .exact hj0
  have gM:∀ b,b<P2.length->dot (M.getD b []) g'=0:=λb hb=>by
   rw [hgu _ (rowl b (by omega)),qM (i:=b) (x:=λb => -(at' (M.getD b []) j0)) λb' hb'=>by rw [hg.one b b' hb hb'],if_pos hb]
   grind
  have gK:=(s3 g' hgl).1 gM;have e1:dot v g'=0:=by
   rw [zln hE hvl hgl hvE];refine qL λi hi => ?_;obtain ⟨b,hb,rfl⟩:∃ b,b<(frQ n P).length/\s b=i:=by
    have hsn:((List.range (frQ n P).length).map s).Nodup:=Zgu.2 (List.Pairwise.imp_of_mem (λ{x y} hx hy hne e=>hne (s2 x y (Zbe.1 hx) (Zbe.1 hy) e)) (Zed (n:=(frQ n P).length)))
    have hp:=xZ (l:=(List.range (frQ n P).length).map s) (r:=List.range (frQ n P).length) hsn (λy hy=>by
     obtain ⟨b,hb,rfl⟩:=Zar.1 hy;exact Zbe.2 (s1 b (Zbe.1 hb))) (by simp)
    obtain ⟨b,hb,e⟩:=Zar.1 (hp.mem_iff.1 (Zbe.2 hi));exact ⟨b,Zbe.1 hb,e⟩
   have:=gK b (by omega);rw [Kget _ (s1 b hb)] at this;rw [this,Zbm]
  rw [hgu v hvl,qL λb hb=>by rw [hv0 b hb,Zbz],Rat.zero_add] at e1;exact e1
end Go.Ev
namespace Go.Ev
open Go Go.Proofs
variable {B:Nat}
abbrev Szr (R:List (List Rat)):Prop:=∀ l∈R,∀ q∈l,xg ZB q
theorem zur {n:Nat} {E:List (List Rat)} {P:List Nat} (hE:Ee n E P) (hP:P.length<=11) (hn1:1<=n) (hn:n<=1000):Pure Tryz.prog B 190 [jK ((frQ n P).map (rO n E P))] (λv=>∃ R y,((∃ p,Rr n (aU E) R p)/\Szr R)/\v=.tup [jK R,y]):=by
 have hrow:∀ l∈(frQ n P).map (rO n E P),l.length=n:=λl hl=>by obtain ⟨x,_,rfl⟩:=Zar.1 hl;exact wR ..
 intro p h nx K hK;by_cases h0:(frQ n P).length=0
 .have e0:(frQ n P).map (rO n E P)=[]:=by rw [Zch.1 h0];rfl
  have hfin:=(Ge.start hrow).fin hE (.inr (by rw [e0];rfl));rw [e0];refine bM p h nx K ?_;rintro v rfl hf;refine hK _ ⟨[],_,⟨⟨[],?_⟩,λ_ q=>nomatch q⟩,rfl⟩ hf;have:=hfin.1;rw [e0] at this;exact this
 have hfl:=vC n P;have sz:∀ {j:Nat} {M:List (List Rat)} {P2:List Nat},Ge n ((frQ n P).map (rO n E P)) j M P2->Szr M:=λ{j M P2} hg l hl q hq=>by
  obtain ⟨a,ha⟩:=Zau.1 hl;have ham:=(Zgw.1 ha).1;have hla:M.getD a []=l:=by rw [Zaa,ha];rfl
  obtain ⟨t,t1,t2,t3⟩:=hg.small hE hP ham;obtain ⟨c,hc,rfl⟩:=dM hq;rw [<- hla];exact (t3 c).nm t1 t2
 refine bN (λj M P2=>Ge n ((frQ n P).map (rO n E P)) j M P2) hn1 hn (by rw [Zah];omega) (by rw [Zah];omega) hrow (Ge.start hrow) (λj M P2 hg cj cP hm l hl q hq=>(sz hg l hl q hq).qd (by decide)) (λj M P2 hg cj _ _ hz=>hg.skip cj hz) (λj M P2 i li lr hg cj cP hi hm hli hlr hv=>⟨hg.piv cj hi hli hlr hv,hg.szP hE hP cj hi hli hlr hv⟩) p h nx K ?_
 .rintro v ⟨j,M,P2,hg,hm,_,he,rfl⟩ hf;obtain ⟨f1,f2⟩:=hg.fin hE he;exact hK _ ⟨_,_,⟨⟨P2,f1⟩,λl hl=>sz hg l (Zbx hl)⟩,rfl⟩ hf
theorem Gd.kerE {w j:Nat} {M0 M:List (List Rat)} {P:List Nat} (h:Gd w M0 j M P) (he:j=w\/P.length=M.length) {v:List Rat} (hv:v.length=w):aU (M.take P.length) v↔aU M0 v:=by
 constructor
 .intro hk;refine h.full v hv λl hl => ?_;obtain ⟨a,ha⟩:=Zau.1 hl;have ham:=(Zgw.1 ha).1;have hla:M.getD a []=l:=by rw [Zaa,ha];rfl
  by_cases e:a<P.length
  .refine hk l (Zad (i:=a) ?_);rw [Zhe e,ha]
  .have hw:j=w:=by omega
   refine mZ _ _ λc => ?_;by_cases hc:c<w
   .rw [<- hla];exact h.zer a (by omega) c (by omega)
   .exact jV (by rw [h.row l hl];omega)
 .intro hk q hq;obtain ⟨O,hol,hom,hker,_⟩:=h.org;obtain ⟨a,ha⟩:=Zau.1 hq;have hal:=(Zgw.1 ha).1;rw [Zai] at hal;rw [Zhe (by omega)] at ha;have hla:M.getD a []=q:=by rw [Zaa,ha];rfl
  rw [<- hla];exact hker v hv (λo ho=>hk o (hom o ho)) a (by omega)
theorem Rr.congr {n:Nat} {V W:List Rat->Prop} {R:List (List Rat)} {p:List Nat} (h:Rr n V R p) (e:∀ v:List Rat,v.length=n->(V v↔W v)):Rr n W R p :=
 ⟨h.len,λl hl=>⟨(h.row l hl).1,(e l (h.row l hl).1).1 (h.row l hl).2⟩,h.rng,h.asc,h.one,h.lead,λv hv hw=>h.none v hv ((e v hv).2 hw)⟩
theorem zus {M0:List (List Rat)} {n:Nat} (hS:SmP M0) (hsg:∀ o∈M0,o.length=n/\∀ c,Sg (at' o c)) (hn1:1<=n) (hn:n<=1000) (hM:M0.length<=11):Pure Tryz.prog B 101 [jK M0,I (n:Int)] (λv=>∃ R p,Rr n (aU M0) R p/\Szr R/\v=jK R):=by
 refine zm0 (QP:=λE P=>Ee n E P/\P.length<=11/\(∀ v:List Rat,v.length=n->(aU E v↔aU M0 v))/\∀ l∈E,∀ q∈l,Qd q) hn1 hn ?_ ?_ ?_
 .intro B p h nx K hK;by_cases h0:M0.length=0
  .obtain rfl:=Zch.1 h0;refine bM p h nx K ?_;rintro v rfl hf;have hg:Gd n ([]:List (List Rat)) 0 [] []:=Gd.start (by simp);exact hK _ ⟨[],[],⟨hg.ee hS hsg,by decide,λ_ _=>Iff.rfl,by simp⟩,rfl⟩ hf
  .refine zuq hS hsg hn1 hn (by omega) (by omega) (.inr hM) p h nx K ?_;rintro v ⟨j,M,P,hg,hm,he,rfl⟩ hf;have hpm:=hg.pm;exact hK _ ⟨_,P,⟨hg.ee hS hsg,by omega,λv hv=>hg.kerE he hv,λl hl q hq=>(hg.sz hS hsg (by omega) l (Zbx hl) q hq).qd (by decide)⟩,rfl⟩ hf
 .rintro E P ⟨h1,h2,_,h4⟩;exact ⟨h1.len,by omega,λl hl=>⟨h1.row l hl,h4 l hl⟩,h1.rng⟩
 .rintro B E P ⟨h1,h2,h3,_⟩ p h nx K hK;refine zcl (Q:=λR=>(∃ p,Rr n (aU E) R p)/\Szr R) (zur h1 h2 hn1 hn) p h nx K ?_;rintro v ⟨R,⟨⟨q,hR⟩,hz⟩,rfl⟩ hf;exact hK _ ⟨⟨R,q,hR.congr h3,hz,rfl⟩,pW R⟩ hf
abbrev oJ (n:Nat) (lines:List (List Int)) (i:Nat):List Rat:=jX 1 (liQ n lines i) (liQ n lines 0)
def tX (n:Nat) (lines:List (List Int)):List (List Rat):=(List.range (lines.length-1)).map λi=>oJ n lines (i+1)
theorem zfj (n:Nat) (lines:List (List Int)) (i c:Nat):at' (oJ n lines i) c=at' (liQ n lines i) c-at' (liQ n lines 0) c:=by
 rw [gZ (by rw [yR,yR])];grind
theorem zlo {n:Nat} {lines:List (List Int)}:∀ o∈tX n lines,o.length=n/\∀ c,Sg (at' o c):=λo ho=>by
 obtain ⟨i,_,rfl⟩:=Zar.1 ho;refine ⟨by rw [gB (by rw [yR,yR]),yR],λc => ?_⟩;rw [zfj];have g:∀ x y:Rat,(x=0\/x=1)->(y=0\/y=1)->Sg (x-y):=λx y hx hy=>by
  rcases hx with e | e <;> rcases hy with f | f
  .exact .inr (.inl (by rw [e,f];grind))
  .exact .inl (by rw [e,f];grind)
  .exact .inr (.inr (by rw [e,f];grind))
  .exact .inr (.inl (by rw [e,f];grind))
 exact g _ _ (wT ..) (wT ..)
theorem zr7 {n:Nat} {lines:List (List Int)}:SmP (tX n lines):=by
 intro O c hO hl;have hix:∀ o∈O,∃ i,o=oJ n lines i:=λo ho=>by
  obtain ⟨i,_,rfl⟩:=Zar.1 (hO o ho);exact ⟨i+1,rfl⟩
 obtain ⟨g,hg⟩:∃ g:Nat->Nat,∀ i,i<O.length->O.getD i []=oJ n lines (g i):=by
  refine ⟨λi=>if h:i<O.length then (hix _ (yF (l:=O) (i:=i) (d:=[]) h)).choose else 0,λi hi => ?_⟩;show _=oJ n lines (if h:i<O.length then _ else 0);rw [dif_pos hi];exact (hix _ (yF (l:=O) (i:=i) (d:=[]) hi)).choose_spec
 have b01:∀ i c,(if at' (liQ n lines i) c=1 then (1:Int) else 0)=0\/(if at' (liQ n lines i) c=1 then (1:Int) else 0)=1:=λi c=>by
  split
  .exact .inr rfl
  .exact .inl rfl
 obtain ⟨x,h1,h2,h3⟩:=zul hl (λj=>if at' (liQ n lines 0) (c j)=1 then 1 else 0) (λj=>b01 0 (c j)) (λi j=>if at' (liQ n lines (g i)) (c j)=1 then 1 else 0) λi j=>b01 (g i) (c j);refine ⟨x,h1,h2,λo ho => ?_⟩;obtain ⟨i,hi⟩:=Zau.1 ho;have hil:=(Zgw.1 hi).1;have hio:O.getD i []=o:=by rw [Zaa,hi];rfl
 have e:=h3 i hil;rw [show (0:Rat)=((0:Int):Rat) from rfl,<- e,<- cX];refine jI λj _ => ?_;rw [Zei,<- hio,hg i hil,zfj]
 congr 1
 have c01:∀ i c,at' (liQ n lines i) c=(((if at' (liQ n lines i) c=1 then (1:Int) else 0):Int):Rat):=λi c=>by
  rcases wT n (lines.getD i []) c with q | q
  .show at' (sP n (lines.getD i [])) c=(((if at' (sP n (lines.getD i [])) c=1 then (1:Int) else 0):Int):Rat);rw [q,if_neg (by decide)];rfl
  .show at' (sP n (lines.getD i [])) c=(((if at' (sP n (lines.getD i [])) c=1 then (1:Int) else 0):Int):Rat);rw [q,if_pos rfl];rfl
 rw [Rat.intCast_sub,<- c01,<- c01]
end Go.Ev
namespace Go.Ev
open Go Go.Proofs
variable {B:Nat}
set_option maxRecDepth 100000
theorem zut {n:Nat} {V:List Rat->Prop} {R:List (List Rat)} {p:List Nat} (h:Rr n V R p) (hz:Szr R) (hn1:1<=n) (hn:n<=1000) (hR:R.length<=1000):Pure Tryz.prog B 190 [jK R] (λv=>∃ R2 y,R2=R/\v=.tup [jK R2,y]):=by
 intro q h0 nx K hK;have hlen:=h.len;by_cases e0:R.length=0
 .obtain rfl:=Zch.1 e0;refine bM q h0 nx K ?_;rintro v rfl hf;exact hK _ ⟨[],_,rfl,rfl⟩ hf
 have pasc:∀ {a b:Nat},a<b->b<p.length->p.getD a 0<p.getD b 0:=λ{a b} hab hb=>by
  have:=Zff.1 h.asc a b (by omega) hb hab;rw [Zaa,Zaa,Zgv (show a<p.length by omega),Zgv hb];exact this
 have qd:∀ {x:Rat},xg ZB x->Qd x:=λhx=>hx.qd (by decide);have lk:∀ {k:Nat},k<=p.length->(p.take k).length=k:=λhk=>by rw [Zai];omega
 refine bN (λj M P=>M=R/\∃ k,k<=p.length/\P=p.take k/\(∀ a,a<k->p.getD a 0<j)/\∀ a,k<=a->a<p.length->j<=p.getD a 0) hn1 hn (by omega) hR (λl hl=>(h.row l hl).1) ⟨rfl,0,Zdx _,rfl,by simp,by simp⟩ ?_ ?_ ?_ q h0 nx K ?_
 .rintro j M P ⟨rfl,_⟩ _ _ _ l hl q hq;exact qd (hz l hl q hq)
 .rintro j M P ⟨rfl,k,hk,rfl,h1,h2⟩ cj cP _ hzero;rw [lk hk] at hzero;refine ⟨rfl,k,hk,rfl,λa ha=>Zfr (h1 a ha),λa ha hal => ?_⟩;have h3:=h2 a ha hal;refine Nat.lt_of_le_of_ne h3 λe => ?_;have z:=hzero a _ ha (j7 (d:=[]) (show a<M.length by omega));have o:=h.one a a hal hal;rw [if_pos rfl,<- e] at o;have z':at' (M.getD a []) j=0:=z;rw [z'] at o;exact absurd o (by decide)
 .rintro j M P i li lr ⟨rfl,k,hk,rfl,h1,h2⟩ cj cP hi _ hli hlr hv;rw [lk hk] at hi hlr cP ⊢;have hil:=(Zgw.1 hli).1;have gi:M.getD i []=li:=by rw [Zaa,hli];rfl
  have hpi:p.getD i 0=j:=by
   have a1:=h2 i hi (by omega);refine Nat.le_antisymm (Zea λq=>hv ?_) a1;have:=h.lead i (by omega) j q
   rwa [gi] at this
  obtain rfl:i=k:=by
   refine Nat.le_antisymm (Zea λq => ?_) hi;have a1:=h2 k (Zaf _) (by omega);have a2:=pasc q (by omega);omega
  obtain rfl:li=lr:=Option.some.inj (hli.symm.trans hlr);have one:li.getD j 0=1:=by
   have:=h.one i i (by omega) (by omega);rw [if_pos rfl,hpi,gi] at this;exact this
  have hinv:((1:Rat))⁻¹=1:=by grind
  have hsc:yU (at' li j)⁻¹ li=li:=by
   rw [show at' li j=1 from one,hinv];refine Zdc (u9 ..) λc c1 c2 => ?_;have e1:at' (yU 1 li) c=at' li c*1:=kE ..;have a1:at' (yU 1 li) c=(yU 1 li)[c]:=by rw [at',Zaa,Zgv c1];rfl
   have a2:at' li c=li[c]:=by rw [at',Zaa,Zgv c2];rfl
   rw [<- a1,<- a2,e1];grind
  have hsc2:li.map (· * (li.getD j 0)⁻¹)=li:=hsc;have hml:(rX i i j li li M).length=M.length:=by unfold rX ay;rw [Zdl,Zan,Zan,Zan]
  have hM:rX i i j li li M=M:=by
   refine Zdc hml λa h3 h4 => ?_;have g1:(rX i i j li li M).getD a []=(rX i i j li li M)[a]:=by rw [Zaa,Zgv h3];rfl
   have g2:M.getD a []=M[a]:=by rw [Zaa,Zgv h4];rfl
   rw [<- g1,<- g2,xH h4,hsc];by_cases e:a=i
   .rw [if_pos e,e,gi]
   .have hsw:swR i i li li M a=M.getD a []:=by unfold swR;rw [if_neg e,if_neg e]
    rw [if_neg e,hsw];have z:=h.one a i (by omega) (by omega);rw [if_neg e,hpi] at z;rw [z];have hll:(M.getD a []).length=li.length:=by rw [(h.row _ (yF (l:=M) (i:=a) (d:=[]) h4)).1,(h.row _ (Zad hli)).1]
    refine Zdc (gB hll) λc c1 c2 => ?_;have e1:at' (jX 0 (M.getD a []) li) c=at' (M.getD a []) c-0*at' li c:=gZ hll c;have a1:at' (jX 0 (M.getD a []) li) c=(jX 0 (M.getD a []) li)[c]:=by rw [at',Zaa,Zgv c1];rfl
    have a2:at' (M.getD a []) c=(M.getD a [])[c]:=by rw [at',Zaa,Zgv c2];rfl
    rw [<- a1,<- a2,e1];grind
  refine ⟨⟨hM,i+1,by omega,?_,λa ha => ?_,λa ha hal => ?_⟩,?_,?_,?_⟩
  .rw [Zaq,j7 (d:=0) (show i<p.length by omega),hpi];rfl
  .by_cases e:a=i
   .rw [e,hpi];omega
   .exact Zfr (h1 a (by omega))
  .have:=pasc (a:=i) (b:=a) (by omega) hal;omega
  .rw [one,hinv];exact ⟨by decide,by decide⟩
  .rw [hsc2];exact λq hq=>qd (hz li (Zad hli) q hq)
  .rw [hsc2];intro l hl q hq;have hlM:l∈M:=by
    rcases Zbc hl with e | e
    .rcases Zbc e with e | e
     .rcases Zbc e with e | e
      .exact e
      .rw [e];exact Zad hli
     .rw [e];exact Zad hli
    .rw [e];exact Zad hli
   have hlj:xg ZB (l.getD j 0):=hz l hlM _ (Zad (uE (q:=l) (j:=j) (by rw [(h.row l hlM).1];exact cj)));exact (zfh hlj (hz li (Zad hli) q hq)).qd (by decide)
 .rintro v ⟨j,M,P,⟨rfl,k,hk,rfl,h1,h2⟩,_,_,he,rfl⟩ hf;rw [lk hk] at he;have hke:k=M.length:=by
   rcases he with he | he
   .refine Classical.byContradiction λq => ?_;have a1:=h2 k (Zaf _) (by omega);have a2:=h.rng _ (yF (l:=p) (i:=k) (d:=0) (by omega));omega
   .exact he
  refine hK _ ⟨_,_,?_,rfl⟩ hf;rw [lk hk,hke,Zcu]
theorem Sg.qd {x:Rat} (h:x=0\/x=1):Qd x:=by
 rcases h with rfl | rfl
 .exact ⟨by decide,by decide⟩
 .exact ⟨by decide,by decide⟩
def oh (l l0:List Rat):Nat->List Rat
 | 0=>l
 | k+1=>(oh l l0 k).set k (at' l k-at' l0 k)
theorem vY (l l0:List Rat):∀ k,(oh l l0 k).length=l.length
 | 0=>rfl
 | k+1=>by rw [oh,Zan,vY l l0 k]
theorem zfk (l l0:List Rat) (c:Nat):∀ k,k<=l.length->at' (oh l l0 k) c=if c<k then at' l c-at' l0 c else at' l c
 | 0,_=>by rw [if_neg (by omega)];rfl
 | k+1,hk=>by
  by_cases e:k=c
  .subst e;rw [if_pos (by omega),oh,at',Zaa,Zhc (by rw [vY];omega)];rfl
  .rw [oh,at',Zaa,Zhd e,<- Zaa];show at' (oh l l0 k) c=_;rw [zfk l l0 c k (by omega)];by_cases q:c<k
   .rw [if_pos q,if_pos (by omega)]
   .rw [if_neg q,if_neg (by omega)]
theorem zr8 (n:Nat) (lines:List (List Int)) (i:Nat):oh (liQ n lines i) (liQ n lines 0) n=oJ n lines i:=by
 have hl:(oh (liQ n lines i) (liQ n lines 0) n).length=(oJ n lines i).length:=by rw [vY,gB (by rw [yR,yR])]
 refine Zdc hl λc c1 c2 => ?_;have e:=zfk (liQ n lines i) (liQ n lines 0) c n (by rw [yR];exact Zaf _);rw [vY,yR] at c1;rw [if_pos c1,<- zfj] at e;have a1:at' (oh (liQ n lines i) (liQ n lines 0) n) c=(oh (liQ n lines i) (liQ n lines 0) n)[c]:=by rw [at',Zaa,Zgv];rfl
 have a2:at' (oJ n lines i) c=(oJ n lines i)[c]:=by rw [at',Zaa,Zgv c2];rfl
 rw [<- a1,<- a2,e]
theorem zco {n:Nat} {lines:List (List Int)} (hn1:1<=n) (hn:n<=256) (hl:lines.length<=12) (hll:∀ l∈lines,l.length<=256) (hr:∀ l∈lines,∀ c∈l,0<=c/\c<(n:Int)):Pure Tryz.prog B 26 [.agg [I (n:Int),uf lines]] (λv=>∃ R p,Rr n (aU (tX n lines)) R p/\v=jK R):=by
 refine zT λh nx K H0 hK=>zL zN yC 1000 λhf => ?_;have dl:(tX n lines).length=lines.length-1:=by rw [tX,Zah,Zcz]
 rw [F26.go,F26.t35,zA,F26.zu];refine H0.box (l:=[I (n:Int),uf lines]) rfl λbx h1 nx1 H1 => ?_;rw [zA,F26.zo,zA,zA,F26.yw,zI];refine F26.qac (λm x3 x4 h' nx'=>∃ (i:Nat) (o:Option Pa) (rs:List Pa),x3=uw o 1 rs.length/\x4=I ((i+1:Nat):Int)/\m+i=lines.length-1/\rs.length=i/\Hp h h' nx' (.gro o 1 rs.length (rs.map (rv9 n))::(jU rs ((tX n lines).take i)++[Ob.arr bx [I (n:Int),uf lines]]))) (m:=lines.length-1) (by omega) ⟨0,none,[],rfl,rfl,rfl,rfl,H1.ax 1⟩ ?_;rintro m z3 z4 z5 z6 z7 z8 z9 h3 nx3 R ⟨i,o,rs,rfl,rfl,hm,hrs,H3⟩ hR;have rl:(jU rs ((tX n lines).take i)).length=i:=by unfold jU;rw [Zdo,Zai,dl];omega
 have tl:∀ X:List Ob,(X++(.gro o 1 rs.length (rs.map (rv9 n))::(jU rs ((tX n lines).take i)++[Ob.arr bx [I (n:Int),uf lines]])))[X.length+(1+i)]? = some (.arr bx [I (n:Int),uf lines]):=λX=>by
  rw [Zgy (by omega),Zct,Zdh,Zhl,Zgy (by omega),rl,Zcw];rfl
 have a1:∀ op:AV->OP,zG (.ptr bx (0+1)) h3 op=op (uf lines):=λop=>H3.load (i:=0+1) (tl []) rfl;rw [F26.t27,zA,zA,F26.vk,sFx,a1,zW,jf,zB,F26.v8];by_cases ci:i<lines.length-1
 .have hxi:lines[i+1]? = some (lines.getD (i+1) []):=j7 (by omega);have hx0:lines[0]? = some (lines.getD 0 []):=j7 (by omega);have m1:=yF (l:=lines) (i:=i+1) (d:=[]) (by omega);have m0:=yF (l:=lines) (i:=0) (d:=[]) (by omega);have w1:=hll _ m1;have w0:=hll _ m0;rw [Zac (by omega),zC,zE,zA,zI,zA,F26.uy,H3.zm (n:=2) (tl []) rfl];refine zh0 H3 hxi (hr _ m1) hn1 (by omega) (by omega) λid5 h4 nx4 H4 => ?_;rw [zA,F26.fF,H4.zm (n:=2) (tl [_]) rfl];refine zh0 (i:=0) H4 hx0 (hr _ m0) hn1 (by omega) (by omega) λid6 h5 nx5 H5 => ?_;have H5:=H5.perm (.swap _ _ _);rw [zA,zA,F26.fU,zI];refine F26.qab (λq x7 h' nx'=>∃ k:Nat,x7=I (k:Int)/\q+k=n/\nx'=nx5/\Hp h h' nx5 (.gro (some id5) 1 n ((oh (liQ n lines (i+1)) (liQ n lines 0) k).map T9)::.gro (some id6) 1 n ((liQ n lines 0).map T9)::.gro o 1 rs.length (rs.map (rv9 n))::(jU rs ((tX n lines).take i)++[Ob.arr bx [I (n:Int),uf lines]]))) (m:=n) (by omega) ⟨0,rfl,rfl,rfl,H5⟩ ?_;rintro q y7 y9 h6 nx6 R2 ⟨k,rfl,hq,rfl,H6⟩ hR2;rw [F26.t16,zA,zA,F26.nu,yI,jf,zB,F26.v9];by_cases ck:k<n
  .have hml:(oh (liQ n lines (i+1)) (liQ n lines 0) k).length=n:=by rw [vY,yR]
   have hc5:((oh (liQ n lines (i+1)) (liQ n lines 0) k).map T9)[k]? = some (T9 (at' (liQ n lines (i+1)) k)):=by
    rw [Zgx,uE (by rw [hml];exact ck),zfk _ _ _ _ (by rw [yR];omega),if_neg (Zci _)];rfl
   have hc6:((liQ n lines 0).map T9)[k]? = some (T9 (at' (liQ n lines 0) k)):=by rw [Zgx,uE (by rw [yR];exact ck)];rfl
   rw [Zac (by omega),zC,zE,zA,zI,F26.rH,zd1 (j:=k) rfl ck,H6.zkl (k:=0) rfl hc5,zd1 (j:=k) rfl ck,H6.zkl (k:=1) rfl hc6];refine zq3 (Sg.qd (wT ..)) (Sg.qd (wT ..)) _ _ _ _ ?_;rintro _ rfl _;simp only [zH];rw [zd1 (j:=k) rfl ck];refine H6.oD (k:=0) (i:=k) rfl (by rw [Zah,hml];exact ck) rfl λh7 H7 => ?_;rw [F26.rG,jo (by omega)];refine hR2 (q-1) _ _ _ _ (by omega) ⟨k+1,by congr 1,by omega,rfl,?_⟩;rw [oh,Zer];exact H7
  obtain rfl:k=n:=by omega
  have H6:Hp h h6 nx6 _:=H6;rw [zr8] at H6;have H7:=(H6.perm (.swap _ _ _)).drop.oQ.perm (.swap _ _ _);rw [Zab (by omega),zD,zX,yD,F26.aI];refine H7.oH (v:=rv9 k id5) (by omega) (by decide) rfl rfl λo' h8 nx8 H8 => ?_;rw [F26.zfy,jo (by omega)];refine hR (m-1) _ _ _ _ _ _ _ _ _ (by omega) ⟨i+1,o',rs++[id5],by rw [Zae];rfl,by congr 1,by omega,by rw [Zae,hrs];rfl,?_⟩;have hd:(tX k lines)[i]? = some (oJ k lines (i+1)):=by rw [tX,Zgx,Zhs ci];rfl
  rw [Zaq,hd,Zcm,vT (by rw [hrs,Zai,dl];omega),Zbh,Zae];rw [Zcg];exact H8.perm ((Zdq (a:=Ob.arr id5 ((oJ k lines (i+1)).map T9)) (l₁:=jU rs ((tX k lines).take i)) (l₂:=[Ob.arr bx [I (k:Int),uf lines]])).symm.cons _)
 have hie:i=lines.length-1:=by omega
 have htk:(tX n lines).take i=tX n lines:=Zak (by omega);rw [htk] at H3 tl;have b0:∀ op:AV->OP,zG (.ptr bx (0+0)) h3 op=op (I (n:Int)):=λop=>H3.load (i:=0+0) (tl []) rfl;rw [Zab (by omega),zD,zX,yD,zA,F26.znl,sFx,b0];have fin:∀ {hh:Ev.T Blk} {L:List Ob},Hp h hh nx3 L->(CS Tryz.prog B).fn 101 (.of 101) [jK (tX n lines),I (n:Int)] hh nx3 (λv3 h4 n5=>(CS Tryz.prog B).fn 100 (.of 100) [v3] h4 n5 λv6 h7 n8=>IR.run .ret (CS Tryz.prog B) 1000 (fnO F26.res K) (zi F26.res K) (F26.fr (.agg [I (n:Int),uf lines]) (.ptr bx 0) v6 (uw o 1 rs.length) (I ((i+1:Nat):Int)) z5 z6 z7 (.bool false) z9) h7 n8)=.ok True:=by
  intro hh L HH;refine zus zr7 zlo hn1 (by omega) (by omega) _ _ _ _ ?_;rintro _ ⟨R1,p,hR1,hz,rfl⟩ _;have hpl:p.length<=n:=by
   rw [vK hR1.asc hR1.rng];exact Zax (Zep ..) (by rw [Zcz];exact Zaf _)
  have hlen:=hR1.len;refine zcl (zut hR1 hz hn1 (by omega) (by omega)) _ _ _ _ ?_;rintro _ ⟨_,rfl,rfl⟩ _;simp only [zF,zO];rw [F26.ret];exact hK _ _ _ _ _ HH (zS (pW _)) ⟨_,p,hR1,rfl⟩
 by_cases h0:rs.length=0
 .obtain rfl:rs=[]:=Zch.1 h0;have e0:tX n lines=[]:=Zch.1 (by rw [dl,<- hie,<- hrs];rfl);rw [e0] at fin;obtain ⟨h',k1,H',fz⟩:=H3.zi3 (by simp);exact dQ k1 (.cons fz (.cons (.int _ _) .nil)) (fin H')
 .obtain ⟨tid,rfl⟩:∃ id,o=some id:=by
   cases o with
   | none=>obtain ⟨_,hz⟩:=H3.own _ (Zaj ..);omega
   | some id=>exact ⟨id,rfl⟩
  have HP:PM h h3 nx3 tid rs n [.arr bx [I (n:Int),uf lines]] (tX n lines):=⟨by rw [dl,hrs,hie],λl hl=>(zlo l hl).1,H3.oQ⟩;obtain ⟨h',k1,H',n1,n2⟩:=HP.zww;have fz:=zff HP (Zaf _) n1 n2;rw [Zcu,dl,<- hie,<- hrs] at fz;exact dQ k1 (.cons fz (.cons (.int _ _) .nil)) (fin H')
end Go.Ev
namespace Go.Ev
open Go Go.Proofs
theorem zlp {n:Nat} {lines:List (List Int)} {f:List Rat} (hf:f.length=n):aU (tX n lines) f↔Mgf n lines f:=by
 have d:∀ i,dot (oJ n lines i) f=dot (liQ n lines i) f-dot (liQ n lines 0) f:=λi=>by
  unfold oJ;rw [uA _ _ _ _ (by rw [yR,yR])];grind
 constructor
 .intro h;refine ⟨hf,λl hl => ?_⟩;obtain ⟨i,hi⟩:=Zau.1 hl;have hil:=(Zgw.1 hi).1;have hli:lines.getD i []=l:=by rw [Zaa,hi];rfl
  rw [<- hli];cases i with
  | zero=>rfl
  | succ i =>
   have e:=h (oJ n lines (i+1)) (Zar.2 ⟨i,Zbe.2 (by omega),rfl⟩);rw [d] at e;have e2:dot (liQ n lines (i+1)) f=dot (liQ n lines 0) f:=by grind
   exact e2
 .rintro ⟨_,h⟩ q hq;obtain ⟨i,hi,rfl⟩:=Zar.1 hq;have hi:=Zbe.1 hi;have e:dot (liQ n lines (i+1)) f=dot (liQ n lines 0) f:=h _ (yF (l:=lines) (i:=i+1) (d:=[]) (by omega));rw [d,e];grind
theorem qcf {n:Nat} {lines:List (List Int)} {Q:List (List Rat)} {ps:List Nat} (h:zdu n lines Q ps):Rr n (aU (tX n lines)) (basL n Q ps) (frQ n ps):=by
 obtain ⟨⟨O,hS⟩,hQ,hdot,hcv⟩:=h;have fm:∀ a,a<(frQ n ps).length->(frQ n ps).getD a 0<n/\(frQ n ps).getD a 0∉ps:=λa ha=>fJ.1 (yF ha);have bg:∀ a,a<(frQ n ps).length->(basL n Q ps).getD a []=aN n Q ps ((frQ n ps).getD a 0):=λa ha=>zjs ha;refine ⟨Zah ..,λl hl => ?_,λx hx=>(fJ.1 hx).1,(List.pairwise_lt_range (n:=n)).sublist Zdp,λa b ha hb => ?_,λa ha c hc => ?_,λv hv hk h0 => ?_⟩
 .obtain ⟨c,hc,rfl⟩:=Zar.1 hl;obtain ⟨c1,c2⟩:=fJ.1 hc;have hlen:=dL n Q ps c;exact ⟨hlen,(zlp hlen).2 (hcv _ hlen (zt7 hS c1 c2))⟩
 .rw [bg a ha];by_cases e:a=b
  .rw [if_pos e,<- e];exact (zd0 hS (fm a ha).1 (fm a ha).2).1
  .rw [if_neg e];exact zr1 hS (fm b hb).2 (c5 (xN n ps) hb ha (Ne.symm e))
 .rw [bg a ha];exact (zd0 hS (fm a ha).1 (fm a ha).2).2 c hc
 .refine qcd hS hv (hdot v ((zlp hv).1 hk)) λc c1 c2 => ?_;obtain ⟨a,ha⟩:=Zau.1 (fJ.2 ⟨c1,c2⟩);have:=h0 a (Zgw.1 ha).1
  rwa [Zaa,ha] at this
theorem zh3 {n:Nat} {lines:List (List Int)} {Q R:List (List Rat)} {ps p:List Nat} (h:zdu n lines Q ps) (hR:Rr n (aU (tX n lines)) R p):basL n Q ps=R/\frQ n ps=p:=by
 obtain ⟨a,b⟩:=(qcf h).unique zm1 hR;exact ⟨b,a⟩
end Go.Ev
namespace Go.Ev
open Go Go.Proofs
variable {B:Nat}
set_option maxRecDepth 100000
abbrev aO (x:Int):Bool:=decide (x < -999999999)||decide (999999999<x)
theorem zjt {f:List Int} (hl:f.length<=100000):Pure Tryz.prog B 102 [encI f] (· = I (if f.any aO then 3 else 0)):=by
 intro p h nx K hK;refine zL zN nk 10000000 λhf => ?_;rw [vz.go];refine vz.L1 (λm z2 h' nx'=>∃ i:Nat,z2=I i/\f.length-i=m/\i<=f.length/\h'=h/\nx'=nx/\(f.take i).any aO=false) (m:=f.length) (by omega) ⟨0,rfl,rfl,by omega,rfl,rfl,rfl⟩ ?_;rintro m z1 z2 z3 z4 h nx R ⟨i,rfl,rfl,hi,rfl,rfl,htk⟩ hR;simp only [zW,jf];by_cases hlt:i<f.length
 case neg =>
  simp only [show ¬ (i:Int)<(f.length:Int) by omega,decide_false,zD];rw [vz.k8];rw [Zak (by omega)] at htk;exact hK _ (by rw [htk];rfl) hf
 simp only [show (i:Int)<(f.length:Int) by omega,decide_true,zC];have hx:f[i]? = some f[i]:=Zgv hlt;have hm:=Zat hlt;have hs:(f.take (i+1)).any aO=((f.take i).any aO||aO f[i]):=by
  rw [Zaq,hx,List.any_append];simp
 rw [cu rfl hlt,ldL (sF hx)];simp only [jf];by_cases c1:f[i] < -999999999
 .simp only [c1,decide_true,j3,zY,zC];exact hK _ (by rw [Zeb.2 ⟨_,hm,by simp [c1]⟩];rfl) hf
 simp only [c1,decide_false,jG];rw [cu rfl hlt,ldL (sF hx)];simp only [pz,yB];by_cases c2:999999999<f[i]
 .simp only [c2,decide_true,zC];exact hK _ (by rw [Zeb.2 ⟨_,hm,by simp [c2]⟩];rfl) hf
 simp only [c2,decide_false,zD];rw [jo (by omega)];exact hR _ _ _ _ _ _ _ (by omega) ⟨i+1,rfl,rfl,by omega,rfl,rfl,by rw [hs,htk];simp [c1,c2]⟩
theorem zju {f:List Int} (hl:f.length<=100000):Pure Tryz.prog B 183 [encI f] (· = I (if f.any aO then 3 else 0)):=by
 intro p h nx K hK;refine zL zN nk 1000 λhf => ?_;rw [eF.go];refine zk8 (by omega) _ _ _ _ ?_;rintro _ rfl _;exact hK _ rfl hf
def kU (l f:List Int):Int:=l.foldl (λs c=>s+f.getD c.toNat 0) 0
structure aC (l f:List Int):Prop where
 len:l.length<=1000
 rng:∀ c∈l,0<=c/\c<(f.length:Int)
 bd:∀ x∈f, -1000000000<=x/\x<=1000000000
theorem aC.get {l f:List Int} (h:aC l f) {c:Int} (hc:c∈l):f[c.toNat]? = some (f.getD c.toNat 0) /\ -1000000000<=f.getD c.toNat 0/\f.getD c.toNat 0<=1000000000:=by
 have:=h.rng c hc;have hx:f[c.toNat]? = some (f.getD c.toNat 0):=by rw [Zaa,Zgv (by omega)];rfl
 exact ⟨hx,h.bd _ (Zad hx)⟩
theorem pV {l f:List Int} {i:Nat} (h:i<l.length):kU (l.take (i+1)) f=kU (l.take i) f+f.getD l[i].toNat 0:=by
 rw [kU,Zaq,Zgv h,List.foldl_append];rfl
theorem zcp {l f:List Int} (h:aC l f):∀ i,i<=l.length -> -(1000000000*(i:Int))<=kU (l.take i) f/\kU (l.take i) f<=1000000000*(i:Int)
 | 0,_=>by simp [kU]
 | i+1,hi=>by
  have ih:=zcp h i (by omega);have:=(h.get (Zat (show i<l.length by omega))).2;rw [pV (by omega)];omega
theorem zza {l f:List Int} (h0:aC l f):Pure Tryz.prog B 219 [encI l,encI f] (· = I (kU l f)):=by
 intro p h nx K hK;have hl:=h0.len;refine zL zN nk 10000 λhf => ?_;rw [dm.go];simp only [zW];refine dm.L1 (λm x3 x7 h' nx'=>∃ i:Nat,x7=I i/\x3=I (kU (l.take i) f)/\l.length-i=m/\i<=l.length/\h'=h/\nx'=nx) (m:=l.length) (by omega) ⟨0,rfl,rfl,rfl,by omega,rfl,rfl⟩ ?_;rintro m z3 z4 z7 z8 h nx R ⟨i,rfl,rfl,rfl,hi,rfl,rfl⟩ hR;simp only [jf];by_cases hlt:i<l.length
 case neg =>
  simp only [show ¬ (i:Int)<(l.length:Int) by omega,decide_false,zD];rw [dm.k8,Zak (by omega)];exact hK _ rfl hf
 simp only [show (i:Int)<(l.length:Int) by omega,decide_true,zC];have hx:l[i]? = some l[i]:=Zgv hlt;have hr:=h0.rng _ (Zat hlt);obtain ⟨hg,hb⟩:=h0.get (Zat hlt);have hbd:=zcp h0 i (by omega);rw [cu rfl hlt,ldL (sF hx),cu (i:=l[i].toNat) (by omega) (by omega),ldL (sF hg),jo (by omega),jo (by omega)];exact hR _ _ _ _ _ _ _ (by omega) ⟨i+1,rfl,by rw [pV hlt],rfl,by omega,rfl,rfl⟩
theorem zr9 {l f:List Int} (h0:aC l f):Pure Tryz.prog B 143 [encI l,encI f] (· = I (kU l f)):=by
 intro p h nx K hK;have hl:=h0.len;refine zL zN nk 10000 λhf => ?_;rw [dh.go];refine dh.L1 (λm x3 x4 h' nx'=>∃ i:Nat,x4=I i/\x3=I (kU (l.take i) f)/\l.length-i=m/\i<=l.length/\h'=h/\nx'=nx) (m:=l.length) (by omega) ⟨0,rfl,rfl,rfl,by omega,rfl,rfl⟩ ?_;rintro m z3 z4 z5 h nx R ⟨i,rfl,rfl,rfl,hi,rfl,rfl⟩ hR;simp only [zW,jf];by_cases hlt:i<l.length
 case neg =>
  simp only [show ¬ (i:Int)<(l.length:Int) by omega,decide_false,zD];rw [dh.k8,Zak (by omega)];exact hK _ rfl hf
 simp only [show (i:Int)<(l.length:Int) by omega,decide_true,zC];have hx:l[i]? = some l[i]:=Zgv hlt;have hr:=h0.rng _ (Zat hlt);obtain ⟨hg,hb⟩:=h0.get (Zat hlt);have hbd:=zcp h0 i (by omega);rw [cu rfl hlt,ldL (sF hx),cu (i:=l[i].toNat) (by omega) (by omega),ldL (sF hg),jo (by omega),jo (by omega)];exact hR _ _ _ _ _ _ (by omega) ⟨i+1,rfl,by rw [pV hlt],rfl,by omega,rfl,rfl⟩
def uO (lines:List (List Int)) (f:List Int):List Int:=lines.map λl=>kU l f
theorem xU {lines:List (List Int)} {f:List Int} {i:Nat} (h:i<lines.length):uO (lines.take (i+1)) f=uO (lines.take i) f++[kU lines[i] f]:=by
 rw [uO,Zaq,Zgv h,Zbh];rfl
theorem dS (lines:List (List Int)) (f:List Int):(uO lines f).length=lines.length:=by simp [uO]
theorem zuu {cells:Int} {lines:List (List Int)} {f:List Int} (hn:lines.length<=1000) (h0:∀ l∈lines,aC l f):Pure Tryz.prog B 139 [.agg [I cells,uf lines],encI f] (· = encI (uO lines f)):=by
 refine zT λh nx K H0 hK=>zL zN nk 10000 λhf => ?_;rw [di.go];refine H0.box (l:=[I cells,uf lines]) rfl λbx h1 nx1 H1 => ?_;rw [sFx,H1.load (k:=0) (i:=0+1) rfl rfl];simp only [zW];refine di.L1 (λm x4 x8 h' nx'=>∃ (i:Nat) (o:Option Pa),x8=I i/\x4=uw o 1 (uO (lines.take i) f).length/\lines.length-i=m/\i<=lines.length/\Hp h h' nx' [.gro o 1 (uO (lines.take i) f).length ((uO (lines.take i) f).map I),.arr bx [I cells,uf lines]]) (m:=lines.length) (by omega) ⟨0,none,rfl,rfl,rfl,by omega,H1.aA 1⟩ ?_;rintro m z4 z5 z8 z9 h2 nx2 R ⟨i,o,rfl,rfl,rfl,hi,H2⟩ hR;simp only [jf];by_cases hlt:i<lines.length
 case neg =>
  simp only [show ¬ (i:Int)<(lines.length:Int) by omega,decide_false,zD];rw [Zak (by omega)] at H2 ⊢;rw [di.k8];exact hK _ _ _ _ _ H2 (H2.ak (k:=0) rfl λv hv=>by obtain ⟨x,_,rfl⟩:=Zar.1 hv;rfl) rfl
 simp only [show (i:Int)<(lines.length:Int) by omega,decide_true,zC];have hx:lines[i]? = some lines[i]:=Zgv hlt;have hlen:(uO (lines.take i) f).length=i:=by rw [dS,Zai];omega
 rw [cu rfl hlt,ldL (getT hx)];refine zza (h0 _ (Zat hlt)) _ _ _ _ ?_;rintro _ rfl _;refine H2.fq (l:=[I (kU lines[i] f)]) rfl λtb h4 nx4 H4 => ?_;refine H4.appN (k:=1) (o:=o) (c:=1) (new:=[I (kU lines[i] f)]) rfl (qc.rd (l:=[I (kU lines[i] f)]) (n:=1) (H4.own _ (Zaj ..)) rfl) rfl rfl (by decide) (by decide) (by omega) λo' h5 nx5 _ H5 => ?_;rw [jo (by omega)];refine hR _ _ _ _ _ _ _ (by omega) ⟨i+1,o',rfl,by rw [xU hlt,Zae];rfl,rfl,by omega,?_⟩;rw [xU hlt,Zae,Zbh];exact H5.drop
theorem zm2 {cells:Int} {lines:List (List Int)} {f:List Int} (hn:lines.length<=1000) (h0:∀ l∈lines,aC l f):Pure Tryz.prog B 59 [.agg [I cells,uf lines],encI f] (· = encI (uO lines f)):=by
 refine zT λh nx K H0 hK=>zL zN nk 10000 λhf => ?_;rw [F59.go];refine H0.box (l:=[I cells,uf lines]) rfl λbx h1 nx1 H1 => ?_;refine F59.L1 (λm x4 x5 h' nx'=>∃ (i:Nat) (o:Option Pa),x5=I i/\x4=uw o 1 (uO (lines.take i) f).length/\lines.length-i=m/\i<=lines.length/\Hp h h' nx' [.gro o 1 (uO (lines.take i) f).length ((uO (lines.take i) f).map I),.arr bx [I cells,uf lines]]) (m:=lines.length) (by omega) ⟨0,none,rfl,rfl,rfl,by omega,H1.aA 1⟩ ?_;rintro m z4 z5 z6 h2 nx2 R ⟨i,o,rfl,rfl,rfl,hi,H2⟩ hR;rw [sFx,H2.load (k:=1) (i:=0+1) rfl rfl];simp only [zW,jf];by_cases hlt:i<lines.length
 case neg =>
  simp only [show ¬ (i:Int)<(lines.length:Int) by omega,decide_false,zD];rw [Zak (by omega)] at H2 ⊢;rw [F59.k8];exact hK _ _ _ _ _ H2 (H2.ak (k:=0) rfl λv hv=>by obtain ⟨x,_,rfl⟩:=Zar.1 hv;rfl) rfl
 simp only [show (i:Int)<(lines.length:Int) by omega,decide_true,zC];have hx:lines[i]? = some lines[i]:=Zgv hlt;have hlen:(uO (lines.take i) f).length=i:=by rw [dS,Zai];omega
 rw [sFx,H2.load (k:=1) (i:=0+1) rfl rfl,cu rfl hlt,ldL (getT hx)];refine zr9 (h0 _ (Zat hlt)) _ _ _ _ ?_;rintro _ rfl _;refine H2.fq (l:=[I (kU lines[i] f)]) rfl λtb h4 nx4 H4 => ?_;refine H4.appN (k:=1) (o:=o) (c:=1) (new:=[I (kU lines[i] f)]) rfl (qc.rd (l:=[I (kU lines[i] f)]) (n:=1) (H4.own _ (Zaj ..)) rfl) rfl rfl (by decide) (by decide) (by omega) λo' h5 nx5 _ H5 => ?_;rw [jo (by omega)];refine hR _ _ _ _ _ _ (by omega) ⟨i+1,o',rfl,by rw [xU hlt,Zae];rfl,rfl,by omega,?_⟩;rw [xU hlt,Zae,Zbh];exact H5.drop
def uB (cells:Int) (lines:List (List Int)) (f:List Int):Int:=if jA cells lines≠0 then jA cells lines else if (f.length:Int)≠cells then 2 else if f.any aO then 3 else 0
theorem zlq {cells:Int} {lines:List (List Int)} {f:List Int} (hw:∀ q∈lines,q.length<=1000000) (hl:f.length<=100000):Pure Tryz.prog B 94 [.agg [I cells,uf lines],encI f] (· = I (uB cells lines f)):=by
 refine zT λh nx K H0 hK=>zL zN nk 1000 λhf => ?_;rw [F94.go];refine H0.box (l:=[I cells,uf lines]) rfl λbx h1 nx1 H1 => ?_;rw [H1.zm (k:=0) (n:=2) rfl rfl];simp only [zW];rw [sFx,H1.load (k:=0) (i:=0+0) rfl rfl];simp only [fB];refine zrm hw _ _ _ _ ?_;rintro _ rfl _;simp only [zH];rw [H1.load (k:=0) (i:=0+0) rfl rfl];simp only [zH];rw [sFx];simp only [zH];refine dR _ _ _ _ _ _ ?_;rintro _ rfl _;refine zju hl _ _ _ _ ?_;rintro _ rfl _;refine H1.fq (l:=[I (jA cells lines),I (if (!decide ((f.length:Int)=cells))=true then 2 else 0),I (if f.any aO=true then 3 else 0)]) rfl λtb h2 nx2 H2 => ?_;refine bO (l:=[jA cells lines,if (!decide ((f.length:Int)=cells))=true then 2 else 0,if f.any aO=true then 3 else 0]) H2 (k:=0) rfl (λB=>zci (by simp)) (λv hv=>by rw [hv];exact .int _ _) ?_;rintro _ rfl;have e:kL [jA cells lines,if (!decide ((f.length:Int)=cells))=true then 2 else 0,if f.any aO=true then 3 else 0]=uB cells lines f:=by
  simp only [kL,uB];by_cases c1:jA cells lines=0
  .by_cases c2:(f.length:Int)=cells
   .by_cases c3:f.any aO=true
    .simp [c1,c2,c3]
    .simp [c1,c2,c3]
   .simp [c1,c2]
  .simp [c1]
 rw [e];exact hK _ _ _ _ _ H2 (zS rfl) rfl
theorem zsa {cells:Int} {lines:List (List Int)} {f:List Int} (h:uB cells lines f=0):jA cells lines=0/\lines.length<=128/\f.length<=256/\∀ l∈lines,l.length<=1000->aC l f:=by
 rw [uB] at h;by_cases c1:jA cells lines=0
 case neg=>rw [if_pos c1] at h;exact absurd h c1
 rw [if_neg (λq=>q c1)] at h;by_cases c2:(f.length:Int)=cells
 case neg=>rw [if_pos c2] at h;cases h
 rw [if_neg (λq=>q c2)] at h;have c3:f.any aO=false:=by cases q:f.any aO with
  | false=>rfl
  | true=>rw [q] at h;cases h
 obtain ⟨n,rfl,n1,n2,n3,n4⟩:=zfd c1;refine ⟨c1,n3,by omega,λl hl hlen=>⟨hlen,λc hc => ?_,λx hx => ?_⟩⟩
 .have:=(n4 l hl).2.2 c hc;omega
 .have:=Zem.1 c3 x hx;simp at this;omega
def difA (a:Int):List Int->Nat->Int
 | [],_ => -1
 | x::t,i=>if x=a then difA a t (i+1) else (i:Int)
def vN (S:List Int):Int:=difA (S.getD 0 0) S 0
theorem zd2 {a:Int} {S:List Int} {i k:Nat} (h:i<S.length):difA a (S.drop i) k=if S[i]=a then difA a (S.drop (i+1)) (k+1) else (k:Int):=by
 rw [Zbb h];rfl
theorem zsb {h0 h:T Blk} {nx p bx:Pa} {L:List Ob} {k:Nat} {S:List Int} {K:Kw Prop} {v:AV} (hl:S.length<=100000) (H:Hp h0 h nx L) (hk:L[k]? = some (.arr bx [encI S]))
  (hK:K (I (vN S)) h nx=.ok True):(CS Tryz.prog B).fn 184 p [encI S,.fn 185 (.of 185) [.ptr bx 0]] h nx K=.ok True:=by
 refine gT (p:=.of 184) (K:=K) (zL zN nk 1000000 λhf => ?_) λ_ _ _ _ q=>q;rw [xw.go];simp only [zW];refine xw.L1 (λm z5 h' nx'=>∃ i:Nat,z5=I i/\S.length-i=m/\i<=S.length/\h'=h/\nx'=nx/\vN S=difA (S.getD 0 0) (S.drop i) i) (m:=S.length) (by omega) ⟨0,rfl,rfl,by omega,rfl,rfl,rfl⟩ ?_;rintro m z2 z3 z5 z6 z7 h nx R ⟨i,rfl,rfl,hi,rfl,rfl,he⟩ hR;simp only [jf];by_cases hlt:i<S.length
 case neg =>
  simp only [show ¬ (i:Int)<(S.length:Int) by omega,decide_false,zD];rw [xw.k8];rw [he,Zbi (by omega)] at hK;exact hK
 simp only [show (i:Int)<(S.length:Int) by omega,decide_true,zC];have hx:S[i]? = some S[i]:=Zgv hlt;have hy:S[0]? = some (S.getD 0 0):=by rw [Zaa,Zgv (by omega)];rfl
 rw [zd2 hlt] at he;rw [cu rfl hlt,ldL (sF hx),mC];refine gT (p:=.of 185) (zL zN nk 9 λ_ => ?_) λ_ _ _ _ q=>q;show zP tbl 9 _ (Pa.of 185) [I S[i],.ptr bx 0] _ _ _=_;rw [eG.go,H.load (k:=k) (i:=0) hk rfl,cu (i:=0) (show (0:Int)=((0:Nat):Int) from rfl) (by omega),ldL (sF hy)];simp only [fB];by_cases c:S[i]=S.getD 0 0
 .rw [if_pos c] at he;simp only [c,decide_true,Zao,zD];rw [jo (by omega)];exact hR _ _ _ _ _ _ _ _ (by omega) ⟨i+1,rfl,rfl,by omega,rfl,rfl,he⟩
 .rw [if_neg c] at he;simp only [c,decide_false,Zam,zC];rw [he] at hK;exact hK
theorem zm3 {cells:Int} {lines:List (List Int)} {f:List Int} (hn:lines.length<=1000) (h0:∀ l∈lines,aC l f):Pure Tryz.prog B 95 [.agg [I cells,uf lines],encI f] (· = I (vN (uO lines f))):=by
 refine zT λh nx K H0 hK=>zL zN nk 1000 λhf => ?_;rw [F95.go];refine H0.box (l:=[I cells,uf lines]) rfl λbx h1 nx1 H1 => ?_;rw [H1.zm (k:=0) (n:=2) rfl rfl];refine zuu hn h0 _ _ _ _ ?_;rintro _ rfl _;refine H1.alloc λb8 h2 nx2 H2 => ?_;refine H2.store (k:=0) rfl (by simp) rfl λh3 H3 => ?_;rw [H3.load (k:=0) (i:=0) rfl rfl];have hlen:=dS lines f;refine zsb (v:=.zb) (by omega) H3 (k:=0) rfl ?_;exact hK _ _ _ _ _ H3 (zS rfl) rfl
theorem zjv {cells:Int} {lines:List (List Int)} {f:List Int} (hn:lines.length<=1000) (h0:∀ l∈lines,aC l f):Pure Tryz.prog B 60 [.agg [I cells,uf lines],encI f] (· = I (vN (uO lines f))):=by
 refine zT λh nx K H0 hK=>zL zN nk 10000 λhf => ?_;rw [F60.go];refine H0.box (l:=[I cells,uf lines]) rfl λbx h1 nx1 H1 => ?_;rw [H1.zm (k:=0) (n:=2) rfl rfl];refine zm2 hn h0 _ _ _ _ ?_;rintro _ rfl _;have hlen:=dS lines f
 generalize uO lines f=S at hlen hK ⊢
 have ret:∀ v:Int,v=vN S->K (I v) h1 nx1=.ok True:=λv hv=>by rw [hv];exact hK _ _ _ _ _ H1 (zS rfl) rfl
 refine F60.L1 (λm z5 h' nx'=>∃ i:Nat,z5=I i/\S.length-i=m/\i<=S.length/\h'=h1/\nx'=nx1/\vN S=difA (S.getD 0 0) (S.drop i) i) (m:=S.length) (by omega) ⟨0,rfl,rfl,by omega,rfl,rfl,rfl⟩ ?_;rintro m z3 z5 z6 z7 h2 nx2 R ⟨i,rfl,rfl,hi,rfl,rfl,he⟩ hR;simp only [zW,jf];by_cases hlt:i<S.length
 case neg =>
  simp only [show ¬ (i:Int)<(S.length:Int) by omega,decide_false,zD];rw [F60.k8];exact ret _ (by rw [he,Zbi (by omega)];rfl)
 simp only [show (i:Int)<(S.length:Int) by omega,decide_true,zC];have hx:S[i]? = some S[i]:=Zgv hlt;have hy:S[0]? = some (S.getD 0 0):=by rw [Zaa,Zgv (by omega)];rfl
 rw [zd2 hlt] at he;rw [cu rfl hlt,ldL (sF hx),cu (i:=0) (show (0:Int)=((0:Nat):Int) from rfl) (by omega),ldL (sF hy)];simp only [fB];by_cases c:S[i]=S.getD 0 0
 .rw [if_pos c] at he;simp only [c,decide_true,Zao,zD];rw [jo (by omega)];exact hR _ _ _ _ _ _ _ (by omega) ⟨i+1,rfl,rfl,by omega,rfl,rfl,he⟩
 .rw [if_neg c] at he;simp only [c,decide_false,Zam,zC];exact ret _ he.symm
theorem zjw {cells:Int} {lines:List (List Int)} {f:List Int} (hn:lines.length<=1000) (h0:∀ l∈lines,aC l f):Pure Tryz.prog B 28 [.agg [I cells,uf lines],encI f] (· = .bool (decide (vN (uO lines f)<0))):=by
 refine zT λh nx K H0 hK=>zL zN nk 1000 λhf => ?_;rw [F28.go];refine H0.box (l:=[I cells,uf lines]) rfl λbx h1 nx1 H1 => ?_;rw [H1.zm (k:=0) (n:=2) rfl rfl];refine zjv hn h0 _ _ _ _ ?_;rintro _ rfl _;simp only [jf];exact hK _ _ _ _ _ H1 (zS rfl) rfl
theorem zfl {cells:Int} {lines:List (List Int)} {f:List Int} (hl:f.length<=100000) (hs:jA cells lines=0):Pure Tryz.prog B 27 [.agg [I cells,uf lines],encI f] (· = I (uB cells lines f)):=by
 refine zT λh nx K H0 hK=>zL zN nk 1000 λhf => ?_;rw [F27.go];refine H0.box (l:=[I cells,uf lines]) rfl λbx h1 nx1 H1 => ?_;have ret:∀ v:Int,v=uB cells lines f->K (I v) h1 nx1=.ok True:=λv hv=>by rw [hv];exact hK _ _ _ _ _ H1 (zS rfl) rfl
 simp only [zW];rw [sFx,H1.load (k:=0) (i:=0+0) rfl rfl];simp only [fB];by_cases c:(f.length:Int)=cells
 .simp only [c,decide_true,Zao,zD];refine zjt hl _ _ _ _ ?_;rintro _ rfl _;exact ret _ (by unfold uB;rw [if_neg (show ¬ (jA cells lines≠0) from λq=>q hs),if_neg (show ¬ ((f.length:Int)≠cells) from λq=>q c)])
 .simp only [c,decide_false,Zam,zC];exact ret _ (by rw [uB,if_neg (λq=>q hs),if_pos c])
section
variable {cells:Int} {lines:List (List Int)} {f:List Int}
end
end Go.Ev
namespace Go.Ev
open Go Go.Proofs
variable {B:Nat}
set_option maxRecDepth 100000
theorem zm4 (z:Int):ql (z:Rat)=fC z:=by
 unfold ql;rw [Zfe,Zgb,if_pos rfl,Zba]
theorem zm5 {x:Int} (hx : -1000000000<=x/\x<=1000000000):Pure Tryz.prog B 42 [I x] (· = T9 (x:Rat)):=by
 refine zT λh nx K H0 hK=>zL zN yC 100 λhf => ?_;rw [F42.go,F42.t3,zA,F42.zu,zA,F42.zo];refine zg8 (by omega) _ _ _ _ ?_;rintro _ rfl _;refine ze3 (k:=3) (by decide) (by unfold Z9;omega) _ _ _ _ ?_;rintro _ rfl _;simp only [zF,zO];rw [F42.ret,<- zm4];exact hK _ _ _ _ _ H0 (zS rfl) rfl
theorem zsc {l:List Rat} {p:Nat} (hp:p<l.length) (hl:l.length<=1000) (h1:at' l p≠0) (h0:∀ c,c<p->at' l c=0):Pure Tryz.prog B 103 [gU l] (· = I (p:Int)):=by
 refine zT λh nx K H0 hK=>zL zN yC 2000 λhf => ?_;unfold gU;rw [kz.go,kz.t14,zA,kz.zu,zA,kz.zo,zA,zI];refine kz.t8_L (λm x2 h' nx'=>∃ c:Nat,x2=I (c:Int)/\m+c=p/\h'=h/\nx'=nx) (m:=p) (by omega) ⟨0,rfl,rfl,rfl,rfl⟩ ?_;rintro m z2 z3 h3 nx3 R ⟨c,rfl,hm,rfl,rfl⟩ hR;have hx:(l.map T9)[c]? = some (T9 (at' l c)):=by rw [Zgx,uE (by omega)];rfl
 rw [kz.t7,zA,zA,kz.yw,cu (i:=c) rfl (by omega),ldL hx];refine bU _ _ _ _ ?_;rintro _ rfl _;rw [zB,kz.v3];by_cases cp:c<p
 .rw [Zac (h0 c cp),zC,zE,zI,kz.fZ,jo (by omega)];exact hR (m-1) _ _ _ _ (by omega) ⟨c+1,by congr 1,by omega,rfl,rfl⟩
 .obtain rfl:c=p:=by omega
  rw [Zab h1,zD,zX,yD,zA,kz.ny];simp only [zF,zO];rw [kz.ret];exact hK _ _ _ _ _ H0 (.int _ _) rfl
abbrev corL (f:List Int) (p:List Nat):List Rat:=p.map λc=>((f.getD c 0:Int):Rat)
theorem zjx {n:Nat} {lines:List (List Int)} {f:List Int} (hn1:1<=n) (hn:n<=256) (hl:lines.length<=12) (hll:∀ l∈lines,l.length<=256) (hr:∀ l∈lines,∀ c∈l,0<=c/\c<(n:Int)) (hfn:f.length=n) (hfb:∀ x∈f, -1000000000<=x/\x<=1000000000):Pure Tryz.prog B 30 [.agg [I (n:Int),uf lines],encI f] (λv=>∃ R p,Rr n (aU (tX n lines)) R p/\v=gU (corL f p)):=by
 refine zT λh nx K H0 hK=>zL zN yC 1000 λhf => ?_;rw [F30.go,F30.t20,zA,F30.zu];refine H0.box (l:=[I (n:Int),uf lines]) rfl λbx h1 nx1 H1 => ?_;rw [zA,F30.zo,zA,F30.yw,H1.zm (k:=0) (n:=2) rfl rfl];refine zco hn1 hn hl hll hr _ _ _ _ ?_;rintro _ ⟨R1,p,hR1,rfl⟩ _;have hpl:p.length<=n:=by
  rw [vK hR1.asc hR1.rng];exact Zax (Zep ..) (by rw [Zcz];exact Zaf _)
 have hlen:=hR1.len;have H1:=H1.aA 1;unfold jK;rw [zA,zA,F30.vk,zI];refine F30.qad (λm x4 x6 h' nx'=>∃ (k:Nat) (o:Option Pa),x4=uw o 1 k/\x6=I (k:Int)/\m+k=R1.length/\Hp h h' nx' [.gro o 1 k (((corL f p).take k).map T9),.arr bx [I (n:Int),uf lines]]) (m:=R1.length) (by omega) ⟨0,none,rfl,rfl,rfl,H1⟩ ?_;rintro m z4 z6 z7 h3 nx3 R ⟨k,o,rfl,rfl,hm,H3⟩ hR;rw [F30.t11,zA,zA,F30.ng,zW,jf,zB,F30.v7];by_cases ck:k<R1.length
 .have hk:k<p.length:=by omega
  have hx:(R1.map gU)[k]? = some (gU (R1.getD k [])):=by rw [Zgx,j7 (d:=[]) ck];rfl
  have hpk:=hR1.rng _ (yF (l:=p) (i:=k) (d:=0) hk);have hrow:=(hR1.row _ (yF (l:=R1) (i:=k) (d:=[]) ck)).1;have hone:=hR1.one k k hk hk;rw [if_pos rfl] at hone;have hfx:f[p.getD k 0]? = some (f.getD (p.getD k 0) 0):=j7 (by omega);have hcx:(corL f p)[k]? = some ((f.getD (p.getD k 0) 0:Int):Rat):=by rw [Zgx,j7 (d:=0) hk];rfl
  rw [Zac (by omega),zC,zE,zA,zI,F30.fF,F30.r5_0,F30.zw4,cu (i:=k) rfl ck,ldL hx];refine zsc (p:=p.getD k 0) (by omega) (by omega) (by rw [hone];decide) (hR1.lead k hk) _ _ _ _ ?_;rintro _ rfl _;rw [F30.r5_1,F30.zw5,cu (i:=p.getD k 0) rfl (by omega),ldL (sF hfx)];refine zm5 (hfb _ (Zad hfx)) _ _ _ _ ?_;rintro _ rfl _;rw [F30.r5_2,F30.zw6];refine H3.fq (l:=[T9 ((f.getD (p.getD k 0) 0:Int):Rat)]) rfl λtb h4 nx4 H4 => ?_;rw [F30.r5_3,F30.zw7];refine H4.appN (k:=1) (o:=o) (c:=1) (new:=[T9 ((f.getD (p.getD k 0) 0:Int):Rat)]) rfl (qc.rd (l:=[T9 ((f.getD (p.getD k 0) 0:Int):Rat)]) (n:=1) (H4.own _ (Zaj ..)) rfl) rfl rfl (by decide) (by decide) (by omega) λo' h5 nx5 _ H5 => ?_;have H6:Hp h h5 nx5 [.gro o' 1 (k+1) (((corL f p).take k).map T9++[T9 ((f.getD (p.getD k 0) 0:Int):Rat)]),.arr bx [I (n:Int),uf lines]]:=H5.drop;rw [F30.r5_4,F30.zw8,F30.nu,jo (by omega)];refine hR (m-1) _ _ _ _ _ (by omega) ⟨k+1,o',rfl,by congr 1,by omega,?_⟩;rw [Zaq,hcx,Zcm,Zbh];exact H6
 .obtain rfl:k=R1.length:=by omega
  rw [Zak (by rw [Zah];omega)] at H3;rw [Zab (by omega),zD,zX,yD,zA,F30.ol];simp only [zF,zO];rw [F30.ret];refine hK _ _ _ _ _ H3 (H3.ak (k:=0) rfl λv hv=>by obtain ⟨x,_,rfl⟩:=Zar.1 hv;rfl) ⟨R1,p,hR1,?_⟩;unfold gU;rw [Zah,hlen]
theorem cR {cells:Int} {lines:List (List Int)} {f:List Int} (hw:∀ q∈lines,q.length<=1000000) (hl:f.length<=100000) (he:uB cells lines f≠0):Pure Tryz.prog B 24 [.agg [I cells,uf lines],encI f] (· = .tup [.lst 1 0 [],I (uB cells lines f)]):=by
 refine zT λh nx K H0 hK=>zL zN yC 1000 λhf => ?_;rw [F24.go,F24.t34,zA,F24.zu];refine H0.box (l:=[I cells,uf lines]) rfl λbx h1 nx1 H1 => ?_;rw [zA,zA,F24.zo,H1.zm (k:=0) (n:=2) rfl rfl];refine zlq hw hl _ _ _ _ ?_;rintro _ rfl _;rw [zA,F24.yw,fB,Zab he,Zam,zB,F24.v8,zC,zA,F24.vk];simp only [zF,zO];rw [F24.ret];exact hK _ _ _ _ _ H1 (j4 (.aX 1) (.int _ _)) rfl
theorem zuv {n:Nat} {lines:List (List Int)} {f:List Int} (hn:n<=256) (hl:lines.length<=12) (hll:∀ l∈lines,l.length<=256) (hfl:f.length<=100000) (he:uB (n:Int) lines f=0) (hfn:f.length=n) (hfb:∀ x∈f, -1000000000<=x/\x<=1000000000):Pure Tryz.prog B 24 [.agg [I (n:Int),uf lines],encI f] (λv=>if 0<=vN (uO lines f) then v=.tup [.lst 1 0 [],I 16] else ∃ Q ps,zdu n lines Q ps/\v=.tup [gU (corL f (frQ n ps)),I 0]):=by
 obtain ⟨hs,_,_,hln⟩:=zsa he;obtain ⟨n',hn',_,_,_,hasc⟩:=zfd hs;have en:n'=n:=by omega
 rw [en] at hasc;have hr:∀ l∈lines,∀ c∈l,0<=c/\c<(n:Int):=λl hlm=>(hasc l hlm).2.2;refine zT λh nx K H0 hK=>zL zN yC 1000 λhf => ?_;rw [F24.go,F24.t34,zA,F24.zu];refine H0.box (l:=[I (n:Int),uf lines]) rfl λbx h1 nx1 H1 => ?_;rw [zA,zA,F24.zo,H1.zm (k:=0) (n:=2) rfl rfl];refine zlq (λq hq=>by have:=hll q hq;omega) hfl _ _ _ _ ?_;rintro _ rfl _;rw [he,zA,F24.yw,fB,Zac rfl,Zao,zB,F24.v8,zD,zE,zA,zA,F24.fU,H1.zm (k:=0) (n:=2) rfl rfl];refine zm3 (by omega) (λl hlm=>hln l hlm (by have:=hll l hlm;omega)) _ _ _ _ ?_;rintro _ rfl _;rw [fM,zB,F24.v9];by_cases cd:0<=vN (uO lines f)
 .rw [Zac cd,zC,zA,F24.nu];simp only [zF,zO];rw [F24.ret];exact hK _ _ _ _ _ H1 (j4 (.aX 1) (.int _ _)) (by rw [if_pos cd])
 rw [Zab cd,zD,zE,zA,F24.rP,zA,zA,F24.rG,H1.zm (k:=0) (n:=2) rfl rfl];refine zdv hn hl hll hr _ _ _ _ ?_;rintro _ ⟨Q,ps,hred,cb,hcl,hcr,rfl⟩ _;have hfq:=vC n ps;have H1:=H1.aA 1;rw [jS,zW,zI];refine F24.znj (λm x6 x12 h' nx'=>∃ (k:Nat) (o:Option Pa),x6=uw o 1 k/\x12=I (k:Int)/\m+k=(frQ n ps).length/\Hp h h' nx' [.gro o 1 k (((corL f (frQ n ps)).take k).map T9),.arr bx [I (n:Int),uf lines]]) (m:=(frQ n ps).length) (by omega) ⟨0,none,rfl,rfl,rfl,H1⟩ ?_;rintro m z6 z7 z12 z13 h3 nx3 R ⟨k,o,rfl,rfl,hm,H3⟩ hR;rw [F24.t24,zA,F24.ol,jf,zA,zB,F24.v13];by_cases ck:k<(frQ n ps).length
 .have hpk:=(fJ.1 (yF (l:=frQ n ps) (i:=k) (d:=0) ck)).1;have hx:((frQ n ps).map λp=>I ((p:Nat):Int))[k]? = some (I (((frQ n ps).getD k 0:Nat):Int)):=by rw [Zgx,j7 (d:=0) ck];rfl
  have hfx:f[(frQ n ps).getD k 0]? = some (f.getD ((frQ n ps).getD k 0) 0):=j7 (by omega);have hcx:(corL f (frQ n ps))[k]? = some ((f.getD ((frQ n ps).getD k 0) 0:Int):Rat):=by rw [Zgx,j7 (d:=0) ck];rfl
  have hb:=hfb _ (Zad hfx);rw [Zac (by omega),zC,zE,zA,zI,zA,F24.tL,cu (i:=k) rfl ck,ldL hx,F24.zad,cu (i:=(frQ n ps).getD k 0) rfl (by omega),ldL (sF hfx)];refine zhg (by unfold rF;omega) _ _ _ _ ?_;rintro v hv _;refine zrt hv (by rw [Zfe];omega) (by rw [Zgb];decide) _ _ _ _ ?_;rintro _ rfl _;refine H3.oH (v:=T9 ((f.getD ((frQ n ps).getD k 0) 0:Int):Rat)) (by omega) (by decide) rfl rfl λo' h8 nx8 H8 => ?_;rw [F24.zaa,jo (by omega)];refine hR (m-1) _ _ _ _ _ _ (by omega) ⟨k+1,o',rfl,by congr 1,by omega,?_⟩;rw [Zaq,hcx,Zcm,Zbh];exact H8
 .obtain rfl:k=(frQ n ps).length:=by omega
  rw [Zak (by rw [Zah];exact Zaf _)] at H3;rw [Zab (by omega),zD,zX,yD,zA,F24.om];simp only [zF,zO];rw [F24.ret];refine hK _ _ _ _ _ H3 (j4 (H3.ak (k:=0) rfl λv hv=>by obtain ⟨x,_,rfl⟩:=Zar.1 hv;rfl) (.int _ _)) ?_;rw [if_neg cd];refine ⟨Q,ps,hred,?_⟩;unfold gU;rw [Zah]
theorem zh4 {cells:Int} {lines:List (List Int)} (hw:∀ q∈lines,q.length<=1000000) (he:jA cells lines≠0):Pure Tryz.prog B 23 [.agg [I cells,uf lines]] (· = .tup [.lst 1 0 [],I (jA cells lines)]):=by
 refine zT λh nx K H0 hK=>zL zN yC 1000 λhf => ?_;rw [F23.go,F23.t11,zA,F23.zu];refine H0.box (l:=[I cells,uf lines]) rfl λb1 h1 nx1 H1 => ?_;rw [zA,zA,F23.zo,H1.zm (k:=0) (n:=2) rfl rfl];refine zrm hw _ _ _ _ ?_;rintro _ rfl _;rw [zA,F23.yw,fB,Zab he,Zam,zB,F23.v5,zC,zA,F23.vk];simp only [zF,zO];rw [F23.ret];exact hK _ _ _ _ _ H1 (j4 (.aX 1) (.int _ _)) rfl
theorem uGWt (op:KW3->OP) (h:T Blk) (nx:Pa) (k:KW3):sGW (.bool true) true op h nx k=op k:=nr rfl
theorem uGWf (op:KW3->OP) (h:T Blk) (nx:Pa) (k:KW3):sGW (.bool false) true op h nx k=k .u h nx:=nr rfl
def fewB (a b:Int) (cells:Int) (lines:List (List Int)):Bool:=decide ((lines.length:Int)<=b/\∀ l∈lines,(l.length:Int)<=a)&&(decide (jA cells lines=0)&&decide (cells<=a))
theorem qcg {cells:Int} {lines:List (List Int)}:Pure Tryz.prog B 35 [.agg [I cells,uf lines],I 16,I 12] (· = .bool (fewB 16 12 cells lines)):=by
 refine zT λh nx K H0 hK=>zL zN yC 100 λhf => ?_;rw [F35.go,F35.t3,zA,F35.zu];refine H0.box (l:=[I cells,uf lines]) rfl λbx h1 nx1 H1 => ?_;have ret:∀ {b:Bool},b=fewB 16 12 cells lines->K (.bool b) h1 nx1=.ok True:=λe=>hK _ _ _ _ _ H1 (zS rfl) (by rw [e]);rw [zA,F35.zo,F35.tJ,F35.tK,H1.zm (k:=0) (n:=2) rfl rfl];refine zk6 (by omega) _ _ _ _ ?_;rintro _ rfl _;rw [F35.aH,F35.sQ];by_cases c1:(lines.length:Int)<=12/\∀ l∈lines,(l.length:Int)<=16
 case neg =>
  rw [Zab c1];simp only [jD,zda,uGWf];rw [F35.r1_2,F35.zd6];simp only [jD,zda,yB];rw [F35.r1_3,F35.zah];simp only [zF,zO];rw [F35.ret];exact ret (by rw [fewB,Zab c1];rfl)
 rw [Zac c1];simp only [yL,uGWt];rw [H1.zm (k:=0) (n:=2) rfl rfl];refine mA (λq hq=>by have:=c1.2 q hq;omega) _ _ _ _ ?_;rintro _ rfl _;rw [F35.r1_2,F35.zd6];simp only [yL,zY];rw [qz];by_cases c2:jA cells lines=0
 case neg =>
  rw [Zab c2];simp only [jD,zda,yB];rw [F35.r1_3,F35.zah];simp only [zF,zO];rw [F35.ret];exact ret (by rw [fewB,Zac c1,Zab c2];rfl)
 rw [Zac c2];simp only [yL,zY];rw [sFx,H1.load (k:=0) (i:=0+0) rfl rfl,rR];rw [F35.r1_3,F35.zah];simp only [zF,zO];rw [F35.ret];exact ret (by rw [fewB,Zac c1,Zac c2];rfl)
def bS (cells:Int) (lines:List (List Int)):Bool:=decide ((lines.length:Int)<=130/\∀ l∈lines,(l.length:Int)<=40)&&(!decide (jA cells lines=0)||fewB 16 12 cells lines)
theorem zuw {cells:Int} {lines:List (List Int)}:Pure Tryz.prog B 22 [.agg [I cells,uf lines]] (· = .bool (bS cells lines)):=by
 refine zT λh nx K H0 hK=>zL zN yC 100 λhf => ?_;rw [F22.go,F22.t9,zA,F22.zu];refine H0.box (l:=[I cells,uf lines]) rfl λbx h1 nx1 H1 => ?_;rw [zA,zA,F22.zo,H1.zm (k:=0) (n:=2) rfl rfl];refine zk6 (by omega) _ _ _ _ ?_;rintro _ rfl _;rw [jH,zB,F22.v3];by_cases c1:(lines.length:Int)<=130/\∀ l∈lines,(l.length:Int)<=40
 case neg =>
  rw [Zab c1,Zam,zC,zA,F22.yw];simp only [zF,zO];rw [F22.ret];exact hK _ _ _ _ _ H1 (.bool _) (by rw [bS,Zab c1];rfl)
 rw [Zac c1,Zao,zD,zE,zA,F22.uy,H1.zm (k:=0) (n:=2) rfl rfl];refine mA (λq hq=>by have:=c1.2 q hq;omega) _ _ _ _ ?_;rintro _ rfl _;rw [fB];by_cases c2:jA cells lines=0
 .rw [Zac c2,Zao];simp only [jG,cW];rw [H1.zm (k:=0) (n:=2) rfl rfl];refine qcg _ _ _ _ ?_;rintro _ rfl _;rw [yB];simp only [zF,zO];rw [F22.ret];exact hK _ _ _ _ _ H1 (.bool _) (by rw [bS,Zac c1,Zac c2];rfl)
 .have w1:∀ (op:KW3->OP) (h:Ev.T Blk) (nx:Pa) (k:KW3),sGW (.bool true) false op h nx k=k .u h nx:=λ_ _ _ _=>nr rfl;have w2:∀ (op:(AV->OP)->OP) (k:AV->OP),sG (.bool true) false op k=k .u:=λ_ _=>nr rfl;rw [Zab c2,Zam];simp only [w2,w1,zY];simp only [zF,zO];rw [F22.ret];exact hK _ _ _ _ _ H1 (.bool _) (by rw [bS,Zac c1,Zab c2];rfl)
theorem law4 {cells:Int} {lines:List (List Int)} {f:List Int} (haw:∀ {B},Pure Tryz.prog B 17 [] (· = .bool true)):Pure Tryz.prog B 4 [.agg [I cells,uf lines],encI f] (· = .bool true):=by
 refine zT λh nx K H0 hK=>zL zN yC 2000 λhf => ?_;have awk:∀ (h:Ev.T Blk) (nx:Pa) (Z:Kw Prop),Z (.bool true) h nx=.ok True->(CS Tryz.prog B).fn 17 (.of 17) [] h nx Z=.ok True:=λh nx Z hZ=>haw _ _ _ _ λv hv _=>by rw [hv];exact hZ
 have ret:∀ {h1 nx1 L},Hp h h1 nx1 L->K (.bool true) h1 nx1=.ok True:=λH=>hK _ _ _ _ _ H (zS rfl) rfl;have x1:∀ (op:KW3->OP) (h:Ev.T Blk) (nx:Pa) (k:KW3),sGW (.bool false) true op h nx k=k .u h nx:=λ_ _ _ _=>nr rfl;rw [F4.go,F4.t40,zA,F4.zu];refine H0.box (l:=[I cells,uf lines]) rfl λbx h1 nx1 H1 => ?_;have lN:∀ op:AV->OP,zK 2 (.ptr bx 0) h1 op=op (.agg [I cells,uf lines]):=λop=>H1.zm (k:=0) (n:=2) rfl rfl;rw [zA,zA,F4.zo,lN];refine zuw _ _ _ _ ?_;rintro _ rfl _;rw [jH];cases cL:bS cells lines with
 | false =>
  rw [Zam];simp only [j3];rw [zY,zB,F4.v9,zC,zA,F4.yw];refine awk _ _ _ ?_;simp only [zF,zO];rw [F4.ret];exact ret H1
 | true =>
 rw [Zao];simp only [jG];rw [zW,pz,yB,zB,F4.v9];by_cases c300:(300:Int)<(f.length:Int)
 .rw [Zac c300,zC,zA,F4.yw];refine awk _ _ _ ?_;simp only [zF,zO];rw [F4.ret];exact ret H1
 simp only [bS,Zal,Zdg,decide_eq_true_eq,Bool.not_eq_true',decide_eq_false_iff_not] at cL;obtain ⟨⟨_,hw40⟩,hL⟩:=cL;have hw:∀ q∈lines,q.length<=1000000:=λq hq=>by have:=hw40 q hq;omega
 rw [Zab c300,zD,zE,zA,F4.uy,lN];by_cases he:jA cells lines=0
 case neg =>
  have hce:uB cells lines f=jA cells lines:=by rw [uB,if_pos he]
  refine zh4 hw he _ _ _ _ ?_;rintro _ rfl _;rw [jB,jE,zA,F4.fF,lN];refine cR hw (by omega) (by rw [hce];exact he) _ _ _ _ ?_;rintro _ rfl _;rw [hce,jB,jE,F4.t36,zA,F4.fU,lN];refine mA hw _ _ _ _ ?_;rintro _ rfl _;rw [zA,zA,F4.nu,fB,Zab he,Zam,zB,F4.v10,zC,zA,F4.ny,F4.r7_0,F4.zw9,zW,qz,Zac (by rfl)];simp only [yL];rw [qz,Zac rfl,zY,F4.r7_1,F4.zxa];simp only [yL];rw [zW,qz,Zac (by rfl),zY];simp only [yL];rw [F4.r7_2,F4.zxb];simp only [yL];rw [qz,Zac rfl,zY];simp only [xT];refine awk _ _ _ ?_;rw [F4.r7_3,F4.zxc,zY];simp only [zF,zO];rw [F4.ret];exact ret H1
 have cF:fewB 16 12 cells lines=true:=hL.resolve_left λq=>q he;simp only [fewB,Zal,decide_eq_true_eq] at cF;obtain ⟨⟨hl,hll⟩,_,hc16⟩:=cF;have hl:lines.length<=12:=by omega
 have hll:∀ l∈lines,l.length<=16:=λl hm=>by have:=hll l hm;omega
 obtain ⟨n,rfl,hn1,_,_,hasc⟩:=zfd he;have hn:n<=16:=by omega
 have hll2:∀ l∈lines,l.length<=256:=λl hm=>by have:=hll l hm;omega
 have hr:∀ l∈lines,∀ c∈l,0<=c/\c<(n:Int):=λl hlm=>(hasc l hlm).2.2;refine zup (by omega) hl hll2 he _ _ _ _ ?_;rintro _ ⟨Q,ps,hred,rfl⟩ _;have hfq:=vC n ps;have eB:AV.lst 1 (frQ n ps).length (zdz n (basL n Q ps))=jK (basL n Q ps):=by
  unfold jK;rw [Zah]
  congr 1
  refine Zee λl hlm => ?_;obtain ⟨c,_,rfl⟩:=Zar.1 hlm;unfold gU;rw [dL]
 rw [eB,jB,jE,zA,F4.fF,lN]
 suffices rest:∀ (v6 v7:AV),(if uB (n:Int) lines f≠0 then v6=.lst 1 0 []/\v7=I (uB (n:Int) lines f) else if 0<=vN (uO lines f) then v6=.lst 1 0 []/\v7=I 16 else ∃ Q ps,zdu n lines Q ps/\v6=gU (corL f (frQ n ps))/\v7=I 0)->IR.run F4.t36 (CS Tryz.prog B) 2000 (fnO F4.res K) (zi F4.res K) (F4.fr (.agg [I (n:Int),uf lines]) (encI f) (.ptr bx 0) (.bool false) (jK (basL n Q ps)) (I 0) v6 v7 .u (.bool false) .u .u .u .u) h1 nx1=.ok True by
  by_cases hc:uB (n:Int) lines f=0
  case neg =>
   refine cR hw (by omega) hc _ _ _ _ ?_;rintro _ rfl _;rw [jB,jE];exact rest _ _ (by rw [if_pos hc];exact ⟨rfl,rfl⟩)
  have hfn:f.length=n/\∀ x∈f, -1000000000<=x/\x<=1000000000:=by
   have hc':=hc;rw [uB,if_neg (λq=>q he)] at hc';by_cases c2:(f.length:Int)=(n:Int)
   case neg=>rw [if_pos c2] at hc';cases hc'
   rw [if_neg (λq=>q c2)] at hc';have c3:f.any aO=false:=by cases q:f.any aO with
    | false=>rfl
    | true=>rw [q] at hc';cases hc'
   refine ⟨by omega,λx hx => ?_⟩;have:=Zem.1 c3 x hx;simp at this;omega
  refine zuv (by omega) hl hll2 (by omega) hc hfn.1 hfn.2 _ _ _ _ ?_;rintro v hv _;by_cases cd:0<=vN (uO lines f)
  .rw [if_pos cd] at hv;subst hv;rw [jB,jE];exact rest _ _ (by rw [if_neg (λq=>q hc),if_pos cd];exact ⟨rfl,rfl⟩)
  .rw [if_neg cd] at hv;obtain ⟨Q2,ps2,zsd,rfl⟩:=hv;rw [jB,jE];exact rest _ _ (by rw [if_neg (λq=>q hc),if_neg cd];exact ⟨Q2,ps2,zsd,rfl,rfl⟩)
 intro v6 v7 hv;rw [F4.t36,zA,F4.fU,lN];refine mA hw _ _ _ _ ?_;rintro _ rfl _;rw [zA,zA,F4.nu,he,fB,Zac rfl,Zao,zB,F4.v10,zD,zE,zA,zA,F4.rG,F4.r8_0,F4.zh5,fB,Zac rfl,Zao];simp only [jG];rw [lN];simp only [cW];refine zco hn1 (by omega) hl hll2 hr _ _ _ _ ?_;rintro _ ⟨R1,p1,hR1,rfl⟩ _;obtain ⟨eR,_⟩:=zh3 hred hR1;rw [F4.r8_1,F4.zh6];simp only [cW];refine ze6 (by rw [Zah];omega) (λl hlm => ?_) _ _ _ _ ?_
 .obtain ⟨c,_,rfl⟩:=Zar.1 hlm;rw [dL];omega
 rintro _ rfl _;rw [F4.r8_2,F4.zxd,Zac eR];simp only [jG];rw [jH,Zao,yB,zB,F4.v11,zD,zE,zA,F4.sJ,lN];refine zfl (by omega) he _ _ _ _ ?_;rintro _ rfl _;have bad:∀ {z:Int} {y12:AV},z≠0->v6=.lst 1 0 []->v7=I z->IR.run F4.t31 (CS Tryz.prog B) 2000 (fnO F4.res K) (zi F4.res K) (F4.fr (.agg [I (n:Int),uf lines]) (encI f) (.ptr bx 0) (.bool false) (jK (basL n Q ps)) (I 0) v6 v7 (I z) (.bool false) (.bool false) (.bool false) y12 .u) h1 nx1=.ok True:=by
  rintro z y12 hz rfl rfl;rw [F4.t31,zA,zA,F4.aV,fB,Zab hz,Zam,zB,F4.v13,zC,zA,F4.zfy,F4.znp,F4.zsg,zW,qz,Zac (by rfl)];simp only [yL];rw [qz,Zac rfl,zY,F4.zvz,F4.zsh];simp only [xT];refine awk _ _ _ ?_;rw [F4.zvy,F4.zsi,zY];simp only [zF,zO];rw [F4.ret];exact ret H1
 rw [zA,zA,F4.aI,F4.znm,F4.zsf,qz];by_cases hc:uB (n:Int) lines f=0
 case neg =>
  rw [if_pos hc] at hv;rw [Zab hc];simp only [jD,x1];rw [F4.zpw,F4.zj2];simp only [jD];rw [yB,zB,F4.v12,zD,zE];exact bad hc hv.1 hv.2
 rw [if_neg (λq=>q hc)] at hv;obtain ⟨_,_,_,hln⟩:=zsa hc;have hln2:∀ l∈lines,aC l f:=λl hlm=>hln l hlm (by have:=hll l hlm;omega);rw [Zac hc];simp only [yL];rw [lN];simp only [xT];refine zjw (by omega) hln2 _ _ _ _ ?_;rintro _ rfl _;rw [F4.zpw,F4.zj2];simp only [yL];rw [jH,zY,zB,F4.v12];by_cases cd:0<=vN (uO lines f)
 .rw [if_pos cd] at hv;rw [Zab (by omega),Zam,zC,F4.zaa];exact bad (by decide) hv.1 hv.2
 rw [if_neg cd] at hv;obtain ⟨Q2,ps2,zsd,rfl,rfl⟩:=hv;have hfn:f.length=n/\∀ x∈f, -1000000000<=x/\x<=1000000000:=by
  have hc':=hc;rw [uB,if_neg (λq=>q he)] at hc';by_cases c2:(f.length:Int)=(n:Int)
  case neg=>rw [if_pos c2] at hc';cases hc'
  rw [if_neg (λq=>q c2)] at hc';have c3:f.any aO=false:=by cases q:f.any aO with
   | false=>rfl
   | true=>rw [q] at hc';cases hc'
  refine ⟨by omega,λx hx => ?_⟩;have:=Zem.1 c3 x hx;simp at this;omega
 have hfq2:=vC n ps2;rw [Zac (by omega),Zao,zD,zE,hc,F4.t31,zA,zA,F4.aV,fB,Zac rfl,Zao,zB,F4.v13,zD,zE,zA,F4.znk,F4.znt,F4.zsj,qz,Zac rfl];simp only [yL];rw [lN];simp only [xT];refine zjx hn1 (by omega) hl hll2 hr hfn.1 hfn.2 _ _ _ _ ?_;rintro _ ⟨R2,p2,hR2,rfl⟩ _;obtain ⟨_,e2⟩:=zh3 zsd hR2;rw [F4.zv2,F4.zsk];simp only [xT];refine zb8 (by rw [Zah];omega) _ _ _ _ ?_;rintro _ rfl _;rw [F4.zv1,F4.zsl,Zac (by rw [e2]),zY];simp only [xT];refine awk _ _ _ ?_;rw [F4.zv0,F4.zsm,zY];simp only [zF,zO];rw [F4.ret];exact ret H1
end Go.Ev
