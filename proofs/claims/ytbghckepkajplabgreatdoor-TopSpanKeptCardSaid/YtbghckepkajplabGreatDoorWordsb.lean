import Derived.Test.YtbghckepkajplabGreatDoorWordsa
import Derived.Test.YtbghckepkajplabGreatDoorCodea
import Derived.Test.YtbghckepkajplabGreatDoorEvD
set_option linter.unusedSimpArgs false
set_option linter.unusedVariables false
namespace Go.Ev
open Go Go.Proofs
variable {B:Nat}
set_option maxRecDepth 100000
theorem zd2 {a b:Nat} (hbN:b<1000000000) (ha:S9 a) (hb:S9 b):Pure Tryz.prog B 84 [wz (dg 1000000000 a),wz (dg 1000000000 b)] (· = wz (dg 1000000000 (Nat.gcd a b))):=by
 refine zV λh g K H0 hK=>zL zR yK (b+100) λhf => ?_;rw [F84.go,F84.t14,zA,F84.zu,zA,zJ];refine F84.t9_L (λm x0 x1 h' g'=>∃ x y:Nat,x0=wz (dg 1000000000 x)/\x1=wz (dg 1000000000 y)/\m=y/\y<1000000000/\S9 x/\S9 y/\Nat.gcd x y=Nat.gcd a b/\h'=h/\g'=g) (m:=b) (by omega) ⟨a,b,rfl,rfl,rfl,hbN,ha,hb,rfl,rfl,rfl⟩ ?_;rintro m z0 z1 z3 z4 h3 g3 R ⟨x,y,rfl,rfl,rfl,hmN,hx,hy,hg,rfl,rfl⟩ hR;rw [F84.t8,zA,zA,F84.zo,dLen,kg];by_cases c:m=0
 .subst c;rw [Zgm] at hg;rw [gH,Zab (by simp),zB,F84.v4,zC,zY,yD,zA,F84.qz];simp only [zG,zQ];rw [F84.ret,hg];exact hK _ _ _ _ _ H0 (zK (qA _)) rfl
 .have hl:=zfu c;rw [Zac (by omega),zB,F84.v4,zD,zE,zJ,zA,F84.nY];refine c7 (by omega) hmN hx hy _ _ _ _ ?_;rintro _ rfl _;have hlt:=Zdr x (show 0<m by omega);rw [yZ,jC,F84.dz];refine hR (x%m) _ _ _ _ _ _ hlt ⟨m,x%m,rfl,rfl,rfl,by omega,hy,Zbe (mR (by decide) (by omega)) hy,?_,rfl,rfl⟩;rw [<- hg,Zfg x m,Nat.gcd_rec m x,Zfg]
theorem zz1 {a b:Nat} (ha:a<=9223372036854775807) (hb:b<=9223372036854775807):Pure Tryz.prog B 204 [I (a:Int),I (b:Int)] (· = I ((Nat.gcd a b:Nat):Int)):=by
 refine zV λh g K H0 hK=>zL zR yK (b+100) λhf => ?_;rw [kz.go,kz.t12,zA,kz.zu,zA,zJ];refine kz.t7_L (λm x0 x1 h' g'=>∃ x y:Nat,x0=I (x:Int)/\x1=I (y:Int)/\m=y/\y<=9223372036854775807/\Nat.gcd x y=Nat.gcd a b/\h'=h/\g'=g) (m:=b) (by omega) ⟨a,b,rfl,rfl,rfl,hb,rfl,rfl,rfl⟩ ?_;rintro m z0 z1 z3 h3 g3 R ⟨x,y,rfl,rfl,rfl,hy,hg,rfl,rfl⟩ hR;rw [kz.t6,zA,zA,kz.zo,kg];by_cases c:m=0
 .subst c;rw [Zgm] at hg;rw [Zab (by omega),zB,kz.v3,zC,zY,yD,zA,kz.rF];simp only [zG,zQ];rw [kz.ret,hg];exact hK _ _ _ _ _ H0 (zK rfl) rfl
 .have hlt:=Zdr x (show 0<m by omega);rw [Zac (by omega),zB,kz.v3,zD,zE,zJ,kz.nY,zh5 (by omega),show (x:Int).tmod (m:Int)=((x%m:Nat):Int) by rw [Zew (by omega)];simp];refine hR (x%m) _ _ _ _ _ hlt ⟨m,x%m,rfl,rfl,rfl,by omega,?_,rfl,rfl⟩;rw [<- hg,Zfg x m,Nat.gcd_rec m x,Zfg]
theorem zsc {z:Int} (hz : -9223372036854775808<=z/\z<=9223372036854775807):Pure Tryz.prog B 138 [I z] (· = oJ z):=by
 refine zV λh g K H0 hK=>zL zR yK 9223372036854775900 λhf => ?_;have hN:9223372036854775808<9223372036854775900:=by decide
 generalize 9223372036854775900=N at hN ⊢
 rw [yj.go,yj.t25,zA,yj.zu];refine H0.alloc λp h1 g1 H1 => ?_;rw [zA,yj.zo,zA,yj.yt,yu,zA,zJ];refine yj.zos (λm x0 x2 h' g'=>∃ (y:Int) (i:Nat) (Z:List Nat) (o:Option Pa),x0=I y/\x2=uf o 1 i/\m=y.natAbs/\m<=9223372036854775808 /\ -9223372036854775808<=y/\y<=9223372036854775807/\Z.length=i/\Dg 1000000000 Z/\bv 1000000000 Z+1000000000 ^ i*m=z.natAbs/\i<=3/\m*1000000000 ^ i<=9223372036854775808/\Hp h h' g' [.gro o 1 i (Z.map D),.arr p [.bool false,.zb]]) (m:=z.natAbs) (by omega) ⟨z,0,[],none,rfl,rfl,rfl,by omega,hz.1,hz.2,rfl,λ_ h=>by simp at h,by simp [bv],by omega,by simp;omega,H1.om 1⟩ ?_;rintro m z0 z2 z4 z5 z6 h3 g3 R ⟨y,i,Z,o,rfl,rfl,rfl,hm,hy1,hy2,hZ,hd,hs,hi3,hb,H3⟩ hR;rw [yj.t17,zA,zA,yj.vk,qj];by_cases c:y=0
 .subst c;simp only [Int.natAbs_zero,Nat.mul_zero,Zee] at hs;rw [Zac rfl,Zah,zB,yj.v5,zC,zY,yD,yj.t21,zA,yj.aI];obtain ⟨h5,hkp,H5,hF⟩:=H3.zly hZ;refine fB hkp (.cons (.bool _) (.cons hF .nil)) ?_;refine xT hd (by omega) _ _ _ _ ?_;rintro _ rfl _;have e:(if decide (z<0) then -(bv 1000000000 Z:Int) else (bv 1000000000 Z:Int))=z:=by
   rw [hs];by_cases d:z<0
   .rw [Zac d,if_pos rfl];omega
   .rw [Zab d,if_neg (by decide)];omega
  rw [e];refine H5.jc (l2:=[.bool (decide (z<0)),wz (dg 1000000000 z.natAbs)]) (k:=0) rfl rfl rfl λh4 H4 => ?_;simp only [zG,zQ];rw [yj.ret,H4.zi (k:=0) (n:=2) rfl rfl];exact hK _ _ _ _ _ H4 dAgg rfl
 .have i2:i<=2:=by
   rcases Zdv 2 i with q | q
   .exfalso
    have e:i=3:=by omega
    subst e;have:1*1000000000 ^ 3<=y.natAbs*1000000000 ^ 3:=Zbk _ (by omega);omega
   .exact q
  have et:(y.tmod 1000000000).natAbs=y.natAbs%1000000000:=by rw [Int.natAbs_tmod];rfl
  have eq:(y.tdiv 1000000000).natAbs=y.natAbs / 1000000000:=by rw [Int.natAbs_tdiv];rfl
  have hml:=Zdr y.natAbs (show 0<1000000000 by decide);have hdv:y.natAbs / 1000000000<y.natAbs:=Nat.div_lt_self (by omega) (by decide);have hmd:=Nat.mod_add_div y.natAbs 1000000000;have fin:∀ (z5 z6:AV) (w:Int),w=((y.natAbs%1000000000:Nat):Int)->yj.t13.run (CS Tryz.prog B) N (((fnO yj.res K).blk 0 (yj.t21.run (CS Tryz.prog B) N (fnO yj.res K) (zf yj.res K))).blk 1 R) R (yj.fr (I y) (.ptr p 0) (uf o 1 i) (.bool (decide (z<0))) (I w) z5 z6) h3 g3=.ok True:=by
   rintro z5 z6 _ rfl;rw [yj.t13,zA,yj.qz];refine H3.zd1 (v:=D (y.natAbs%1000000000)) (by omega) (by decide) rfl rfl λo' h4 n4 H4 => ?_;rw [yj.nZ,zh4 ⟨hy1,hy2⟩ (by omega)];refine hR _ _ _ _ _ _ _ _ (by rw [eq];exact hdv) ⟨y.tdiv 1000000000,i+1,Z++[y.natAbs%1000000000],o',rfl,rfl,rfl,by omega,by omega,by omega,by simp [hZ],hd.append (Dg.one hml),?_,by omega,?_,by rw [Zbi];exact H4⟩
   .rw [eq,nC,hZ,Zdu,Zcu,Zej,<- Zem,hmd];exact hs
   .rw [eq,Zdu,Zdb (1000000000 ^ i),<- Zej];exact Zbe (Zbk _ (by omega)) hb
  rw [Zab c,Zal,zB,yj.v5,zD,zE,zJ,zA,yj.uj,zh5 (by omega),zA,zA,yj.ng,yu,zB,yj.v6];by_cases d:y.tmod 1000000000<0
  .rw [Zac d,zD,yj.rE,xg (by omega)];exact fin _ _ _ (by omega)
  .rw [Zab d,zC,zE];exact fin _ _ _ (by omega)
theorem tN (s:List UInt8) {K:AV->OP}:uO (.str s) K=K (I s.length):=by
 show (dw s.length λn=>K (.int .i64 (.ofNat n)))=_;rw [y4];rfl
theorem tCat {a b:List UInt8} {K:AV->OP} (h:a.length+b.length<=1000000):za .add .str (.str a) (.str b) K=K (.str (a++b)):=by
 show (bif Nat.ble (a.length+b.length) 1000000 then K (.str (a++b)) else .no 5)=_;rw [Zak h];rfl
theorem tSub {s:List UInt8} {a b:Nat} {x y:Int} {K:AV->OP} (hx:x=(a:Int)) (hy:y=(b:Int)) (hab:a<=b) (hb:b<=s.length):j4 (.str s) (some (I x)) (some (I y)) K=K (.str ((s.drop a).take (b-a))):=by
 subst hx;subst hy
 show (match bnd (some (I (b:Int))) s.length s.length with
   | none=>Out.no 18
   | some h=>match bnd (some (I (a:Int))) h 0 with
    | none=>.no 18
    | some l=>K (.str ((s.drop l).take (h-l))))=_
 rw [vK hb]
 dsimp only
 rw [vK hab]
theorem dN {s:List UInt8} {a:Nat} {x:Int} {K:AV->OP} (hx:x=(a:Int)) (ha:a<=s.length):j4 (.str s) (some (I x)) none K=K (.str (s.drop a)):=by
 subst hx
 show (match bnd (some (I (a:Int))) s.length 0 with
    | none=>Out.no 18
    | some l=>K (.str ((s.drop l).take (s.length-l))))=_
 rw [vK ha]
 dsimp only
 rw [Zan (by rw [Zcl];omega)]
theorem tTo {s:List UInt8} {b:Nat} {y:Int} {K:AV->OP} (hy:y=(b:Int)) (hb:b<=s.length):j4 (.str s) none (some (I y)) K=K (.str (s.take b)):=by
 subst hy
 show (match bnd (some (I (b:Int))) s.length s.length with
   | none=>Out.no 18
   | some h=>K (.str ((s.drop 0).take (h-0))))=_
 rw [vK hb];rfl
def dch (x:Nat):UInt8:=UInt8.ofNat (48+x)
def rP (n w:Nat):List Nat:=dg 10 n++List.replicate (w-(dg 10 n).length) 0
def gq (n w:Nat):List UInt8:=(rP n w).reverse.map dch
theorem zvj:∀ n<10,(([48,49,50,51,52,53,54,55,56,57]:List UInt8).drop n).take 1=[dch n]:=by decide +kernel
theorem zd3 {y w:Nat} (h:0<y\/0<w):rP y w=y%10::rP (y / 10) (w-1):=by
 unfold rP;rcases Zel y with e | e
 .subst e;obtain ⟨v,rfl⟩:∃ v,w=v+1:=⟨w-1,by omega⟩;rw [Nat.zero_div,gH]
  rfl
 .rw [kS (by decide) (by omega),Zbs,Zbc,show w-((dg 10 (y / 10)).length+1)=w-1-(dg 10 (y / 10)).length by omega]
theorem zd4:rP 0 0=[]:=by unfold rP;rw [gH];rfl
theorem zh8 {n w:Nat} (hn:n<10 ^ 19) (hw:w<=19):(rP n w).length<=19:=by
 have:=wA (b:=10) (by decide) hn;unfold rP;rw [Zag,Zaz];omega
theorem vX {n w:Nat} (hn:n<=9223372036854775807) (hw:w<=19):Pure Tryz.prog B 205 [I (n:Int),I (w:Int)] (· = .str (gq n w)):=by
 refine zV λh g K H0 hK=>zL zR yK (n+w+10) λhf => ?_;rw [yx.go,yx.t16,zA,yx.zu,zA,yx.zo,zA,zJ];refine yx.zot (λm x0 x3 h' g'=>∃ (y:Nat) (A:List Nat),x0=I (y:Int)/\x3=.str (A.reverse.map dch)/\m=y+(w-A.length)/\y<=9223372036854775807/\rP n w=A++rP y (w-A.length)/\h'=h/\g'=g) (m:=n+w) (by omega) ⟨n,[],rfl,rfl,rfl,hn,rfl,rfl,rfl⟩ ?_;rintro m z0 z3 z4 h3 g3 R ⟨y,A,rfl,rfl,hm,hy,he,rfl,rfl⟩ hR;have hlen:=zh8 (n:=n) (w:=w) (by omega) hw;have hAl:A.length<=19:=by
  have:=congrArg List.length he;rw [Zag] at this;omega
 have go:0<y\/0<w-A.length->yx.t3.run (CS Tryz.prog B) (n+w+10) ((fnO yx.res K).blk 0 (yx.t13.run (CS Tryz.prog B) (n+w+10) (fnO yx.res K) (zf yx.res K))) (yx.t8.run (CS Tryz.prog B) (n+w+10) ((fnO yx.res K).blk 0 (yx.t13.run (CS Tryz.prog B) (n+w+10) (fnO yx.res K) (zf yx.res K))) R) (yx.fr (I (y:Int)) (I (w:Int)) (.str []) (.str (A.reverse.map dch)) (.bool true)) h3 g3=.ok True:=by
  intro hp;have hst:=zd3 hp;rw [hst] at he;have e1:(y:Int).tmod 10=((y%10:Nat):Int):=by rw [Zew (by omega)];omega
  have e2:(y:Int).tdiv 10=((y / 10:Nat):Int):=by rw [Int.tdiv_eq_ediv_of_nonneg (by omega)];omega
  have hA1:A.length<=18:=by
   have:=congrArg List.length he;rw [Zag,Zbc] at this;omega
  rw [yx.t3,zB,yx.v4,zD,zE,yx.t8,zJ,zA,yx.dz,zh5 (by omega),e1,zh5 (by omega),e1,jg (by omega),tSub (a:=y%10) (b:=y%10+1) rfl (by omega) (by omega) (by simp;omega),Zch,zvj _ (Zdr _ (by decide)),tCat (by simp;omega),yx.uj,zh4 (by omega) (by omega),e2];refine hR (y / 10+(w-(A.length+1))) _ _ _ _ _ (by omega) ⟨y / 10,A++[y%10],rfl,by simp,by rw [Zag];rfl,by omega,by rw [he,Zcg];simp [Nat.sub_sub],rfl,rfl⟩
 rw [yx.t9,zA,zA,yx.yt,yx.r2_0,yx.zx9,kg];by_cases c:0<y
 .rw [Zac (by omega)];simp only [yU,zbs,zT];exact go (.inl c)
 rw [Zab (by omega)];simp only [yJ];rw [tN,yu];simp only [zW];by_cases d:A.length<w
 .rw [Zac (by simp;omega)];exact go (.inr (by omega))
 obtain rfl:y=0:=by omega
 rw [show w-A.length=0 by omega,zd4,Zbh] at he;rw [Zab (by simp;omega),yx.t3,zB,yx.v4,zC,zY,yD,yx.t13,zA,yx.nZ];simp only [zG,zQ];rw [yx.ret];exact hK _ _ _ _ _ H0 (zK rfl) (by rw [gq,he])
theorem zh9 (b:Nat):∀ k,bv b (List.replicate k 0)=0
 | 0=>rfl
 | k+1=>by rw [Zex,bv,zh9 b k];simp
theorem bD (n w:Nat):bv 10 (rP n w)=n:=by
 unfold rP;rw [wB,(qM (b:=10) (by decide) n).1,zh9,Nat.mul_zero,Zee]
theorem wZ (n w:Nat):Dg 10 (rP n w):=(qM (b:=10) (by decide) n).2.1.append (Dg.rep (by decide))
theorem fH {n w:Nat} (h:n<10 ^ w):(rP n w).length=w:=by
 have:=wA (b:=10) (by decide) h;unfold rP;rw [Zag,Zaz];omega
theorem xZ {n:Nat} (h:n≠0):rP n 1=dg 10 n:=by
 have e:1<=(dg 10 n).length:=by rw [kS (by decide) h];simp
 unfold rP;rw [show 1-(dg 10 n).length=0 by omega];simp
theorem zn3 {x V:Nat} (hx:x<1000000000) (hV:V≠0):dg 10 (x+1000000000*V)=rP x 9++dg 10 V:=by
 have oV:=qM (b:=10) (by decide) V;have e:bv 10 (rP x 9++dg 10 V)=x+1000000000*V:=by
  rw [wB,bD,fH (by omega),oV.1]
 rw [<- e];refine (c8 (by decide) ((wZ x 9).append oV.2.1) ?_).symm;have hn:dg 10 V≠[]:=by rw [kS (by decide) hV];simp
 have:=oV.2.2;unfold Nm at *
 rw [List.getLast?_append];cases hl:(dg 10 V).getLast? with
 | none=>exact absurd (List.getLast?_eq_none_iff.1 hl) hn
 | some y=>rw [hl] at this;exact this
theorem zn4 {x V:Nat} (hx:x<1000000000) (hV:V≠0):gq (x+1000000000*V) 1=gq V 1++gq x 9:=by
 have hs:x+1000000000*V≠0:=by omega
 unfold gq;rw [xZ hs,xZ hV,zn3 hx hV];simp
def dx (z:Int):List UInt8:=(if z<0 then [45] else [])++gq z.natAbs 1
theorem wS {n k:Nat} (h:n<1000000000 ^ k):(gq n 1).length<=9*k+1:=by
 have e:1000000000 ^ k=10 ^ (9*k):=by rw [Nat.pow_mul]
 have:=wA (b:=10) (n:=9*k) (by decide) (by rw [<- e];exact h);unfold gq rP;simp;omega
theorem vI:gq 0 1=[48]:=by unfold gq rP;rw [gH];rfl
theorem zlz {z:Int} {k:Nat} (hk:k<=90000) (hz:Z9 k z):Pure Tryz.prog B 203 [oJ z] (· = .str (dx z)):=by
 have oz:=qM (b:=1000000000) (by decide) z.natAbs;have lz:=hz.len;rw [vT];refine zV λh y K H0 hK=>zL zR yK 1000010 λhf => ?_;rw [yo.go,yo.t30,zA,yo.zu];refine H0.box (l:=[.bool (decide (z<0)),wz (dg 1000000000 z.natAbs)]) rfl λpa h1 y1 H1 => ?_;rw [zA,zA,yo.zo,sFx,H1.load (k:=0) (i:=0+1) rfl rfl,dLen,qf,zB,yo.v5];by_cases c:z.natAbs=0
 .rw [c,gH,Zac (by rfl),zD,zA,yo.yt];simp only [zG,zQ];rw [yo.ret];refine hK _ _ _ _ _ H1 (zK rfl) ?_;rw [dx,c,if_neg (by omega),vI];rfl
 have hn1:=zfu c;obtain ⟨n,hn⟩:∃ n,(dg 1000000000 z.natAbs).length=n+1:=⟨(dg 1000000000 z.natAbs).length-1,by omega⟩;have htop:=jV (l:=dg 1000000000 z.natAbs) (k:=n) (by omega);have htW:=bL (k:=n) (by decide) oz.2.1;have ht1:(dg 1000000000 z.natAbs).getD n 0≠0:=by
  have:=oz.2.2;unfold Nm at this;rw [List.getLast?_eq_getElem?,hn,Nat.add_sub_cancel,htop] at this;intro q;rw [q] at this;exact this rfl
 rw [Zab (by omega),zC,zE,zA,yo.uj,sFx,H1.load (k:=0) (i:=0+1) rfl rfl,sFx,H1.load (k:=0) (i:=0+1) rfl rfl,dLen,xg (by omega),dIx (i:=n) (by omega) (by omega),dLd htop];refine vX (w:=1) (by omega) (by omega) _ _ _ _ ?_;rintro _ rfl _;rw [zA,zA,yo.ng,sFx,H1.load (k:=0) (i:=0+1) rfl rfl,dLen,xg (by omega),zJ];have hdrop:∀ i,i<n+1->(dg 1000000000 z.natAbs).drop i=(dg 1000000000 z.natAbs).getD i 0::(dg 1000000000 z.natAbs).drop (i+1):=λi hi=>by
  have ea:=jV (l:=dg 1000000000 z.natAbs) (k:=i) (by omega);rw [Zgu (by omega)] at ea;rw [Zav (by omega),Option.some.inj ea]
 have hlast:(dg 1000000000 z.natAbs).drop (n+1)=[]:=Zbg (by omega);refine yo.eT (λm x3 x4 h' y'=>m<=n/\x3=.str (gq (bv 1000000000 ((dg 1000000000 z.natAbs).drop m)) 1)/\x4=I ((m:Int)-1)/\bv 1000000000 ((dg 1000000000 z.natAbs).drop m)≠0/\h'=h1/\y'=y1) (m:=n) (by omega) ⟨by omega,by rw [hdrop n (by omega),hlast];simp [bv],by congr 1;omega,by rw [hdrop n (by omega),hlast];simpa [bv] using ht1,rfl,rfl⟩ ?_;rintro m z3 z4 z6 h3 y3 R ⟨hm,rfl,rfl,hV,rfl,rfl⟩ hR;rw [yo.t15,zA,zA,yo.rE,bq];cases m with
 | zero =>
  rw [Zcw,oz.1,Zab (show ¬ ((0:Int)<=((0:Nat):Int)-1) by omega),zB,yo.v6,zC,zY,yD,zA,zA,yo.rY,sFx,H1.load (k:=0) (i:=0+0) rfl rfl,zB,yo.v7];have hl:=wS hz;by_cases d:z<0
  .rw [Zac d,zD,zA,yo.aI,tCat (by simp;omega)];simp only [zG,zQ];rw [yo.ret];exact hK _ _ _ _ _ H1 (zK rfl) (by rw [dx,if_pos d])
  .rw [Zab d,zC,zE,zA,yo.zad];simp only [zG,zQ];rw [yo.ret];exact hK _ _ _ _ _ H1 (zK rfl) (by rw [dx,if_neg d];rfl)
 | succ m =>
  have ea:=jV (l:=dg 1000000000 z.natAbs) (k:=m) (by omega);have haW:=bL (k:=m) (by decide) oz.2.1;have hl:(gq (bv 1000000000 ((dg 1000000000 z.natAbs).drop (m+1))) 1).length<=9*k+1:=by
   refine wS (Zdd ?_ hz);have e:=zsa (b:=1000000000) (l:=dg 1000000000 z.natAbs) (k:=m+1) (by omega);rw [oz.1] at e;have e2:1*bv 1000000000 ((dg 1000000000 z.natAbs).drop (m+1))<=1000000000 ^ (m+1)*bv 1000000000 ((dg 1000000000 z.natAbs).drop (m+1)):=Zbk _ (Zgj (by decide));omega
  rw [Zac (show (0:Int)<=((m+1:Nat):Int)-1 by omega),zB,yo.v6,zD,zE,zA,zJ,yo.qz,sFx,H1.load (k:=0) (i:=0+1) rfl rfl,dIx (i:=m) (by omega) (by omega),dLd ea];refine vX (w:=9) (by omega) (by omega) _ _ _ _ ?_;rintro _ rfl _;have h9:(gq ((dg 1000000000 z.natAbs).getD m 0) 9).length=9:=by unfold gq;rw [Zae,Zbm,fH (by omega)]
  have e:bv 1000000000 ((dg 1000000000 z.natAbs).drop m)=(dg 1000000000 z.natAbs).getD m 0+1000000000*bv 1000000000 ((dg 1000000000 z.natAbs).drop (m+1)):=by rw [hdrop m (by omega),bv]
  rw [tCat (by omega),yo.rX,xg (by omega)];refine hR m _ _ _ _ _ (by omega) ⟨by omega,by rw [e,zn4 haW hV],by congr 1;omega,by rw [e];omega,rfl,rfl⟩
theorem eH {s:List UInt8} {i:Nat} {x:Int} {c:UInt8} {K:AV->OP} (hx:x=(i:Int)) (hc:s[i]? = some c):wU (.str s) (I x) K=K (.int .u8 (c.toNat:Int)):=by
 subst hx
 show (match s[i]? with
   | some b=>dw b.toNat λn=>K (.int .u8 (.ofNat n))
   | none=>.no 16)=_
 rw [hc]
 dsimp only
 rw [y4];rfl
theorem zfv {x:Nat} (h:x<10):(dch x).toNat=48+x:=by
 have:∀ x<10,(dch x).toNat=48+x:=by decide +kernel
 exact this x h
theorem zia {l:List Nat} {i:Nat} (hi:i<l.length):bv 10 (l.take (i+1)).reverse=l.getD i 0+10*bv 10 (l.take i).reverse:=by
 rw [Zar,jV hi];simp [bv]
theorem fA {l:List Nat} (h:Dg 10 l):bv 10 l.reverse<10 ^ l.length:=by
 have:=zdz (b:=10) (l:=l.reverse) (by decide) (λx hx=>h x (by simpa using hx))
 rwa [Zbm] at this
theorem zb9 {l:List Nat} (hd:Dg 10 l) (hl:l.length<=18):Pure Tryz.prog B 195 [.str (l.map dch)] (· = I ((bv 10 l.reverse:Nat):Int)):=by
 refine zV λh y K H0 hK=>zL zR yK 100 λhf => ?_;rw [jq.go,jq.t18,zA,jq.zu,zA,jq.zo,zA,zA,jq.yt,zJ];refine jq.zou (λm x2 x3 h' y'=>∃ i:Nat,x2=I ((bv 10 (l.take i).reverse:Nat):Int)/\x3=I (i:Int)/\m+i=l.length/\h'=h/\y'=y) (m:=l.length) (by omega) ⟨0,rfl,rfl,rfl,rfl,rfl⟩ ?_;rintro m z2 z3 z4 h3 y3 R ⟨i,rfl,rfl,hm,rfl,rfl⟩ hR;rw [jq.t10,zA,zA,jq.vk,tN,Zae,yu];by_cases c:i<l.length
 .have hx:=bL (k:=i) (by decide) hd;have ec:(l.map dch)[i]? = some (dch (l.getD i 0)):=by rw [Zgw,jV c];rfl
  have hb:=fA (l:=l.take i) hd.take;rw [Zaj,Zbv (by omega)] at hb;have hp:10 ^ i<=10 ^ 17:=Zec (by decide) (by omega);have hs:=zia c;rw [Zac (by omega),zB,jq.v4,zD,zE,zA,zJ,jq.uj,nk (by omega),eH (i:=i) rfl ec,zfv hx,zfr (by omega),jg (by omega),xg (by omega),jq.rE,jg (by omega)];exact hR (m-1) _ _ _ _ _ (by omega) ⟨i+1,by congr 1;omega,rfl,by omega,rfl,rfl⟩
 .rw [Zab (by omega),zB,jq.v4,zC,zY,yD,zA,jq.tF];simp only [zG,zQ];rw [jq.ret];exact hK _ _ _ _ _ H0 (zK rfl) (by rw [Zan (by omega)])
theorem zsd {l:List Nat} {neg:Bool} (hd:Dg 10 l) (hl1:1<=l.length) (hl:l.length<=900000):Pure Tryz.prog B 137 [.str ((if neg then [45] else [])++l.map dch)] (· = oJ (if neg then -((bv 10 l.reverse:Nat):Int) else ((bv 10 l.reverse:Nat):Int))):=by
 refine zV λh y K H0 hK=>zL zR yK 1000010 λhf => ?_;rw [yw.go,yw.t23,zA,yw.zu];refine H0.alloc λp h1 y1 H1 => ?_;have main:∀ x4:AV,yw.t20.run (CS Tryz.prog B) 1000010 (fnO yw.res K) (zf yw.res K) (yw.fr (.str (l.map dch)) (.ptr p 0) (.bool neg) .u x4 .u) h1 y1=.ok True:=by
  intro x4;rw [yw.t20,zA,yw.uj,zA,zJ];refine yw.zgg (λm x0 x3 h' y'=>∃ (i:Nat) (Z:List Nat) (o:Option Pa),x0=.str ((l.take m).map dch)/\x3=uf o 1 i/\1<=m/\m+9*i=l.length/\Z.length=i/\Dg 1000000000 Z/\bv 1000000000 Z+1000000000 ^ i*bv 10 (l.take m).reverse=bv 10 l.reverse/\Hp h h' y' [.gro o 1 i (Z.map D),.arr p [.bool false,.zb]]) (m:=l.length) (by omega) ⟨0,[],none,by rw [Zcs],rfl,hl1,rfl,rfl,λ_ h=>by simp at h,by simp [bv],H1.om 1⟩ ?_;rintro m z0 z3 z5 h3 y3 R ⟨i,Z,o,rfl,rfl,hm1,hm,hZ,hdZ,hs,H3⟩ hR;have hlm:(l.take m).length=m:=by rw [Zaj];omega
  rw [yw.t14,zA,zA,yw.ng,tN,Zae,hlm,kg];by_cases c:9<m
  .have hlt:(l.take m).take (m-9)=l.take (m-9):=by rw [List.take_take,Zbv (by omega)]
   have hpl:((l.take m).drop (m-9)).length=9:=by rw [Zcl];omega
   have hpd:Dg 10 ((l.take m).drop (m-9)):=λx hx=>hd x (Zbn (List.mem_of_mem_drop hx));have hpb:=fA hpd;rw [hpl] at hpb;have hsp:bv 10 (l.take m).reverse=bv 10 ((l.take m).drop (m-9)).reverse+1000000000*bv 10 (l.take (m-9)).reverse:=by
    have e:l.take m=l.take (m-9)++(l.take m).drop (m-9):=by rw [<- hlt,Zfw]
    conv=>lhs;rw [e]
    rw [List.reverse_append,wB,Zbm,hpl]
   rw [Zac (by omega),zB,yw.v5,zD,zE,zJ,zA,yw.rC,tN,Zae,hlm,xg (by omega),dN (a:=m-9) (by omega) (by rw [Zae,hlm];omega),<- List.map_drop];refine zb9 hpd (by omega) _ _ _ _ ?_;rintro _ rfl _;refine H3.zd1 (v:=D (bv 10 ((l.take m).drop (m-9)).reverse)) (by omega) (by decide) rfl rfl λo' h4 n4 H4 => ?_;rw [yw.qz,tN,Zae,hlm,xg (by omega),tTo (b:=m-9) (by omega) (by rw [Zae,hlm];omega),<- Zfr,hlt];refine hR (m-9) _ _ _ _ _ (by omega) ⟨i+1,Z++[bv 10 ((l.take m).drop (m-9)).reverse],o',rfl,rfl,by omega,by omega,by simp [hZ],hdZ.append (Dg.one hpb),?_,by rw [Zbi];exact H4⟩;rw [nC,hZ,Zdu,Zcu,Zej,<- Zem,<- hsp];exact hs
  .have hpd:Dg 10 (l.take m):=hd.take;have hpb:=fA hpd;rw [hlm] at hpb;have hp:10 ^ m<=10 ^ 9:=Zec (by decide) (by omega);rw [Zab (by omega),zB,yw.v5,zC,zY,yD,zA,yw.rG];refine zb9 hpd (by omega) _ _ _ _ ?_;rintro _ rfl _;refine H3.zd1 (v:=D (bv 10 (l.take m).reverse)) (by omega) (by decide) rfl rfl λo' h4 n4 H4 => ?_;rw [show Z.map D++[D (bv 10 (l.take m).reverse)]=(Z++[bv 10 (l.take m).reverse]).map D by rw [Zbi];rfl] at H4;obtain ⟨h5,hkp,H5,hF⟩:=H4.zly (by simp [hZ]);refine fB hkp (.cons (.bool _) (.cons hF .nil)) ?_;refine xT (hdZ.append (Dg.one (by omega))) (by simp;omega) _ _ _ _ ?_;rintro _ rfl _;rw [nC,hZ,hs]
   generalize (if neg=true then -((bv 10 l.reverse:Nat):Int) else ((bv 10 l.reverse:Nat):Int))=z at *
   refine H5.jc (l2:=[.bool (decide (z<0)),wz (dg 1000000000 z.natAbs)]) (k:=0) rfl rfl rfl λh6 H6 => ?_;simp only [zG,zQ];rw [yw.ret,H6.zi (k:=0) (n:=2) rfl rfl];exact hK _ _ _ _ _ H6 dAgg rfl
 cases neg with
 | true =>
  rw [if_pos rfl,zA,yw.zo,tN,kg,Zac (by simp)];simp only [yN];rw [eH (s:=[45]++l.map dch) (i:=0) (x:=0) (c:=45) rfl rfl,qf];simp only [zT];rw [show decide (((45:UInt8).toNat:Int)=45)=true from rfl,zA,zA,yw.yt,zB,yw.v4,zD,yw.vk,dN (s:=[45]++l.map dch) (a:=1) (x:=1) rfl (by simp)];exact main _
 | false =>
  have ec:(l.map dch)[0]? = some (dch (l.getD 0 0)):=by rw [Zgw,jV (by omega)];rfl
  have hx:=bL (k:=0) (by decide) hd;rw [if_neg (by decide),Zbf,zA,yw.zo,tN,Zae,kg,Zac (by omega)];simp only [yN];rw [eH (i:=0) (x:=0) rfl ec,qf,zfv hx];simp only [zT];rw [Zab (by omega),zA,zA,yw.yt,zB,yw.v4,zC,zE];exact main _
theorem m0 {s:List UInt8} {j:Nat} (hl:s.length<=1000000) (hj:j<=s.length) (hb:∀ i c,i<j->s[i]? = some c->c≠47) (he:j=s.length\/s[j]? = some 47):Pure Tryz.prog B 81 [.str s] (· = I (j:Int)):=by
 refine zV λh y K H0 hK=>zL zR yK 1000010 λhf => ?_;rw [F81.go,F81.t20,zA,F81.zu,zA,zA,F81.zo,zJ];refine F81.zae (λm x2 h' y'=>∃ i:Nat,x2=I (i:Int)/\m+i=j/\h'=h/\y'=y) (m:=j) (by omega) ⟨0,rfl,rfl,rfl,rfl⟩ ?_;rintro m z1 z2 z3 z4 h3 y3 R ⟨i,rfl,hm,rfl,rfl⟩ hR;rw [F81.t13,zA,zA,F81.yt,tN,yu];by_cases c:i<s.length
 .have ec:=Zgu c;rw [Zac (by omega),zB,F81.v3,zD,zE,zA,zJ,zA,F81.dz,eH (i:=i) rfl ec,qf,zB,F81.v4];by_cases d:i<j
  .have hn:=hb i _ d ec
   have hn2:¬ ((s[i].toNat:Int)=47):=λq=>hn (by
    have:s[i].toNat=(47:UInt8).toNat:=by
     have e:(47:UInt8).toNat=47:=rfl;omega
    exact UInt8.toNat_inj.1 this)
   rw [Zab hn2,zC,zE,F81.qz,jg (by omega)];exact hR (m-1) _ _ _ _ _ _ (by omega) ⟨i+1,rfl,by omega,rfl,rfl⟩
  .obtain rfl:i=j:=by omega
   have e47:s[i]=47:=by
    rcases he with e | e
    .omega
    .rw [ec] at e;exact Option.some.inj e
   rw [e47,show decide (((47:UInt8).toNat:Int)=47)=true from rfl,zD,zA,F81.uj];simp only [zG,kV,zQ];rw [F81.ret];exact hK _ _ _ _ _ H0 (zK rfl) rfl
 .obtain rfl:i=j:=by omega
  rw [Zab (by omega),zB,F81.v3,zC,zY,yD,zA,F81.rG,tN];simp only [zG,zQ];rw [F81.ret];exact hK _ _ _ _ _ H0 (zK rfl) (by congr 1;omega)
def jv (q:Rat):List UInt8:=dx q.num++(if q.den=1 then [] else 47::dx (q.den:Int))
theorem zz2 {x:Nat} (h:x<10):dch x≠47:=by
 have:∀ x<10,dch x≠47:=by decide +kernel
 exact this x h
theorem pX {z:Int} {c:UInt8} (h:c∈dx z):c≠47:=by
 unfold dx gq at h;rcases Zbb.1 h with q | q
 .split at q
  .rw [Zba.1 q];decide
  .cases q
 .obtain ⟨x,hx,rfl⟩:=Zao.1 q;exact zz2 (wZ _ _ x (by simpa using hx))
theorem vC {z:Int} {k:Nat} (h:Z9 k z):(dx z).length<=9*k+2:=by
 have:=wS h;unfold dx;rw [Zag];split <;> simp <;> omega
theorem zib (n:Nat):1<=(rP n 1).length:=by unfold rP;rw [Zag,Zaz];omega
theorem zkr {z:Int} {k:Nat} (hk:k<=90000) (hz:Z9 k z):Pure Tryz.prog B 137 [.str (dx z)] (· = oJ z):=by
 have hl:=wS hz;unfold gq at hl;rw [Zae,Zbm] at hl;have hp:=zsd (B:=B) (l:=(rP z.natAbs 1).reverse) (neg:=decide (z<0)) (λx hx=>wZ _ _ x (by simpa using hx)) (by rw [Zbm];exact zib _) (by rw [Zbm];omega);rw [Zet,bD] at hp;have e1:(if decide (z<0)=true then [45] else [])++(rP z.natAbs 1).reverse.map dch=dx z:=by
  unfold dx gq;by_cases d:z<0
  .rw [if_pos d,if_pos (Zac d)]
  .rw [if_neg d,if_neg (by rw [Zab d];decide)]
 have e2:(if decide (z<0)=true then -((z.natAbs:Nat):Int) else ((z.natAbs:Nat):Int))=z:=by
  by_cases d:z<0
  .rw [if_pos (Zac d)];omega
  .rw [if_neg (by rw [Zab d];decide)];omega
 rw [e1,e2] at hp;exact hp
theorem zic {q:Rat} {k:Nat} (hk:k<=40000) (hn:Z9 k q.num) (hd:Z9 k (q.den:Int)):Pure Tryz.prog B 83 [.str (jv q)] (· = .tup [oJ q.num,oJ (q.den:Int)]):=by
 refine zV λh y K H0 hK=>zL zR yK 100 λhf => ?_;have l1:=vC hn;have l2:=vC hd;rw [F83.go,F83.t13,zA,F83.zu];refine H0.alloc λp1 h1 y1 H1 => ?_;refine H1.alloc λp2 h2 y2 H2 => ?_;rw [zA,F83.zo,zA,F83.yt];by_cases c:q.den=1
 .have e:jv q=dx q.num:=by unfold jv;rw [if_pos c,Zbh]
  rw [e];refine m0 (j:=(dx q.num).length) (by omega) (by omega) (λi c _ hc=>pX (Zad hc)) (.inl rfl) _ _ _ _ ?_;rintro _ rfl _;rw [zA,zA,F83.vk,tN,qf,Zac rfl,zB,F83.v5,zD,zA,F83.nY];refine zkr (by omega) hn _ _ _ _ ?_;rintro _ rfl _;refine zsc (by omega) _ _ _ _ ?_;rintro _ rfl _;refine H2.jc (l2:=[.bool (decide (q.num<0)),wz (dg 1000000000 q.num.natAbs)]) (k:=1) rfl rfl rfl λh3 H3 => ?_;refine H3.jc (l2:=[.bool (decide ((1:Int)<0)),wz (dg 1000000000 (1:Int).natAbs)]) (k:=0) rfl rfl rfl λh4 H4 => ?_;simp only [zG,zQ];rw [F83.ret,H4.zi (k:=1) (n:=2) rfl rfl,H4.zi (k:=0) (n:=2) rfl rfl];exact hK _ _ _ _ _ H4 (jI dAgg dAgg) (by rw [c];rfl)
 .have e:jv q=dx q.num++47::dx (q.den:Int):=by unfold jv;rw [if_neg c]
  have el:(jv q).length=(dx q.num).length+((dx (q.den:Int)).length+1):=by rw [e,Zag,Zbc]
  have et:(jv q).take (dx q.num).length=dx q.num:=by rw [e,Zfb];rfl
  have ed:(jv q).drop ((dx q.num).length+1)=dx (q.den:Int):=by rw [e,<- Zfk,List.drop_left'];rfl;rfl
  refine m0 (j:=(dx q.num).length) (by omega) (by omega) (λi c hi hc => ?_) (.inr ?_) _ _ _ _ ?_
  .rw [e,Zha hi] at hc;exact pX (Zad hc)
  .rw [e,Zgx (Zaf _),Zcv];rfl
  rintro _ rfl _;rw [zA,zA,F83.vk,tN,qf,Zab (by omega),zB,F83.v5,zC,zE,zA,F83.rE,tTo (b:=(dx q.num).length) rfl (by omega),et,jg (by omega),dN (a:=(dx q.num).length+1) (by omega) (by omega),ed];refine zkr (by omega) hn _ _ _ _ ?_;rintro _ rfl _;rw [dN (a:=(dx q.num).length+1) (by omega) (by omega),ed,zF,jg (by omega)];simp only [zF];refine zkr (by omega) hd _ _ _ _ ?_;rintro _ rfl _;refine H2.jc (l2:=[.bool (decide (q.num<0)),wz (dg 1000000000 q.num.natAbs)]) (k:=1) rfl rfl rfl λh3 H3 => ?_;refine H3.jc (l2:=[.bool (decide ((q.den:Int)<0)),wz (dg 1000000000 (q.den:Int).natAbs)]) (k:=0) rfl rfl rfl λh4 H4 => ?_;simp only [zG,zQ];rw [F83.ret,H4.zi (k:=1) (n:=2) rfl rfl,H4.zi (k:=0) (n:=2) rfl rfl];exact hK _ _ _ _ _ H4 (jI dAgg dAgg) rfl
def rQ (q:Rat):List UInt8:=gq q.num.natAbs 1++(if q.den=1 then [] else 47::gq q.den 1)
theorem pP (q:Rat):jv q=(if q.num<0 then [45] else [])++rQ q:=by
 unfold jv rQ dx;rw [Zcg,if_neg (show ¬ ((q.den:Int)<0) by omega),Zbf,Zbj]
theorem wR (n:Nat):1<=(gq n 1).length:=by unfold gq;rw [Zae,Zbm];exact zib n
theorem vJ {n:Nat} {c:UInt8} (h:c∈gq n 1):c≠47/\c≠45:=by
 unfold gq at h;obtain ⟨x,hx,rfl⟩:=Zao.1 h;have hx10:=wZ n 1 x (by simpa using hx);have:∀ x<10,dch x≠47/\dch x≠45:=by decide +kernel
 exact this x hx10
theorem zse {n:Nat} (hl:(gq n 1).length<=18):Pure Tryz.prog B 195 [.str (gq n 1)] (· = I (n:Int)):=by
 have hl2:=hl;unfold gq at hl2;rw [Zae] at hl2;have:=zb9 (B:=B) (l:=(rP n 1).reverse) (λx hx=>wZ _ _ x (by simpa using hx)) hl2;rw [Zet,bD] at this;exact this
theorem zl0 {n k:Nat} (hl:(gq n 1).length<=k):n<10 ^ k:=by
 have e:(rP n 1).length<=k:=by unfold gq at hl;simpa using hl
 have:=zdz (b:=10) (by decide) (wZ n 1);rw [bD] at this;exact Zdc this (Zec (by decide) e)
theorem bA {q:Rat} (hq1:q.num.natAbs<1000000000) (hq2:q.den<1000000000):Pure Tryz.prog B 141 [.str (jv q)] (· = .tup [I q.num,I (q.den:Int),.bool true]):=by
 refine zV λh y K H0 hK=>zL zR yK 100 λhf => ?_;have w9:∀ {n:Nat},n<1000000000->(gq n 1).length<=9:=λ{n} h=>by
  have:=wA (b:=10) (z:=n) (n:=9) (by decide) h;unfold gq rP;rw [Zae,Zbm,Zag,Zaz];omega
 have h9n:=w9 hq1;have h9d:=w9 hq2;have hcut:jv q=(if q.num<0 then [45] else [])++rQ q:=pP q;have hd1:=wR q.num.natAbs;have hbl:(rQ q).length=(gq q.num.natAbs 1).length+(if q.den=1 then [] else 47::gq q.den 1).length:=by rw [rQ,Zag]
 have hb19:(rQ q).length<=(gq q.num.natAbs 1).length+10:=by rw [hbl];split <;> simp;omega
 have hr20:(jv q).length<=20:=by rw [hcut,Zag];split <;> simp <;> omega
 rw [zm.go,zm.t38,zA,zm.zu,zA,zm.zo,zA,zA,zm.yt,tN,kg,zB,zm.v9];rw [Zab (by omega),zC,zE];have main:∀ x10:AV,zm.t33.run (CS Tryz.prog B) 100 (fnO zm.res K) (zf zm.res K) (zm.fr (.str (jv q)) (I 0) (I 0) (.bool false) (.str (rQ q)) (.bool (decide (q.num<0))) .u .u .u (.bool false) x10 .u .u .u) h y=.ok True:=by
  intro x10;have qdk:∀ i c,i<(gq q.num.natAbs 1).length->(rQ q)[i]? = some c->c≠47:=λi c hi hc=>by
   rw [rQ,Zha hi] at hc;exact (vJ (Zad hc)).1
  have hat:(gq q.num.natAbs 1).length=(rQ q).length\/(rQ q)[(gq q.num.natAbs 1).length]? = some 47:=by
   by_cases c:q.den=1
   .rw [if_pos c] at hbl;exact .inl (by simpa using hbl.symm)
   .right
    rw [rQ,if_neg c,Zgx (Zaf _),Zcv];rfl
  have ht:(rQ q).take (gq q.num.natAbs 1).length=gq q.num.natAbs 1:=by rw [rQ,Zfb];rfl
  rw [zm.t33,zA,zm.nZ];refine m0 (j:=(gq q.num.natAbs 1).length) (by omega) (by omega) qdk hat _ _ _ _ ?_;rintro _ rfl _;rw [zA,zA,zm.rX,zm.r8_0,zm.zya,kg];rw [Zab (by omega)];simp only [yJ];rw [tN,xg (by omega),kg,zm.r8_1,zm.zyb];simp only [zW];rw [zB,zm.v11];rw [Zab (by omega),zC,zE,zA,zm.zgh,tTo (b:=(gq q.num.natAbs 1).length) rfl (by omega),ht];refine zse (by omega) _ _ _ _ ?_;rintro _ rfl _;have fin:∀ x12:AV,zm.t29.run (CS Tryz.prog B) 100 (fnO zm.res K) (zf zm.res K) (zm.fr (.str (jv q)) (I 0) (I 0) (.bool false) (.str (rQ q)) (.bool (decide (q.num<0))) (I ((gq q.num.natAbs 1).length:Int)) (I (q.num.natAbs:Int)) (I (q.den:Int)) (.bool false) x10 (.bool false) x12 .u) h y=.ok True:=by
   intro x12;rw [zm.t29,zA,zA,zm.zgi,zB,zm.v13];by_cases d:q.num<0
   .rw [Zac d,zD,zm.zad,xg (by omega),zA,zm.zc6];simp only [zG,zQ];rw [zm.ret];exact hK _ _ _ _ _ H0 (zhh (.int _ _) (.int _ _) (.bool _)) (by rw [show (0:Int)-(q.num.natAbs:Int)=q.num by omega])
   .rw [Zab d,zC,zE,zA,zm.zc6];simp only [zG,zQ];rw [zm.ret];exact hK _ _ _ _ _ H0 (zhh (.int _ _) (.int _ _) (.bool _)) (by rw [show ((q.num.natAbs:Nat):Int)=q.num by omega])
  rw [zA,zA,zm.rY,tN,yu,zB,zm.v12];by_cases c:q.den=1
  .rw [if_pos c,Zey,Zee] at hbl;rw [Zab (by omega),zC,zE];have:=fin (.bool false);rw [c] at this;exact this
  .rw [if_neg c,Zbc] at hbl;have ed:(rQ q).drop ((gq q.num.natAbs 1).length+1)=gq q.den 1:=by rw [rQ,if_neg c,<- Zfk,List.drop_left'];rfl;rfl
   rw [Zac (by omega),zD,zm.aI,jg (by omega),dN (a:=(gq q.num.natAbs 1).length+1) (by omega) (by omega),ed];refine zse (by omega) _ _ _ _ ?_;rintro _ rfl _;exact fin _
 by_cases d:q.num<0
 .rw [if_pos d] at hcut;have e0:(jv q)[0]? = some 45:=by rw [hcut];rfl
  have el:(jv q).length=(rQ q).length+1:=by rw [hcut];rfl
  have ed:(jv q).drop 1=rQ q:=by rw [hcut];rfl
  rw [zA,zm.ng,tN,kg,Zac (by omega)];simp only [yN];rw [eH (i:=0) (x:=0) rfl e0,qf];simp only [zT];rw [show decide (((45:UInt8).toNat:Int)=45)=true from rfl,zA,zA,zm.rE,zB,zm.v10,zD,zm.rF,dN (a:=1) (x:=1) rfl (by omega),ed];have:=main (.bool true);rw [Zac d] at this;exact this
 .rw [if_neg d,Zbf] at hcut;obtain ⟨c0',hc0⟩:∃ c,(gq q.num.natAbs 1)[0]? = some c:=⟨_,Zgu (by omega)⟩;have e0:(jv q)[0]? = some c0':=by rw [hcut,rQ,Zha (by omega),hc0]
  have hne:=(vJ (Zad hc0)).2
  have hne2:¬ ((c0'.toNat:Int)=45):=λh=>hne (by
   have e:(45:UInt8).toNat=45:=rfl;have:c0'.toNat=(45:UInt8).toNat:=by omega
   exact UInt8.toNat_inj.1 this)
  rw [zA,zm.ng,tN,kg,Zac (by rw [hcut];omega)];simp only [yN];rw [eH (i:=0) (x:=0) rfl e0,qf];simp only [zT];rw [Zab hne2,zA,zA,zm.rE,zB,zm.v10,zC,zE];have:=main (.bool false);rw [Zab d] at this;rw [<- hcut] at this;exact this
def ru (z:Int):Prop := -9223372036854775807<=z/\z<=9223372036854775807
def vw (s w:AV) (z:Int):Prop:=s=I z/\w=.zb/\ru z
def ql (v:AV) (z:Int):Prop:=∃ s w,v=.agg [s,w]/\vw s w z
theorem kE {N:Pa->Prop} {O:AV->Prop} {hh:T Blk} {l:List AV} (h:∀ v∈l,rD v=true):Frz True N O hh (.agg l) (.agg l) :=
 .agg _ _ rfl (Zaw.2 λv hv=>rD.gy (h v hv)) λi v v' h1 h2=>by rw [h1] at h2;cases h2;exact zK (h v (Zad h1))
theorem vw.fix {s w:AV} {z:Int} (h:vw s w z):∀ v∈[s,w],rD v=true:=by
 intro v hv;simp only [Zaq,List.not_mem_nil,or_false] at hv;obtain ⟨rfl,rfl,_⟩:=h;rcases hv with rfl | rfl <;> rfl
theorem ql.frz {v:AV} {z:Int} (h:ql v z) {N:Pa->Prop} {O:AV->Prop} {hh:T Blk}:Frz True N O hh v v:=by
 obtain ⟨s,w,rfl,h⟩:=h;exact kE h.fix
theorem yX {z:Int} (h:ru z):ql (.agg [I z,.zb]) z:=⟨_,_,rfl,rfl,rfl,h⟩
theorem kO {K:AV->OP}:za .eql (.nil .sl) .zb .zb K=K (.bool true):=nr rfl
theorem zsf {K:AV->OP}:za .neq (.nil .sl) .zb .zb K=K (.bool false):=nr rfl
theorem zz3 {a b:Bool} {K:AV->OP}:za .eql .bool (.bool a) (.bool b) K=K (.bool (a==b)):=by cases a <;> cases b <;> exact nr rfl
theorem zz4 {a b:Bool} {K:AV->OP}:za .neq .bool (.bool a) (.bool b) K=K (.bool (a != b)):=by cases a <;> cases b <;> exact nr rfl
theorem uX {z:Int} {K:AV->OP}:gV [(I 0),.zb] [(0,1,I z)] K=K (.agg [I z,.zb]):=nr rfl
theorem zsg {z:Int} (h:ru z):Pure Tryz.prog B 131 [I z] (λv=>ql v z):=by
 refine zV λhh y K H0 hK=>zL zR yK 100 λhf => ?_;rw [nu.go,nu.t3,zA,nu.zu];refine H0.alloc λp h1 y1 H1 => ?_;rw [zA,nu.zo,uX];refine H1.jc (l2:=[I z,.zb]) (k:=0) rfl rfl rfl λh4 H4 => ?_;simp only [zG,zQ];rw [nu.ret,H4.zi (k:=0) (n:=2) rfl rfl];exact hK _ _ _ _ _ H4 (yX h).frz (yX h)
def uC (z:Int):Int:=if z<0 then -1 else if 0<z then 1 else 0
theorem zvk {z:Int} {K:AV->OP}:sMin false (I 1) [I z] K=K (I (if z<1 then z else 1)):=by
 have e:sMin false (I 1) [I z] K=K (I (bif ilt z 1 then z else 1)):=nr rfl;rw [e,xL];by_cases c:z<1
 .rw [if_pos c,Zac c];rfl
 .rw [if_neg c,Zab c];rfl
theorem zvl {z:Int} {K:AV->OP}:sMin true (I (-1)) [I z] K=K (I (if -1<z then z else -1)):=by
 have e:sMin true (I (-1)) [I z] K=K (I (bif ilt (-1) z then z else -1)):=nr rfl;rw [e,xL];by_cases c : -1<z
 .rw [if_pos c,Zac c];rfl
 .rw [if_neg c,Zab c];rfl
theorem pJ {v:AV} {z:Int} (hv:ql v z):Pure Tryz.prog B 132 [v] (· = I (uC z)):=by
 obtain ⟨s,w,rfl,rfl,rfl,hv⟩:=hv;refine zV λh y K H0 hK=>zL zR yK 100 λhf => ?_;rw [ny.go,ny.t3,zA,ny.zu];refine H0.box (l:=[I z,.zb]) rfl λpa h1 y1 H1 => ?_;have hn:(if -1<(if z<1 then z else 1) then (if z<1 then z else 1) else -1)=uC z:=by
  unfold uC
  (repeat' split) <;> omega
 rw [zA,ny.zo,sFx,H1.load (k:=0) (i:=0+0) rfl rfl,zvk,zvl,hn];simp only [zG,zQ];rw [ny.ret];exact hK _ _ _ _ _ H1 (zK rfl) rfl
theorem vA {v:AV} {z:Int} (hv:ql v z):Pure Tryz.prog B 135 [v] (λv=>ql v (-z)):=by
 obtain ⟨s,w,rfl,rfl,rfl,hv⟩:=hv;unfold ru at hv;refine zV λh y K H0 hK=>zL zR yK 100 λhf => ?_;rw [mg.go,mg.t11,zA,mg.zu];refine H0.box (l:=[I z,.zb]) rfl λpa h1 y1 H1 => ?_;refine H1.alloc λp h2 y2 H2 => ?_;rw [zA,zA,mg.zo,sFx,H2.load (k:=1) (i:=0+1) (v:=.zb) rfl rfl,kO];simp only [yN];rw [sFx,H2.load (k:=1) (i:=0+0) rfl rfl,qj,zT,zB,mg.v5,Zab (by omega),Zal,zD,zA,mg.yt,sFx,H2.load (k:=1) (i:=0+0) rfl rfl,uNeg (by omega),uX];refine H2.jc (l2:=[I (-z),.zb]) (k:=0) rfl rfl rfl λh4 H4 => ?_;simp only [zG,zQ];rw [mg.ret,H4.zi (k:=0) (n:=2) rfl rfl];exact hK _ _ _ _ _ H4 (yX (by unfold ru;omega)).frz (yX (by unfold ru;omega))
theorem zks {a b:Int} {K:AV->OP}:za .add .int (I a) (I b) K=K (I (IntKind.wrap .i64 (a+b))):=zxk
theorem zid {a b:Int} (ha : -9223372036854775808<=a/\a<=9223372036854775807) (hb : -9223372036854775808<=b/\b<=9223372036854775807) :
  (decide (a<IntKind.wrap .i64 (a+b))==decide (0<b))=true↔(-9223372036854775808<=a+b/\a+b<=9223372036854775807):=by
 have e:∀ z:Int,IntKind.wrap .i64 z=(z+9223372036854775808)%18446744073709551616-9223372036854775808:=by
  intro z;rw [IntKind.wrap_i64] <;> omega
 rw [e];by_cases c:0<b
 .rw [Zac c];by_cases d:a+b<=9223372036854775807
  .rw [Zac (by omega)];simp;omega
  .rw [Zab (by omega)];simp;omega
 .rw [Zab c];by_cases d : -9223372036854775808<=a+b
  .rw [Zab (by omega)];simp;omega
  .rw [Zac (by omega)];simp;omega
theorem zl1 {va vb:AV} {a b:Int} (hva:ql va a) (hvb:ql vb b) (hs:ru (a+b)):Pure Tryz.prog B 170 [va,vb] (λv=>ql v (a+b)):=by
 obtain ⟨s,w,rfl,rfl,rfl,hva⟩:=hva;obtain ⟨s',w',rfl,rfl,rfl,hvb⟩:=hvb;unfold ru at hva hvb;have hs':=hs;unfold ru at hs';refine zV λh y K H0 hK=>zL zR yK 100 λhf => ?_;rw [qi.go,qi.t30,zA,qi.zu];refine H0.box (l:=[I a,.zb]) rfl λpa h1 y1 H1 => ?_;refine H1.box (l:=[I b,.zb]) rfl λpb h2 y2 H2 => ?_;refine H2.alloc λp h3 y3 H3 => ?_;rw [zA,zA,qi.zo,sFx,H3.load (k:=2) (i:=0+1) (v:=.zb) rfl rfl,kO];simp only [yN];rw [sFx,H3.load (k:=1) (i:=0+1) (v:=.zb) rfl rfl,kO,zT,zB,qi.v10,zD,zA,qi.yt,sFx,H3.load (k:=2) (i:=0+0) rfl rfl,sFx,H3.load (k:=1) (i:=0+0) rfl rfl,zks,zA,qi.vk,sFx,H3.load (k:=2) (i:=0+0) rfl rfl,kg,sFx,H3.load (k:=1) (i:=0+0) rfl rfl,kg,zz3,zB,qi.v11];have hw : -9223372036854775808<=a+b/\a+b<=9223372036854775807:=by omega
 rw [(zid (a:=a) (b:=b) (by omega) (by omega)).2 hw,zD,zA,qi.nY,qY hw,uX];simp only [zG,zQ];refine H3.jc (l2:=[I (a+b),.zb]) (k:=0) rfl rfl rfl λh4 H4 => ?_;rw [qi.ret,H4.zi (k:=0) (n:=2) rfl rfl];exact hK _ _ _ _ _ H4 (yX hs).frz (yX hs)
theorem dV {va vb:AV} {a b:Int} (hva:ql va a) (hvb:ql vb b) (hs:ru (a*b)):Pure Tryz.prog B 190 [va,vb] (λv=>ql v (a*b)):=by
 obtain ⟨s,w,rfl,rfl,rfl,hva⟩:=hva;obtain ⟨s',w',rfl,rfl,rfl,hvb⟩:=hvb;unfold ru at hva hvb;have hs':=hs;unfold ru at hs';have hab:a.natAbs*b.natAbs<=9223372036854775807:=by rw [<- Zci];omega
 refine zV λh y K H0 hK=>zL zR yK 100 λhf => ?_;rw [jy.go,jy.t24,zA,jy.zu];refine H0.box (l:=[I a,.zb]) rfl λpa h1 y1 H1 => ?_;refine H1.box (l:=[I b,.zb]) rfl λpb h2 y2 H2 => ?_;refine H2.alloc λp h3 y3 H3 => ?_;have hsgn:(if (decide (a<0) != decide (b<0))=true then -((a.natAbs*b.natAbs:Nat):Int) else ((a.natAbs*b.natAbs:Nat):Int))=a*b:=by
  rw [<- Zci];by_cases c1:a<0 <;> by_cases c2:b<0
  .rw [Zac c1,Zac c2,if_neg (by decide)];have:=Zea (show a<=0 by omega) (show b<=0 by omega);omega
  .rw [Zac c1,Zab c2,if_pos (by decide)];have:=Int.mul_nonpos_of_nonpos_of_nonneg (show a<=0 by omega) (show 0<=b by omega);omega
  .rw [Zab c1,Zac c2,if_pos (by decide)];have:=Int.mul_nonpos_of_nonneg_of_nonpos (show 0<=a by omega) (show b<=0 by omega);omega
  .rw [Zab c1,Zab c2,if_neg (by decide)];have:=Zgi (show 0<=a by omega) (show 0<=b by omega);omega
 have ret:∀ {h4 y4 z} {x0 x1 x2 x3 x5 x6 x7 x8 x9 x10 x11 x12 x13:AV},Hp h h4 y4 [.arr p [I 0,.zb],.arr pb [I b,.zb],.arr pa [I a,.zb]]->z=a*b->(yA 2 (.ptr p 0) (.agg [I z,.zb]) h4 y4 λv2 h3 n4=>zf jy.res K (jy.fr x0 x1 x2 x3 (.ptr p 0) x5 x6 x7 x8 x9 x10 x11 x12 x13) h3 n4)=.ok True:=λH e=>by
  subst e;refine H.jc (l2:=[I (a*b),.zb]) (k:=0) rfl rfl rfl λh4 H4 => ?_;rw [jy.ret,H4.zi (k:=0) (n:=2) rfl rfl];exact hK _ _ _ _ _ H4 (yX hs).frz (yX hs)
 rw [zA,zA,jy.zo,sFx,H3.load (k:=2) (i:=0+1) (v:=.zb) rfl rfl,kO];simp only [yN];rw [sFx,H3.load (k:=1) (i:=0+1) (v:=.zb) rfl rfl,kO,zT,zB,jy.v11,zD,zA,jy.yt,sFx,H3.load (k:=2) (i:=0+0) rfl rfl,sFx,H3.load (k:=1) (i:=0+0) rfl rfl];refine zfs (by omega) _ _ _ _ ?_;rintro _ rfl _;rw [H3.load (k:=1) (i:=0+0) rfl rfl,zF,sFx,zF];refine zfs (by omega) _ _ _ _ ?_;rintro _ rfl _;refine zzw (by omega) (by omega) _ _ _ _ ?_;rintro _ rfl _;rw [yZ,jC,zA,jy.vk,qdh,Zac (Zes (by omega))];simp only [yN];rw [Zbx (by omega),show (AV.int .u64 9223372036854775807)=U 9223372036854775807 from rfl,uLeq,zT,zB,jy.v12];rw [Zac hab,zD,zA,zA,jy.nY,sFx,H3.load (k:=2) (i:=0+0) rfl rfl,yu,sFx,H3.load (k:=1) (i:=0+0) rfl rfl,yu,zz4,zB,jy.v13];by_cases c:(decide (a<0) != decide (b<0))=true
 .rw [if_pos c] at hsgn;rw [c,zD,zA,jy.dz,zfr (by omega),uNeg (by omega),uX];simp only [zG,zQ];exact ret H3 hsgn
 .rw [if_neg c] at hsgn;rw [show (decide (a<0) != decide (b<0))=false by simpa using c,zC,zE,zA,jy.rF,zfr (by omega),uX];simp only [zG,zQ];exact ret H3 hsgn
theorem zvm {a b:Int} {K:AV->OP} (ha : -9223372036854775808<=a/\a<=9223372036854775807) (hb:1<=b):za .quo .int (I a) (I b) K=K (I (a.tdiv b)):=by
 have e:za .quo .int (I a) (I b) K=(bif ieq b 0 then Out.no 5 else wu (IntKind.i64.wrap (a.tdiv b)) λz=>K (.int .i64 z)):=rfl;have h0:ieq b 0=false:=by rw [xM];exact Zab (by omega)
 rw [e,h0,cond_false,uE,Go.IntWalk.i64_quo' a b ⟨ha.1,ha.2,hb⟩]
theorem zvn {a b:Int} {K:AV->OP} (hb:1<=b):za .rem .int (I a) (I b) K=K (I (a.tmod b)):=by
 have e:za .rem .int (I a) (I b) K=(bif ieq b 0 then Out.no 5 else wu (a.tmod b) λz=>K (.int .i64 z)):=rfl;have h0:ieq b 0=false:=by rw [xM];exact Zab (by omega)
 rw [e,h0,cond_false,uE]
theorem zca {a b q r:Int} (hb:0<b) (h:a=q*b+r) (h0:0<=r) (h1:r<b):a / b=q/\a%b=r:=by
 subst h;refine ⟨?_,?_⟩
 .rw [Int.add_comm,Int.add_mul_ediv_right _ _ (by omega),Int.ediv_eq_zero_of_lt h0 h1,Int.zero_add]
 .rw [Int.add_comm,Int.add_mul_emod_self_right,Int.emod_eq_of_lt h0 h1]
theorem zfw {a b:Int} (hb:1<=b):(a.tmod b<0->a / b=a.tdiv b-1/\a%b=a.tmod b+b /\ -b<a.tmod b)/\(0<=a.tmod b->a / b=a.tdiv b/\a%b=a.tmod b):=by
 have e:=Int.mul_tdiv_add_tmod a b;have h1:=Zgn a (show 0<b by omega);have h2 : -b<a.tmod b:=by
  have:=Zgn (-a) (show 0<b by omega);rw [Int.neg_tmod] at this;omega
 rw [Int.mul_comm] at e;refine ⟨λh => ?_,λh=>zca (by omega) e.symm h h1⟩;obtain ⟨c1,c2⟩:=zca (a:=a) (b:=b) (q:=a.tdiv b-1) (r:=a.tmod b+b) (by omega) (by rw [Int.sub_mul];omega) (by omega) (by omega);exact ⟨c1,c2,h2⟩
theorem zn5 {a b:Int} (ha : -9223372036854775807<=a) (hb:1<=b) : -9223372036854775807<=a / b:=by
 refine (Int.le_ediv_iff_mul_le (by omega)).2 ?_;have:=Zdo hb (show (0:Int)<=9223372036854775807 by omega);omega
theorem fQ {va vb:AV} {a b:Int} (hva:ql va a) (hvb:ql vb b) (hb:1<=b):Pure Tryz.prog B 244 [va,vb] (λv=>∃ v1 v2,v=.tup [v1,v2]/\ql v1 (a / b)/\ql v2 (a%b)):=by
 obtain ⟨s,w,rfl,rfl,rfl,hva⟩:=hva;obtain ⟨s',w',rfl,rfl,rfl,hvb⟩:=hvb;unfold ru at hva hvb;refine zV λh y K H0 hK=>zL zR yK 100 λhf => ?_;rw [jk.go,jk.t29,zA,jk.zu];refine H0.box (l:=[I a,.zb]) rfl λpa h1 y1 H1 => ?_;refine H1.box (l:=[I b,.zb]) rfl λpb h2 y2 H2 => ?_;refine H2.alloc λp h3 y3 H3 => ?_;refine H3.alloc λq h4 y4 H4 => ?_;rw [zA,zA,jk.zo,jk.sH,jk.sJ,sFx,H4.load (k:=3) (i:=0+1) (v:=.zb) rfl rfl,kO];simp only [yN];rw [sFx,H4.load (k:=2) (i:=0+1) (v:=.zb) rfl rfl,kO,zT,jk.tO,jk.rM];simp only [yN];rw [sFx,H4.load (k:=3) (i:=0+0) rfl rfl,qj,zT,zB,jk.v15];rw [Zab (by omega),Zal,zD,zA,jk.yt,sFx,H4.load (k:=3) (i:=0+0) rfl rfl,sFx,H4.load (k:=2) (i:=0+0) rfl rfl,zvm (by omega) hb,sFx,H4.load (k:=3) (i:=0+0) rfl rfl,sFx,H4.load (k:=2) (i:=0+0) rfl rfl,zvn hb,zA,zA,jk.vk,yu,zB,jk.v16];obtain ⟨f1,f2⟩:=zfw (a:=a) hb;have hq2 : -9223372036854775807<=a.tdiv b/\a.tdiv b<=9223372036854775807:=by
  have:=Int.natAbs_tdiv_le_natAbs a b;omega
 have hmod:=Int.emod_nonneg a (show b≠0 by omega);have hmod2:=Int.emod_lt_of_pos a (show 0<b by omega);have hrt:=Int.mul_tdiv_add_tmod a b;have hr1 : -b<a.tmod b:=by
  by_cases cr:a.tmod b<0
  .exact (f1 cr).2.2
  .omega
 have hr2:=Zgn a (show 0<b by omega);have hqm : -9223372036854775807<=a / b:=zn5 (by omega) hb;by_cases cr:a.tmod b<0
 .obtain ⟨g1,g2,g3⟩:=f1 cr;rw [Zac cr,zD,jk.nY,xg (by omega),sFx,H4.load (k:=2) (i:=0+0) rfl rfl,jg (by omega),zA,jk.ng,uX,uX];simp only [zG,zQ];refine H4.jc (l2:=[I (a.tdiv b-1),.zb]) (k:=1) rfl rfl rfl λh6 H6 => ?_;refine H6.jc (l2:=[I (a.tmod b+b),.zb]) (k:=0) rfl rfl rfl λh7 H7 => ?_;rw [jk.ret,H7.zi (k:=1) (n:=2) rfl rfl,H7.zi (k:=0) (n:=2) rfl rfl];exact hK _ _ _ _ _ H7 (jI (yX (by unfold ru;omega)).frz (yX (by unfold ru;omega)).frz) ⟨_,_,rfl,by rw [g1];exact yX (by unfold ru;omega),by rw [g2];exact yX (by unfold ru;omega)⟩
 .obtain ⟨g1,g2⟩:=f2 (by omega);rw [Zab cr,zC,zE,zA,jk.ng,uX,uX];simp only [zG,zQ];refine H4.jc (l2:=[I (a.tdiv b),.zb]) (k:=1) rfl rfl rfl λh6 H6 => ?_;refine H6.jc (l2:=[I (a.tmod b),.zb]) (k:=0) rfl rfl rfl λh7 H7 => ?_;rw [jk.ret,H7.zi (k:=1) (n:=2) rfl rfl,H7.zi (k:=0) (n:=2) rfl rfl];exact hK _ _ _ _ _ H7 (jI (yX (by unfold ru;omega)).frz (yX (by unfold ru;omega)).frz) ⟨_,_,rfl,by rw [g1];exact yX (by unfold ru;omega),by rw [g2];exact yX (by unfold ru;omega)⟩
theorem zl2 {va vb:AV} {a b c:Int} (hva:ql va a) (hvb:ql vb b) (hb:b≠0) (hc:a=c*b):Pure Tryz.prog B 192 [va,vb] (λv=>ql v c):=by
 have hva0:=hva;have hvb0:=hvb;obtain ⟨s,w,rfl,hva⟩:=hva;obtain ⟨s',w',rfl,hvb⟩:=hvb;refine zV λh y K H0 hK=>zL zR yK 100 λhf => ?_;rw [qa.go,qa.t10,zA,qa.zu];refine H0.box (l:=[s,w]) rfl λpa h1 y1 H1 => ?_;refine H1.box (l:=[s',w']) rfl λpb h2 y2 H2 => ?_;refine H2.alloc λp h3 y3 H3 => ?_
 have tail:∀ {h5:T Blk} {y5:Pa} {s1 w1 s2 w2:AV} {a' b':Int} {x5 x6:AV},Hp h h5 y5 [.arr p [I 0,.zb],.arr pb [s2,w2],.arr pa [s1,w1]]->vw s1 w1 a'->vw s2 w2 b'->1<=b'->a'=c*b' ->
   IR.run qa.t8 (CS Tryz.prog B) 100 (fnO qa.res K) (zf qa.res K) (qa.fr (.agg [s,w]) (.agg [s',w']) (.ptr pa 0) (.ptr pb 0) (.ptr p 0) x5 x6) h5 y5=.ok True:=by
  intro h5 y5 s1 w1 s2 w2 a' b' x5 x6 H i1 i2 hb' e;rw [qa.t8,zA,qa.dz,H.zi (k:=2) (n:=2) rfl rfl,H.zi (k:=1) (n:=2) rfl rfl];refine fQ ⟨_,_,rfl,i1⟩ ⟨_,_,rfl,i2⟩ hb' _ _ _ _ ?_;rintro _ ⟨v1,v2,rfl,⟨s3,w3,rfl,i3⟩,⟨s4,w4,rfl,i4⟩⟩ _;rw [yZ,jC];refine H.alloc λp1 h6 y6 H6 => ?_;refine H6.alloc λq1 h7 y7 H7 => ?_;refine H7.jc (l2:=[s3,w3]) (k:=1) rfl rfl rfl λh8 H8 => ?_;refine H8.jc (l2:=[s4,w4]) (k:=0) rfl rfl rfl λh9 H9 => ?_;rw [zA,qa.uj,H9.zi (k:=1) (n:=2) rfl rfl];refine H9.jc (l2:=[s3,w3]) (k:=2) rfl rfl rfl λh10 H10 => ?_;simp only [zG,zQ];rw [qa.ret,H10.zi (k:=2) (n:=2) rfl rfl];have:a' / b'=c:=by rw [e];exact Int.mul_ediv_cancel _ (by omega)
  rw [this] at i3;exact hK _ _ _ _ _ H10 (kE i3.fix) ⟨_,_,rfl,i3⟩
 rw [zA,zA,qa.zo,H3.zi (k:=1) (n:=2) rfl rfl];refine pJ hvb0 _ _ _ _ ?_;rintro _ rfl _;rw [yu,zB,qa.v6];by_cases cb:b<0
 .rw [Zac (by unfold uC;rw [if_pos cb];decide),zD,qa.yt,H3.zi (k:=2) (n:=2) rfl rfl,H3.zi (k:=1) (n:=2) rfl rfl];refine vA hva0 _ _ _ _ ?_;rintro _ ⟨s3,w3,rfl,i3⟩ _;rw [H3.zi (k:=1) (n:=2) rfl rfl,zF];refine vA hvb0 _ _ _ _ ?_;rintro _ ⟨s4,w4,rfl,i4⟩ _;refine H3.jc (l2:=[s3,w3]) (k:=2) rfl rfl rfl λh8 H8 => ?_;refine H8.jc (l2:=[s4,w4]) (k:=1) rfl rfl rfl λh9 H9 => ?_;exact tail H9 i3 i4 (by omega) (by rw [hc,Int.mul_neg])
 .rw [Zab (by unfold uC;rw [if_neg cb];split <;> decide),zC,zE];exact tail H3 hva hvb (by omega) hc
theorem vw.sgn {s w:AV} {z:Int} (h:vw s w z):∃ n,s=I n/\(n<0↔z<0):=by
 obtain ⟨rfl,_⟩:=h;exact ⟨_,rfl,Iff.rfl⟩
theorem zie {v:AV} {z:Int} (hv:ql v z):Pure Tryz.prog B 243 [v] (λv=>ql v (z.natAbs:Int)):=by
 have hv0:=hv;obtain ⟨s,w,rfl,hv⟩:=hv;obtain ⟨n,rfl,hn⟩:=hv.sgn;refine zV λh y K H0 hK=>zL zR yK 100 λhf => ?_;rw [ve.go,ve.t9,zA,ve.zu];refine H0.box (l:=[I n,w]) rfl λpa h1 y1 H1 => ?_;refine H1.alloc λp h2 y2 H2 => ?_;rw [zA,zA,ve.zo,sFx,H2.load (k:=1) (i:=0+0) rfl rfl,yu,zB,ve.v3];by_cases c:n<0
 .rw [Zac c,zD,zA,ve.yt,H2.zi (k:=1) (n:=2) rfl rfl];refine vA hv0 _ _ _ _ ?_;rintro _ ⟨s',w',rfl,hc⟩ _;refine H2.jc (l2:=[s',w']) (k:=0) rfl rfl rfl λh4 H4 => ?_;simp only [zG,zQ];rw [ve.ret,H4.zi (k:=0) (n:=2) rfl rfl];have:=hn.1 c;rw [show -z=(z.natAbs:Int) by omega] at hc;exact hK _ _ _ _ _ H4 (kE hc.fix) ⟨_,_,rfl,hc⟩
 .rw [Zab c,zC,zE,zA,ve.uj,H2.zi (k:=1) (n:=2) rfl rfl];refine H2.jc (l2:=[I n,w]) (k:=0) rfl rfl rfl λh4 H4 => ?_;simp only [zG,zQ];rw [ve.ret,H4.zi (k:=0) (n:=2) rfl rfl];have:¬ z<0:=λq=>c (hn.2 q);rw [show z=(z.natAbs:Int) by omega] at hv;exact hK _ _ _ _ _ H4 (kE hv.fix) ⟨_,_,rfl,hv⟩
theorem zsh {va vb:AV} {a b:Int} (hva:ql va a) (hvb:ql vb b):Pure Tryz.prog B 191 [va,vb] (λv=>ql v (Int.gcd a b:Int)):=by
 have hva0:=hva;have hvb0:=hvb;obtain ⟨s,w,rfl,hva⟩:=hva;obtain ⟨s',w',rfl,hvb⟩:=hvb;refine zV λh g K H0 hK=>zL zR yK (b.natAbs+100) λhf => ?_;rw [gu.go,gu.t16,zA,gu.zu];refine H0.box (l:=[s,w]) rfl λpa h1 g1 H1 => ?_;refine H1.box (l:=[s',w']) rfl λpb h2 g2 H2 => ?_;refine H2.alloc λp h3 g3 H3 => ?_;rw [zA,gu.zo,H3.zi (k:=2) (n:=2) rfl rfl,H3.zi (k:=1) (n:=2) rfl rfl];refine zie hva0 _ _ _ _ ?_;rintro _ ⟨s1,w1,rfl,i1⟩ _;rw [H3.zi (k:=1) (n:=2) rfl rfl,zF];refine zie hvb0 _ _ _ _ ?_;rintro _ ⟨s2,w2,rfl,i2⟩ _;refine H3.jc (l2:=[s1,w1]) (k:=2) rfl rfl rfl λh4 H4 => ?_;refine H4.jc (l2:=[s2,w2]) (k:=1) rfl rfl rfl λh5 H5 => ?_;rw [zA,zJ];refine gu.zot (λm h' g'=>∃ (x y:Nat) (s1 w1 s2 w2:AV),vw s1 w1 (x:Int)/\vw s2 w2 (y:Int)/\m=y/\Nat.gcd x y=Int.gcd a b/\Hp h h' g' [.arr p [I 0,.zb],.arr pb [s2,w2],.arr pa [s1,w1]]) (m:=b.natAbs) (by omega) ⟨a.natAbs,b.natAbs,s1,w1,s2,w2,i1,i2,rfl,rfl,H5⟩ ?_;rintro m z5 z6 h6 g6 R ⟨x,y,s1,w1,s2,w2,i1,i2,rfl,hg,H6⟩ hR;rw [gu.t9,zA,zA,gu.yt,H6.zi (k:=1) (n:=2) rfl rfl];refine pJ ⟨_,_,rfl,i2⟩ _ _ _ _ ?_;rintro _ rfl _;rw [qj,zB,gu.v6];by_cases c:m=0
 .subst c;rw [Zac (by rfl),Zah,zC,zY,yD,zA,gu.nZ,H6.zi (k:=2) (n:=2) rfl rfl];refine H6.jc (l2:=[s1,w1]) (k:=0) rfl rfl rfl λh7 H7 => ?_;simp only [zG,zQ];rw [gu.ret,H7.zi (k:=0) (n:=2) rfl rfl];rw [Zgm] at hg;rw [hg] at i1;exact hK _ _ _ _ _ H7 (kE i1.fix) ⟨_,_,rfl,i1⟩
 .have hs:uC (m:Int)=1:=by unfold uC;rw [if_neg (by omega),if_pos (by omega)]
  rw [hs,Zab (by decide),Zal,zD,zE,zJ,zA,gu.dz,H6.zi (k:=2) (n:=2) rfl rfl,H6.zi (k:=1) (n:=2) rfl rfl];refine fQ ⟨_,_,rfl,i1⟩ ⟨_,_,rfl,i2⟩ (by omega) _ _ _ _ ?_;rintro _ ⟨v1,v2,rfl,⟨s3,w3,rfl,i3⟩,⟨s4,w4,rfl,i4⟩⟩ _;rw [yZ,jC];refine H6.alloc λp1 h7 g7 H7 => ?_;refine H7.alloc λq1 h8 g8 H8 => ?_;refine H8.jc (l2:=[s3,w3]) (k:=1) rfl rfl rfl λh9 H9 => ?_;refine H9.jc (l2:=[s4,w4]) (k:=0) rfl rfl rfl λh10 H10 => ?_;rw [gu.uj,H10.zi (k:=3) (n:=2) rfl rfl,H10.zi (k:=0) (n:=2) rfl rfl];refine H10.jc (l2:=[s2,w2]) (k:=4) rfl rfl rfl λh11 H11 => ?_;rw [H11.zi (k:=0) (n:=2) rfl rfl,zF];refine H11.jc (l2:=[s4,w4]) (k:=3) rfl rfl rfl λh12 H12 => ?_;rw [<- Int.natCast_emod] at i4;have hlt:=Zdr x (show 0<m by omega);refine hR (x%m) _ _ _ _ hlt ⟨m,x%m,s2,w2,s4,w4,i2,i4,rfl,?_,H12.drop.drop⟩;rw [<- hg,Zfg x m,Nat.gcd_rec m x,Zfg]
theorem vw.two {s w:AV} {z:Int} (h:vw s w z):s=I z/\w=.zb/\ru z/\∀ K:AV->OP,za .eql (.nil .sl) w .zb K=K (.bool true):=by
 obtain ⟨rfl,rfl,h⟩:=h;exact ⟨rfl,rfl,h,λ_=>kO⟩
theorem dO {a b:Int} {M N:Nat} (ha:a.natAbs<=M) (hb:b.natAbs<=N) (h:M*N<=9223372036854775807):ru (a*b):=by
 have:=Zbl ha hb;rw [<- Zci] at this;unfold ru;omega
theorem zif {a b:Int} {M:Nat} (ha:a.natAbs<=M) (hb:b.natAbs<=M) (h:2*M<=9223372036854775807):ru (a+b):=by unfold ru;omega
def dh (M:Nat) (q:Rat):Prop:=q.num.natAbs<=M/\q.den<=M
theorem dh.neg {M:Nat} {q:Rat} (h:dh M q):dh M (-q):=⟨by rw [Zen,Zed];exact h.1,by rw [Zgk];exact h.2⟩
theorem zc0 {t:T AV} {l:List AV} {off n:Nat} (h:yR t 0 l.length=l) (hle:off+n<=l.length):yR t off n=(l.drop off).take n:=by
 apply Zbp;intro i;by_cases hi:i<n
 .rw [yF _ _ _ _ hi,Zhb hi,Zhe];have:=yF t 0 l.length (off+i) (by omega);rw [h,Zbd] at this;exact this.symm
 .rw [Zgz (by rw [gO];omega),Zgz (by simp;omega)]
theorem Hp.um {h0 h:T Blk} {y:Pa} {L:List Ob} {k n off:Nat} {id:Pa} {l l2:List AV} {op:AV->OP} (H:Hp h0 h y L) (hk:L[k]? = some (.arr id l)) (hle:off+n<=l.length) (he:(l.drop off).take n=l2):zI n (.ptr id off) h op=op (.agg l2):=by
 obtain ⟨o,t,h1,h2⟩:=H.own _ (Zad hk);show qb (T.get .no id h) (λ_ m t=>bif Nat.ble (off+n) m then op (.agg (yR t off n)) else .no 8) (.no 9)=_;rw [h1];show (bif Nat.ble (off+n) l.length then op (.agg (yR t off n)) else .no 8)=_;rw [Zak hle,cond_true,zc0 h2 hle,he]
def jR (v:AV) (q:Rat):Prop:=∃ s w s' w',v=.agg [s,w,s',w']/\vw s w q.num/\vw s' w' (q.den:Int)
theorem vw.fix4 {s w s' w':AV} {a b:Int} (h:vw s w a) (h':vw s' w' b):∀ v∈[s,w,s',w'],rD v=true:=by
 intro v hv;rcases Zaq.1 hv with rfl | hv
 .exact h.fix _ (by simp)
 rcases Zaq.1 hv with rfl | hv
 .exact h.fix _ (by simp)
 exact h'.fix _ hv
theorem vw.build {s w s' w':AV} {a b:Int} (h:vw s w a) (h':vw s' w' b) {K:AV->OP}:gV [(I 0),.zb,(I 0),.zb] [(0,2,.agg [s,w]),(2,2,.agg [s',w'])] K=K (.agg [s,w,s',w']):=nr rfl
theorem dY {v:AV} {q:Rat} (hv:jR v q):Pure Tryz.prog B 188 [v] (· = .bool (decide (q.den=1))):=by
 obtain ⟨s,w,s',w',rfl,h1,h2⟩:=hv;refine zV λh y K H0 hK=>zL zR yK 100 λhf => ?_;rw [xq.go,xq.t3,zA,xq.zu];refine H0.box (l:=[s,w,s',w']) rfl λpa h1 y1 H1 => ?_;rw [zA,xq.zo,xq.sH,xq.sJ,sFx,sFx,H1.load (k:=0) (i:=0+2+1) (v:=w') rfl rfl];obtain ⟨rfl,rfl,_,e2⟩:=h2.two;rw [e2];simp only [yN];rw [sFx,sFx,H1.load (k:=0) (i:=0+2+0) rfl rfl,xq.tO,xq.rM];simp only [yN];rw [qf];simp only [zT];simp only [zG,zQ];rw [xq.ret];exact hK _ _ _ _ _ H1 (zK rfl) (by congr 1;exact decide_eq_decide.2 (by omega))
theorem qW {n d:Int} (hd:0<d):(Rat.divInt n d).num=n / (Int.gcd n d:Int)/\((Rat.divInt n d).den:Int)=d / (Int.gcd n d:Int):=by
 refine ⟨?_,?_⟩
 .rw [Rat.num_divInt,Int.sign_eq_one_of_pos hd,Int.one_mul,Int.gcd_comm]
 .rw [Rat.den_divInt,if_neg (by omega),Int.gcd_comm,Int.natCast_ediv]
  congr 1
  omega
theorem zd5 {z:Int}:((z:Rat)).num=z/\(((z:Rat)).den:Int)=1:=⟨Rat.num_intCast z,by rw [Rat.den_intCast];rfl⟩
theorem zcb {v:AV} {z:Int} (hv:ql v z):Pure Tryz.prog B 130 [v] (λv=>jR v (z:Rat)):=by
 obtain ⟨s,w,rfl,hv⟩:=hv;refine zV λh y K H0 hK=>zL zR yK 100 λhf => ?_;rw [nT.go,nT.t3,zA,nT.zu];refine H0.box (l:=[s,w]) rfl λpa h1 y1 H1 => ?_;refine H1.alloc λp h2 y2 H2 => ?_;rw [zA,nT.zo,H2.zi (k:=1) (n:=2) rfl rfl];refine zsg (by unfold ru;omega) _ _ _ _ ?_;rintro _ ⟨s',w',rfl,h'⟩ _;rw [H2.zi (k:=1) (n:=2) rfl rfl,zF,hv.build h'];refine H2.jc (l2:=[s,w,s',w']) (k:=0) rfl rfl rfl λh4 H4 => ?_;simp only [zG,zQ];rw [nT.ret,H4.zi (k:=0) (n:=4) rfl rfl];exact hK _ _ _ _ _ H4 (kE (hv.fix4 h')) ⟨_,_,_,_,rfl,by rw [zd5.1];exact hv,by rw [zd5.2];exact h'⟩
theorem zl3 {z:Int} (h:ru z):Pure Tryz.prog B 74 [I z] (λv=>jR v (z:Rat)):=by
 refine zV λhh y K H0 hK=>zL zR yK 100 λhf => ?_;rw [F74.go,F74.t3,zA,F74.zu];refine H0.alloc λp h2 y2 H2 => ?_;rw [zA,F74.zo];refine zsg h _ _ _ _ ?_;intro v hv _;refine zcb hv _ _ _ _ ?_;rintro _ ⟨s,w,s',w',rfl,i1,i2⟩ _;refine H2.jc (l2:=[s,w,s',w']) (k:=0) rfl rfl rfl λh4 H4 => ?_;simp only [zG,zQ];rw [F74.ret,H4.zi (k:=0) (n:=4) rfl rfl];exact hK _ _ _ _ _ H4 (kE (i1.fix4 i2)) ⟨_,_,_,_,rfl,i1,i2⟩
theorem cU {va vb:AV} {a b:Int} (hva:ql va a) (hvb:ql vb b) (hb:b≠0):Pure Tryz.prog B 133 [va,vb] (λv=>jR v (Rat.divInt a b)):=by
 have hva0:=hva;have hvb0:=hvb;obtain ⟨s,w,rfl,hva⟩:=hva;obtain ⟨s',w',rfl,hvb⟩:=hvb;refine zV λh y K H0 hK=>zL zR yK 100 λhf => ?_;rw [jh.go,jh.t16,zA,jh.zu];refine H0.box (l:=[s,w]) rfl λpa h1 y1 H1 => ?_;refine H1.box (l:=[s',w']) rfl λpb h2 y2 H2 => ?_;refine H2.alloc λp h3 y3 H3 => ?_
 have tail:∀ {h5:T Blk} {y5:Pa} {s1 w1 s2 w2:AV} {a' b':Int} {x5 x6 x7:AV},Hp h h5 y5 [.arr p [I 0,.zb,I 0,.zb],.arr pb [s2,w2],.arr pa [s1,w1]]->vw s1 w1 a'->vw s2 w2 b'->1<=b'->Rat.divInt a' b'=Rat.divInt a b ->
   IR.run jh.t14 (CS Tryz.prog B) 100 (fnO jh.res K) (zf jh.res K) (jh.fr (.agg [s,w]) (.agg [s',w']) (.ptr pa 0) (.ptr pb 0) (.ptr p 0) x5 x6 x7) h5 y5=.ok True:=by
  intro h5 y5 s1 w1 s2 w2 a' b' x5 x6 x7 H i1 i2 hb' e;obtain ⟨d1,d2⟩:=qW (n:=a') (show 0<b' by omega);have general:∀ {x5 x6 x7:AV},IR.run jh.t13 (CS Tryz.prog B) 100 (fnO jh.res K) (zf jh.res K) (jh.fr (.agg [s,w]) (.agg [s',w']) (.ptr pa 0) (.ptr pb 0) (.ptr p 0) x5 x6 x7) h5 y5=.ok True:=by
   intro x5 x6 x7;rw [jh.t13,zA,jh.rC,H.zi (k:=2) (n:=2) rfl rfl,H.zi (k:=1) (n:=2) rfl rfl];refine zsh ⟨_,_,rfl,i1⟩ ⟨_,_,rfl,i2⟩ _ _ _ _ ?_;rintro _ ⟨s3,w3,rfl,i3⟩ _;have g0:0<Int.gcd a' b':=Int.gcd_pos_of_ne_zero_right _ (by omega);refine H.alloc λp1 h6 y6 H6 => ?_;refine H6.jc (l2:=[s3,w3]) (k:=0) rfl rfl rfl λh7 H7 => ?_;rw [zA,jh.qz,H7.zi (k:=3) (n:=2) rfl rfl,H7.zi (k:=0) (n:=2) rfl rfl,H7.zi (k:=2) (n:=2) rfl rfl,H7.zi (k:=0) (n:=2) rfl rfl];refine zl2 (c:=a' / (Int.gcd a' b':Int)) ⟨_,_,rfl,i1⟩ ⟨_,_,rfl,i3⟩  (by omega) (Int.ediv_mul_cancel (Zfv ..)).symm _ _ _ _ ?_;rintro _ ⟨s4,w4,rfl,i4⟩ _;rw [H7.zi (k:=0) (n:=2) rfl rfl,zF,H7.zi (k:=2) (n:=2) rfl rfl,zF];refine zl2 (c:=b' / (Int.gcd a' b':Int)) ⟨_,_,rfl,i2⟩ ⟨_,_,rfl,i3⟩  (by omega) (Int.ediv_mul_cancel (Zgr ..)).symm _ _ _ _ ?_;rintro _ ⟨s5,w5,rfl,i5⟩ _;rw [i4.build i5];refine H7.jc (l2:=[s4,w4,s5,w5]) (k:=1) rfl rfl rfl λh8 H8 => ?_;simp only [zG,zQ];rw [jh.ret,H8.zi (k:=1) (n:=4) rfl rfl];exact hK _ _ _ _ _ H8 (kE (i4.fix4 i5)) ⟨_,_,_,_,rfl,by rw [<- e,d1];exact i4,by rw [<- e,d2];exact i5⟩
  rw [jh.t14,zA,zA,jh.dz,sFx,H.load (k:=1) (i:=0+1) (v:=w2) rfl rfl];obtain ⟨rfl,rfl,_,e2⟩:=i2.two
  .rw [e2];simp only [yN];rw [sFx,H.load (k:=1) (i:=0+0) rfl rfl,qf,zT,zB,jh.v7];by_cases c:b'=1
   .subst c;rw [Zac rfl,zD,zA,jh.uj,H.zi (k:=2) (n:=2) rfl rfl,H.zi (k:=1) (n:=2) rfl rfl,i1.build i2];refine H.jc (l2:=[s1,w1,I 1,.zb]) (k:=0) rfl rfl rfl λh8 H8 => ?_;simp only [zG,zQ];rw [jh.ret,H8.zi (k:=0) (n:=4) rfl rfl];rw [Int.gcd_one] at d1 d2;exact hK _ _ _ _ _ H8 (kE (i1.fix4 i2)) ⟨_,_,_,_,rfl,by rw [<- e,d1];simpa using i1,by rw [<- e,d2];simpa using i2⟩
   .rw [Zab c,zC,zE];exact general
 rw [zA,zA,jh.zo,H3.zi (k:=1) (n:=2) rfl rfl];refine pJ hvb0 _ _ _ _ ?_;rintro _ rfl _;rw [yu,zB,jh.v6];by_cases cb:b<0
 .rw [Zac (by unfold uC;rw [if_pos cb];decide),zD,jh.yt,H3.zi (k:=2) (n:=2) rfl rfl,H3.zi (k:=1) (n:=2) rfl rfl];refine vA hva0 _ _ _ _ ?_;rintro _ ⟨s3,w3,rfl,i3⟩ _;rw [H3.zi (k:=1) (n:=2) rfl rfl,zF];refine vA hvb0 _ _ _ _ ?_;rintro _ ⟨s4,w4,rfl,i4⟩ _;refine H3.jc (l2:=[s3,w3]) (k:=2) rfl rfl rfl λh8 H8 => ?_;refine H8.jc (l2:=[s4,w4]) (k:=1) rfl rfl rfl λh9 H9 => ?_;exact tail H9 i3 i4 (by omega) (Rat.neg_divInt_neg ..)
 .rw [Zab (by unfold uC;rw [if_neg cb];split <;> decide),zC,zE];exact tail H3 hva hvb (by omega) rfl
theorem zfx (op:KW3->OP) (h:T Blk) (y:Pa) (k:KW3):sGW (.bool true) true op h y k=op k:=nr rfl
theorem cJ (op:KW3->OP) (h:T Blk) (y:Pa) (k:KW3):sGW (.bool false) true op h y k=k .u h y:=nr rfl
theorem wJ (q:Rat):Rat.divInt q.num (q.den:Int)=q:=Rat.num_divInt_den q
theorem kG (q:Rat):(q.den:Int)≠0:=by have:=q.den_nz;omega
theorem zd6 (a b:Rat):Rat.divInt (a.num*b.num) ((a.den:Int)*(b.den:Int))=a*b:=by
 rw [<- Rat.divInt_mul_divInt,wJ,wJ]
theorem zd7 (a b:Rat):Rat.divInt (a.num*(b.den:Int)+b.num*(a.den:Int)) ((a.den:Int)*(b.den:Int))=a+b:=by
 rw [<- Rat.divInt_add_divInt _ _ (kG a) (kG b),wJ,wJ]
theorem fF {q:Rat} (h:q.den=1):((q.num:Int):Rat)=q:=Rat.ext (Rat.num_intCast _) (by rw [Rat.den_intCast,h])
theorem sP {z:Int}:uC z=0↔z=0:=by unfold uC;split <;> (try split) <;> constructor <;> intro <;> omega
theorem cY {v:AV} {q:Rat} (hv:jR v q):Pure Tryz.prog B 75 [v] (· = I (uC q.num)):=by
 obtain ⟨s,w,s',w',rfl,i1,i2⟩:=hv;refine zV λh y K H0 hK=>zL zR yK 100 λhf => ?_;rw [F75.go,F75.t3,zA,F75.zu];refine H0.box (l:=[s,w,s',w']) rfl λpa h1 y1 H1 => ?_;rw [zA,F75.zo,sFx,H1.um (k:=0) (l2:=[s,w]) rfl (by simp) rfl];refine pJ ⟨_,_,rfl,i1⟩ _ _ _ _ ?_;rintro _ rfl _;simp only [zG,zQ];rw [F75.ret];exact hK _ _ _ _ _ H1 (zK rfl) rfl
theorem zd8 {v:AV} {q:Rat} (hv:jR v q):Pure Tryz.prog B 80 [v] (λv=>jR v (-q)):=by
 obtain ⟨s,w,s',w',rfl,i1,i2⟩:=hv;refine zV λh y K H0 hK=>zL zR yK 100 λhf => ?_;rw [F80.go,F80.t3,zA,F80.zu];refine H0.box (l:=[s,w,s',w']) rfl λpa h1 y1 H1 => ?_;refine H1.alloc λp h2 y2 H2 => ?_;have ln:∀ op:AV->OP,zI 2 (.ptr pa (0+0)) h2 op=op (.agg [s,w]):=λop=>H2.um (k:=1) rfl (by simp) rfl;have ld:∀ op:AV->OP,zI 2 (.ptr pa (0+2)) h2 op=op (.agg [s',w']):=λop=>H2.um (k:=1) rfl (by simp) rfl;rw [zA,F80.zo,sFx,ln,sFx,ld];refine vA ⟨_,_,rfl,i1⟩ _ _ _ _ ?_;rintro _ ⟨s3,w3,rfl,i3⟩ _;rw [ld,zF,sFx,zF,i3.build i2];refine H2.jc (l2:=[s3,w3,s',w']) (k:=0) rfl rfl rfl λh4 H4 => ?_;simp only [zG,zQ];rw [F80.ret,H4.zi (k:=0) (n:=4) rfl rfl];exact hK _ _ _ _ _ H4 (kE (i3.fix4 i2)) ⟨_,_,_,_,rfl,by rw [Zen];exact i3,by rw [Zgk];exact i2⟩
theorem zn6 {v:AV} {q:Rat} (hv:jR v q) (h0:q≠0):Pure Tryz.prog B 77 [v] (λv=>jR v q⁻¹):=by
 obtain ⟨s,w,s',w',rfl,i1,i2⟩:=hv;refine zV λh y K H0 hK=>zL zR yK 100 λhf => ?_;rw [F77.go,F77.t3,zA,F77.zu];refine H0.box (l:=[s,w,s',w']) rfl λpa h1 y1 H1 => ?_;refine H1.alloc λp h2 y2 H2 => ?_;have ln:∀ op:AV->OP,zI 2 (.ptr pa (0+0)) h2 op=op (.agg [s,w]):=λop=>H2.um (k:=1) rfl (by simp) rfl;have ld:∀ op:AV->OP,zI 2 (.ptr pa (0+2)) h2 op=op (.agg [s',w']):=λop=>H2.um (k:=1) rfl (by simp) rfl;rw [zA,F77.zo,sFx,ld,sFx,ln];refine cU ⟨_,_,rfl,i2⟩ ⟨_,_,rfl,i1⟩ (λe=>h0 (Zcp.1 e)) _ _ _ _ ?_;rintro _ ⟨s3,w3,s4,w4,rfl,i3,i4⟩ _;refine H2.jc (l2:=[s3,w3,s4,w4]) (k:=0) rfl rfl rfl λh4 H4 => ?_;simp only [zG,zQ];rw [F77.ret,H4.zi (k:=0) (n:=4) rfl rfl];rw [<- Rat.inv_def] at i3 i4;exact hK _ _ _ _ _ H4 (kE (i3.fix4 i4)) ⟨_,_,_,_,rfl,i3,i4⟩
theorem zih {va vb:AV} {a b:Rat} {M N:Nat} (hva:jR va a) (hvb:jR vb b) (ha:dh M a) (hb:dh N b) (h:M*N<=9223372036854775807):Pure Tryz.prog B 129 [va,vb] (λv=>jR v (a*b)):=by
 obtain ⟨s,w,s',w',rfl,i1,i2⟩:=hva;obtain ⟨t,u,t',u',rfl,j1,j2⟩:=hvb;refine zV λhh y K H0 hK=>zL zR yK 100 λhf => ?_;rw [nU.go,nU.t3,zA,nU.zu];refine H0.box (l:=[s,w,s',w']) rfl λpa h1 y1 H1 => ?_;refine H1.box (l:=[t,u,t',u']) rfl λpb h2 y2 H2 => ?_;refine H2.alloc λp h3 y3 H3 => ?_;have an:∀ op:AV->OP,zI 2 (.ptr pa (0+0)) h3 op=op (.agg [s,w]):=λop=>H3.um (k:=2) rfl (by simp) rfl;have ad:∀ op:AV->OP,zI 2 (.ptr pa (0+2)) h3 op=op (.agg [s',w']):=λop=>H3.um (k:=2) rfl (by simp) rfl;have bn:∀ op:AV->OP,zI 2 (.ptr pb (0+0)) h3 op=op (.agg [t,u]):=λop=>H3.um (k:=1) rfl (by simp) rfl;have bd:∀ op:AV->OP,zI 2 (.ptr pb (0+2)) h3 op=op (.agg [t',u']):=λop=>H3.um (k:=1) rfl (by simp) rfl;rw [zA,nU.zo,sFx,an,sFx,bn,sFx,ad,sFx,bd];refine dV ⟨_,_,rfl,i1⟩ ⟨_,_,rfl,j1⟩ (dO ha.1 hb.1 h) _ _ _ _ ?_;intro v1 hv1 _;rw [bd,zF,sFx,zF,ad,zF,sFx,zF];refine dV ⟨_,_,rfl,i2⟩ ⟨_,_,rfl,j2⟩ (dO (M:=M) (N:=N) ha.2 hb.2 h) _ _ _ _ ?_;intro v2 hv2 _;refine cU hv1 hv2 (Int.mul_ne_zero (kG a) (kG b)) _ _ _ _ ?_;rintro _ ⟨s3,w3,s4,w4,rfl,i3,i4⟩ _;refine H3.jc (l2:=[s3,w3,s4,w4]) (k:=0) rfl rfl rfl λh4 H4 => ?_;simp only [zG,zQ];rw [nU.ret,H4.zi (k:=0) (n:=4) rfl rfl];rw [zd6] at i3 i4;exact hK _ _ _ _ _ H4 (kE (i3.fix4 i4)) ⟨_,_,_,_,rfl,i3,i4⟩
theorem zsi {va vb:AV} {a b:Rat} {M N:Nat} (hva:jR va a) (hvb:jR vb b) (ha:dh M a) (hb:dh N b) (h:2*(M*N)<=9223372036854775807):Pure Tryz.prog B 189 [va,vb] (λv=>jR v (a+b)):=by
 have hva0:=hva;have hvb0:=hvb;obtain ⟨s,w,s',w',rfl,i1,i2⟩:=hva;obtain ⟨t,u,t',u',rfl,j1,j2⟩:=hvb;refine zV λhh y K H0 hK=>zL zR yK 100 λhf => ?_;rw [qp.go,qp.t9,zA,qp.zu];refine H0.box (l:=[s,w,s',w']) rfl λpa h1 y1 H1 => ?_;refine H1.box (l:=[t,u,t',u']) rfl λpb h2 y2 H2 => ?_;refine H2.alloc λp h3 y3 H3 => ?_;have an:∀ op:AV->OP,zI 2 (.ptr pa (0+0)) h3 op=op (.agg [s,w]):=λop=>H3.um (k:=2) rfl (by simp) rfl;have ad:∀ op:AV->OP,zI 2 (.ptr pa (0+2)) h3 op=op (.agg [s',w']):=λop=>H3.um (k:=2) rfl (by simp) rfl;have bn:∀ op:AV->OP,zI 2 (.ptr pb (0+0)) h3 op=op (.agg [t,u]):=λop=>H3.um (k:=1) rfl (by simp) rfl;have bd:∀ op:AV->OP,zI 2 (.ptr pb (0+2)) h3 op=op (.agg [t',u']):=λop=>H3.um (k:=1) rfl (by simp) rfl;have general:∀ {x5:AV},IR.run qp.t7 (CS Tryz.prog B) 100 (fnO qp.res K) (zf qp.res K) (qp.fr (.agg [s,w,s',w']) (.agg [t,u,t',u']) (.ptr pa 0) (.ptr pb 0) (.ptr p 0) x5) h3 y3=.ok True:=by
  intro x5;rw [qp.t7,zA,qp.uj,sFx,an,sFx,bd,sFx,bn,sFx,ad,sFx,ad,sFx,bd];refine dV ⟨_,_,rfl,i1⟩ ⟨_,_,rfl,j2⟩ (dO ha.1 (show Int.natAbs (b.den:Int)<=N from hb.2) (by omega)) _ _ _ _ ?_;intro v1 hv1 _;rw [bd,zF,sFx,zF,ad,zF,sFx,zF,ad,zF,sFx,zF,bn,zF,sFx,zF];refine dV ⟨_,_,rfl,j1⟩ ⟨_,_,rfl,i2⟩ (dO hb.1 (show Int.natAbs (a.den:Int)<=M from ha.2) (by rw [Zdb];omega)) _ _ _ _ ?_;intro v2 hv2 _;rw [bd,zF,sFx,zF,ad,zF,sFx,zF];refine zl1 hv1 hv2 (zif (M:=M*N) (by rw [Zci];exact Zbl ha.1 hb.2) (by rw [Zci,Zdb M N];exact Zbl hb.1 ha.2) h) _ _ _ _ ?_;intro v3 hv3 _;rw [bd,zF,sFx,zF,ad,zF,sFx,zF];refine dV ⟨_,_,rfl,i2⟩ ⟨_,_,rfl,j2⟩ (dO (M:=M) (N:=N) ha.2 hb.2 (by omega)) _ _ _ _ ?_;intro v4 hv4 _;refine cU hv3 hv4 (Int.mul_ne_zero (kG a) (kG b)) _ _ _ _ ?_;rintro _ ⟨s3,w3,s4,w4,rfl,i3,i4⟩ _;refine H3.jc (l2:=[s3,w3,s4,w4]) (k:=0) rfl rfl rfl λh4 H4 => ?_;simp only [zG,zQ];rw [qp.ret,H4.zi (k:=0) (n:=4) rfl rfl];rw [zd7] at i3 i4;exact hK _ _ _ _ _ H4 (kE (i3.fix4 i4)) ⟨_,_,_,_,rfl,i3,i4⟩
 rw [zA,zA,qp.zo,H3.zi (k:=2) (n:=4) rfl rfl];refine dY hva0 _ _ _ _ ?_;rintro _ rfl _;by_cases ca:a.den=1
 .rw [Zac ca];simp only [yN];rw [H3.zi (k:=1) (n:=4) rfl rfl,zfx];refine dY hvb0 _ _ _ _ ?_;rintro _ rfl _;rw [zT,zB,qp.v5];by_cases cb:b.den=1
  .rw [Zac cb,zD,zA,qp.yt,sFx,an,sFx,bn];refine zl1 ⟨_,_,rfl,i1⟩ ⟨_,_,rfl,j1⟩ (zif (M:=M*N) (Zbe ha.1 (Nat.le_mul_of_pos_right M (by have:=hb.2;have:=b.den_pos;omega))) (Zbe hb.1 (Nat.le_mul_of_pos_left N (by have:=ha.2;have:=a.den_pos;omega))) h) _ _ _ _ ?_;intro v1 hv1 _;refine zcb hv1 _ _ _ _ ?_;rintro _ ⟨s3,w3,s4,w4,rfl,i3,i4⟩ _;refine H3.jc (l2:=[s3,w3,s4,w4]) (k:=0) rfl rfl rfl λh4 H4 => ?_;simp only [zG,zQ];rw [qp.ret,H4.zi (k:=0) (n:=4) rfl rfl];have e:((a.num+b.num:Int):Rat)=a+b:=by rw [Rat.intCast_add,fF ca,fF cb]
   rw [e] at i3 i4;exact hK _ _ _ _ _ H4 (kE (i3.fix4 i4)) ⟨_,_,_,_,rfl,i3,i4⟩
  .rw [Zab cb,zC,zE];exact general
 .rw [Zab ca];simp only [yY];rw [cJ,zW,zB,qp.v5,zC,zE];exact general
theorem zn7 {va vb:AV} {a b:Rat} {M N:Nat} (hva:jR va a) (hvb:jR vb b) (ha:dh M a) (hb:dh N b) (h:2*(M*N)<=9223372036854775807):Pure Tryz.prog B 128 [va,vb] (λv=>jR v (a-b)):=by
 have hva0:=hva;have hvb0:=hvb;obtain ⟨s,w,s',w',rfl,i1,i2⟩:=hva;obtain ⟨t,u,t',u',rfl,j1,j2⟩:=hvb;refine zV λhh y K H0 hK=>zL zR yK 100 λhf => ?_;rw [nV.go,nV.t3,zA,nV.zu];refine H0.box (l:=[s,w,s',w']) rfl λpa h1 y1 H1 => ?_;refine H1.box (l:=[t,u,t',u']) rfl λpb h2 y2 H2 => ?_;refine H2.alloc λp h3 y3 H3 => ?_;rw [zA,nV.zo,H3.zi (k:=2) (n:=4) rfl rfl,H3.zi (k:=1) (n:=4) rfl rfl];refine zd8 hvb0 _ _ _ _ ?_;intro v1 hv1 _;rw [H3.zi (k:=2) (n:=4) rfl rfl,zF];refine zsi hva0 hv1 ha hb.neg h _ _ _ _ ?_;rintro _ ⟨s3,w3,s4,w4,rfl,i3,i4⟩ _;refine H3.jc (l2:=[s3,w3,s4,w4]) (k:=0) rfl rfl rfl λh4 H4 => ?_;simp only [zG,zQ];rw [nV.ret,H4.zi (k:=0) (n:=4) rfl rfl];rw [<- Zfh] at i3 i4;exact hK _ _ _ _ _ H4 (kE (i3.fix4 i4)) ⟨_,_,_,_,rfl,i3,i4⟩
theorem dh.inv {M:Nat} {q:Rat} (h:dh M q):dh M q⁻¹:=by
 have h1:(q⁻¹).num.natAbs<=q.den/\(q⁻¹).den<=max 1 q.num.natAbs:=by
  rw [Rat.inv_def];by_cases c:q.num=0
  .rw [c];have e:Rat.divInt (q.den:Int) 0=0:=by simp
   rw [e];exact ⟨by simp,by simp⟩
  .refine ⟨?_,?_⟩
   .rw [Rat.num_divInt];refine Zbe (Int.natAbs_ediv_le_natAbs _ _) ?_;rw [Zci,Int.natAbs_sign_of_ne_zero c,Nat.one_mul,Zbj];exact Zaf _
   .rw [Rat.den_divInt,if_neg c];refine Zbe (Zdn _ _) ?_;omega
 obtain ⟨a,b⟩:=h;have:=q.den_pos;exact ⟨by omega,by omega⟩
theorem zxx {a b:Int} {K:AV->OP}:sMin true (I a) [I b] K=K (I (max a b)):=by
 have e:sMin true (I a) [I b] K=K (.int .i64 (bif ilt a b then b else a)):=rfl;rw [e,xL]
 congr 2
 by_cases c:a<b
 .simp only [c,decide_true,cond_true];omega
 .simp only [c,decide_false,cond_false];omega
theorem zl4 {n:Nat} (h:n<=9223372036854775807):(gq n 1).length<=20:=by
 unfold gq;rw [Zae,Zbm];have:=zh8 (n:=n) (w:=1) (by omega) (by omega);omega
theorem zxy {a b:Int} (ha : -4000000000000000000<=a/\a<=4000000000000000000) (hb:0<b/\b<=4000000000000000000):Pure Tryz.prog B 142 [I a,I b] (· = .str (jv (Rat.divInt a b))):=by
 refine zV λh y K H0 hK=>zL zR yK 100 λhf => ?_;rw [zw.go,zw.t32,zA,zw.zu]
 have tail:∀ {a b:Int} {x5 x6:AV},(-4000000000000000000<=a/\a<=4000000000000000000)->(0<b/\b<=4000000000000000000)->(∀ v h' y' L v',Hp h h' y' L->sj h h' v v'->v'=.str (jv (Rat.divInt a b))->K v h' y'=.ok True) ->
   zw.t29.run (CS Tryz.prog B) 100 (fnO zw.res K) (zf zw.res K) (zw.fr (I a) (I b) (.str []) .u .u x5 x6 .u .u) h y=.ok True:=by
  intro a b x5 x6 ha hb hK;have hg:0<Nat.gcd a.natAbs b.natAbs:=Nat.gcd_pos_of_pos_right _ (by omega);have hgl:Nat.gcd a.natAbs b.natAbs<=b.natAbs:=Nat.le_of_dvd (by omega) (Nat.gcd_dvd_right ..);obtain ⟨d1,d2⟩:=qW (n:=a) (d:=b) hb.1;have eg:(Int.gcd a b:Int)=((Nat.gcd a.natAbs b.natAbs:Nat):Int):=rfl;have e1:a.tdiv ((Nat.gcd a.natAbs b.natAbs:Nat):Int)=(Rat.divInt a b).num:=by
   rw [d1,<- eg];exact Int.tdiv_eq_ediv_of_dvd (Zfv ..)
  have e2:b.tdiv ((Nat.gcd a.natAbs b.natAbs:Nat):Int)=((Rat.divInt a b).den:Int):=by
   rw [d2,<- eg];exact Int.tdiv_eq_ediv_of_dvd (Zgr ..)
  have hn:(Rat.divInt a b).num.natAbs<=a.natAbs:=by
   rw [<- e1,Int.natAbs_tdiv,Zbj];exact Zdn _ _
  have hd:(Rat.divInt a b).den<=b.natAbs:=by
   have:=congrArg Int.natAbs e2;rw [Int.natAbs_tdiv,Zbj,Zbj] at this;rw [<- this];exact Zdn _ _
  rw [zw.t29,zA,zw.rC,xg (by omega),zxx,show max a (0-a)=(a.natAbs:Int) by omega];have hbb:I b=I (b.natAbs:Int):=by congr 1;omega
  have hgc:∀ KK:Kw Prop,(∀ h2 n3,h2=h->n3=y->KK (I ((Nat.gcd a.natAbs b.natAbs:Nat):Int)) h2 n3=.ok True)->(CS Tryz.prog B).fn 204 (.of 204) [I (a.natAbs:Int),I b] h y KK=.ok True:=λKK q=>by
   rw [hbb];refine zz1 (by omega) (by omega) _ _ _ _ ?_;rintro _ rfl _;exact q _ _ rfl rfl
  refine hgc _ ?_;rintro h2 n3 rfl rfl;rw [zA,zw.qz,zh4 (by omega) (by omega),zh4 (by omega) (by omega),e1,e2,zA,zw.nZ,zA,zA,zw.rX,yu,zB,zw.v7]
  generalize Rat.divInt a b=q at *
  have l1:=zl4 (n:=q.num.natAbs) (by omega);have l2:=zl4 (n:=q.den) (by omega);have fin:∀ (sg:List UInt8) (x7:AV),sg=(if q.num<0 then [45] else [])->zw.t25.run (CS Tryz.prog B) 100 (fnO zw.res K) (zf zw.res K) (zw.fr (I q.num) (I (q.den:Int)) (.str []) (I ((Nat.gcd a.natAbs b.natAbs:Nat):Int)) (.str sg) x5 x6 x7 .u) h2 n3=.ok True:=by
   intro sg x7 hsg;have ls:sg.length<=1:=by rw [hsg];split <;> simp
   rw [zw.t25,zA,zw.rG,xg (by omega),zxx,show max q.num (0-q.num)=(q.num.natAbs:Int) by omega];refine vX (w:=1) (by omega) (by omega) _ _ _ _ ?_;rintro _ rfl _;rw [tCat (by omega),zA,zA,zw.zgh,kg,zB,zw.v8];have hint:sg++gq q.num.natAbs 1=dx q.num:=by rw [hsg];rfl
   by_cases c:q.den=1
   .rw [Zab (by omega),zC,zE,zA,zw.tT];simp only [zG,zQ];rw [zw.ret];exact hK _ _ _ _ _ H0 (zK rfl) (by rw [jv,if_pos c,Zbh,hint])
   .have hdp:=q.den_pos;rw [Zac (by omega),zD,zw.rY,tCat (by simp;omega)];refine vX (w:=1) (by omega) (by omega) _ _ _ _ ?_;rintro _ rfl _;rw [tCat (by simp;omega),zA,zw.tT];simp only [zG,zQ];rw [zw.ret];refine hK _ _ _ _ _ H0 (zK rfl) ?_;rw [jv,if_neg c,<- hint,dx,if_neg (show ¬ ((q.den:Int)<0) by omega),Zbf,Zbj];simp
  by_cases d:q.num<0
  .rw [Zac d,zD,zw.tF];exact fin _ _ (by rw [if_pos d])
  .rw [Zab d,zC,zE];exact fin _ _ (by rw [if_neg d])
 rw [zA,zA,zw.zo,zw.sH,zw.sJ,yu,Zab (by omega)];simp only [yJ];rw [kg];simp only [zW];rw [Zab (by omega)];simp only [yJ];rw [zw.tO,zw.rM];simp only [yJ];rw [yu];simp only [zW];rw [Zab (by omega)];simp only [yJ];rw [kg];simp only [zW];rw [Zab (by omega),zB,zw.v5,zC,zE,zA,zA,zw.uj,yu,zB,zw.v6,Zab (by omega),zC,zE];exact tail ha hb hK
def Qd (q:Rat):Prop:=q.num.natAbs<1000000000/\q.den<1000000000
theorem zz5 {p q:Rat} (hp:Qd p) (hq:Qd q):Pure Tryz.prog B 144 [.str (jv p),.str (jv q)] (· = .str (jv (p+q))):=by
 refine zV λh y K H0 hK=>zL zR yK 100 λhf => ?_;obtain ⟨p1,p2⟩:=hp;obtain ⟨q1,q2⟩:=hq;rw [qx.go,qx.t17,zA,qx.zu,zA,qx.zo];refine bA p1 p2 _ _ _ _ ?_;rintro _ rfl _;rw [yZ,jC,jW,zA,qx.yt];refine bA q1 q2 _ _ _ _ ?_;rintro _ rfl _;rw [yZ,jC,jW,zA,zA,qx.vk];simp only [yN,zT];have m1:(p.num*(q.den:Int)).natAbs<10 ^ 9*10 ^ 9:=by rw [Zci];exact Zeu p1 (by omega)
 have m2:(q.num*(p.den:Int)).natAbs<10 ^ 9*10 ^ 9:=by rw [Zci];exact Zeu q1 (by omega)
 have m3:((p.den:Int)*(q.den:Int)).natAbs<10 ^ 9*10 ^ 9:=by rw [Zci];exact Zeu (by omega) (by omega)
 have m4:0<(p.den:Int)*(q.den:Int):=Int.mul_pos (Zgd.2 p.den_pos) (Zgd.2 q.den_pos);rw [zB,qx.v13,zD,zA,qx.nY,nk (by omega),nk (by omega),jg (by omega),nk (by omega)];refine zxy (by omega) (by omega) _ _ _ _ ?_;rintro _ rfl _;rw [zd7];simp only [zG,zQ];rw [qx.ret];exact hK _ _ _ _ _ H0 (zK rfl) rfl
theorem zsj {p q:Rat} (hp:Qd p) (hq:Qd q):Pure Tryz.prog B 89 [.str (jv p),.str (jv q)] (· = .str (jv (p*q))):=by
 refine zV λh y K H0 hK=>zL zR yK 100 λhf => ?_;obtain ⟨p1,p2⟩:=hp;obtain ⟨q1,q2⟩:=hq;rw [F89.go,F89.t17,zA,F89.zu,zA,F89.zo];refine bA p1 p2 _ _ _ _ ?_;rintro _ rfl _;rw [yZ,jC,jW,zA,F89.yt];refine bA q1 q2 _ _ _ _ ?_;rintro _ rfl _;rw [yZ,jC,jW,zA,zA,F89.vk];simp only [yN,zT];have m1:(p.num*q.num).natAbs<10 ^ 9*10 ^ 9:=by rw [Zci];exact Zeu p1 q1
 have m3:((p.den:Int)*(q.den:Int)).natAbs<10 ^ 9*10 ^ 9:=by rw [Zci];exact Zeu (by omega) (by omega)
 have m4:0<(p.den:Int)*(q.den:Int):=Int.mul_pos (Zgd.2 p.den_pos) (Zgd.2 q.den_pos);rw [zB,F89.v13,zD,zA,F89.nY,nk (by omega),nk (by omega)];refine zxy (by omega) (by omega) _ _ _ _ ?_;rintro _ rfl _;rw [zd6];simp only [zG,zQ];rw [F89.ret];exact hK _ _ _ _ _ H0 (zK rfl) rfl
theorem zvo:dg 1000000000 1=[1]:=by rw [kS (by decide) (by decide),show 1 / 1000000000=0 from rfl,gH]
theorem zvp {a g:Int} (hg:0<g) (hd:g∣a):(if decide (a<0)=true then -((a.natAbs / g.natAbs:Nat):Int) else ((a.natAbs / g.natAbs:Nat):Int))=a / g:=by
 obtain ⟨t,rfl⟩:=hd;rw [Zci,Nat.mul_div_cancel_left _ (by omega),Int.mul_ediv_cancel_left _ (by omega)];by_cases d:t<0
 .rw [if_pos (Zac (Int.mul_neg_of_pos_of_neg hg d))];omega
 .have:0<=g*t:=Zgi (by omega) (by omega);rw [if_neg (by rw [Zab (by omega)];decide)];omega
theorem zii {a b:Int} {k:Nat} (hk:k<=40000) (ha:Z9 k a) (hb:Z9 k b) (hb0:b≠0) (hbN:b.natAbs<1000000000):Pure Tryz.prog B 140 [oJ a,oJ b] (· = .str (jv (Rat.divInt a b))):=by
 refine zV λh y K H0 hK=>zL zR yK 100 λhf => ?_;rw [yg.go,yg.t22,zA,yg.zu];refine H0.box (l:=[.bool (decide (a<0)),wz (dg 1000000000 a.natAbs)]) rfl λpa h1 y1 H1 => ?_;refine H1.box (l:=[.bool (decide (b<0)),wz (dg 1000000000 b.natAbs)]) rfl λpb h2 y2 H2 => ?_
 have tail:∀ {h3:T Blk} {y3:Pa} {a b:Int} {x9:AV},Z9 k a->Z9 k b->0<b->b.natAbs<1000000000->(∀ v h' y' L v',Hp h h' y' L->sj h h' v v'->v'=.str (jv (Rat.divInt a b))->K v h' y'=.ok True)->Hp h h3 y3 [.arr pb [.bool (decide (b<0)),wz (dg 1000000000 b.natAbs)],.arr pa [.bool (decide (a<0)),wz (dg 1000000000 a.natAbs)]]->∀ {x0 x1:AV},
   IR.run yg.t20 (CS Tryz.prog B) 100 (fnO yg.res K) (zf yg.res K) (yg.fr x0 x1 (.ptr pa 0) (.ptr pb 0) (.str []) .u .u .u .u x9 .u) h3 y3=.ok True:=by
  intro h3 y3 a b x9 ha hb hb0 hbN hK H x0 x1;have la:=ha.len;have lb:=hb.len;have hg:0<Nat.gcd a.natAbs b.natAbs:=Nat.gcd_pos_of_pos_right _ (by omega);have hgl:Nat.gcd a.natAbs b.natAbs<=b.natAbs:=Nat.le_of_dvd (by omega) (Nat.gcd_dvd_right ..);obtain ⟨d1,d2⟩:=qW (n:=a) (d:=b) hb0;have eg:(Int.gcd a b:Int)=((Nat.gcd a.natAbs b.natAbs:Nat):Int):=rfl;have hsg:=zvp (a:=a) (g:=(Int.gcd a b:Int)) (by rw [eg];omega) (Zfv ..);rw [<- d1,eg,Zbj] at hsg;have hden:(Rat.divInt a b).den=b.natAbs / Nat.gcd a.natAbs b.natAbs:=by
   have e3:b / ((Nat.gcd a.natAbs b.natAbs:Nat):Int)=((b.natAbs / Nat.gcd a.natAbs b.natAbs:Nat):Int):=by
    rw [Int.natCast_ediv]
    congr 1
    omega
   rw [eg,e3] at d2;exact Int.natCast_inj.1 d2
  have hqn:Z9 k (Rat.divInt a b).num:=by
   unfold Z9 at *
   have e4:(Rat.divInt a b).num.natAbs=a.natAbs / Nat.gcd a.natAbs b.natAbs:=by
    rw [<- hsg];split
    .rw [Zed,Zbj]
    .rw [Zbj]
   rw [e4];exact Zdd (Zdn _ _) ha
  have hqd:Z9 k ((Rat.divInt a b).den:Int):=by
   unfold Z9 at *
   rw [hden,Zbj];exact Zdd (Zdn _ _) hb
  have l1:=vC hqn;have l2:=vC hqd;have oq:=qM (b:=1000000000) (by decide) (a.natAbs / Nat.gcd a.natAbs b.natAbs);have lq:=mR (b:=1000000000) (by decide) (Zdn a.natAbs (Nat.gcd a.natAbs b.natAbs));have Sg:S9 (Nat.gcd a.natAbs b.natAbs):=by
   have:=mR (b:=1000000000) (by decide) hgl;unfold S9;omega
  rw [yg.t20,zA,yg.dz,sFx,H.load (k:=1) (i:=0+1) rfl rfl,sFx,H.load (k:=0) (i:=0+1) rfl rfl];refine zd2 hbN (by unfold S9;omega) (by unfold S9;omega) _ _ _ _ ?_;rintro _ rfl _;rw [zA,yg.uj,sFx,H.load (k:=1) (i:=0+1) rfl rfl];refine c7 hg (Zdd hgl hbN) (by unfold S9;omega) Sg _ _ _ _ ?_;rintro _ rfl _;rw [yZ,jC,zA,yg.ng,sFx,H.load (k:=0) (i:=0+1) rfl rfl];refine c7 hg (Zdd hgl hbN) (by unfold S9;omega) Sg _ _ _ _ ?_;rintro _ rfl _;rw [yZ,jC,zA,yg.rE,sFx,H.load (k:=1) (i:=0+0) rfl rfl];refine xT oq.2.1 (by omega) _ _ _ _ ?_;rintro _ rfl _;rw [oq.1,hsg];refine zlz (by omega) hqn _ _ _ _ ?_;rintro _ rfl _;rw [<- hden,zA,zA,yg.rF]
  generalize Rat.divInt a b=q at *
  have od:=qM (b:=1000000000) (by decide) q.den;by_cases c:q.den=1
  .rw [c,zvo,yg.r6_0,yg.zeq,dLen,qf,Zac (by rfl)];simp only [yN];rw [dIx (l:=[1]) (i:=0) (j:=0) rfl (by simp),dLd (x:=1) rfl,qf,Zac (by rfl),yg.r6_1,yg.oC];simp only [zT];rw [zB,yg.v10,zD,zA,yg.rC];simp only [zG,zQ];rw [yg.ret];exact hK _ _ _ _ _ H (zK rfl) (by rw [jv,if_pos c,Zbh])
  .have fin:∀ x10:AV,IR.run yg.t15 (CS Tryz.prog B) 100 (fnO yg.res K) (zf yg.res K) (yg.fr x0 x1 (.ptr pa 0) (.ptr pb 0) (.str []) (wz (dg 1000000000 (Nat.gcd a.natAbs b.natAbs))) (wz (dg 1000000000 (a.natAbs / Nat.gcd a.natAbs b.natAbs))) (wz (dg 1000000000 q.den)) (.str (dx q.num)) x9 x10) h3 y3=.ok True:=by
    intro x10;rw [yg.t15,zA,yg.tF,tCat (by simp;omega)];refine xT od.2.1 (by have:=hqd.len;rw [Zbj] at this;omega) _ _ _ _ ?_;rintro _ rfl _;rw [if_neg (by decide),od.1];refine zlz (by omega) hqd _ _ _ _ ?_;rintro _ rfl _;rw [tCat (by simp;omega)];simp only [zG,zQ];rw [yg.ret];exact hK _ _ _ _ _ H (zK rfl) (by rw [jv,if_neg c,Zcg];rfl)
   rw [yg.r6_0,yg.zeq,dLen,qf];by_cases e:(dg 1000000000 q.den).length=1
   .obtain ⟨e1,e2⟩:=zb8 (b:=1000000000) (by decide) e;rw [Zac (by omega)];simp only [yN];rw [e1,dIx (l:=[q.den]) (i:=0) (j:=0) rfl (by simp),dLd (x:=q.den) rfl,qf,Zab (by omega),yg.r6_1,yg.oC];simp only [zT];rw [zB,yg.v10,zC,zE];rw [<- e1];exact fin _
   .rw [Zab (by omega)];simp only [yY,zbs];rw [yg.r6_1,yg.oC];simp only [zW];rw [zB,yg.v10,zC,zE];exact fin _
 rw [zA,zA,yg.zo,sFx,H2.load (k:=0) (i:=0+0) rfl rfl,zB,yg.v9];by_cases c:b<0
 .rw [Zac c,zD,yg.yt,H2.zi (k:=1) (n:=2) rfl rfl,H2.zi (k:=0) (n:=2) rfl rfl];have hma:Z9 k (-a):=by unfold Z9 at *;omega
  have hmb:Z9 k (-b):=by unfold Z9 at *;omega
  rw [<- vT a,<- vT b];refine zh7 (by omega) ha _ _ _ _ ?_;rintro _ rfl _;rw [H2.zi (k:=0) (n:=2) rfl rfl,<- vT b,zF];refine zh7 (by omega) hb _ _ _ _ ?_;rintro _ rfl _;refine H2.jc (l2:=[.bool (decide (-a<0)),wz (dg 1000000000 (-a).natAbs)]) (k:=1) rfl rfl rfl λh3 H3 => ?_;refine H3.jc (l2:=[.bool (decide (-b<0)),wz (dg 1000000000 (-b).natAbs)]) (k:=0) rfl rfl rfl λh4 H4 => ?_;exact tail hma hmb (by omega) (by omega) (by rw [Rat.neg_divInt_neg];exact hK) H4
 .rw [Zab c,zC,zE];exact tail ha hb (by omega) hbN hK (by rw [Zab c] at H2 ⊢;exact H2)
theorem zfy {n:Nat} (h:gq n 1=[48]):n=0:=by
 have hlt:=zl0 (n:=n) (k:=1) (by rw [h];simp);rcases Zel n with e | e
 .exact e
 .exfalso
  have hd:dg 10 n=[n]:=by
   rw [kS (by decide) (by omega),show n / 10=0 by omega,gH,show n%10=n by omega]
  unfold gq at h;rw [xZ (by omega),hd] at h;have:∀ n<10,0<n->dch n≠48:=by decide +kernel
  exact this n (by omega) e (by simpa using h)
theorem oK {q:Rat}:jv q=[48]↔q=0:=by
 constructor
 .intro h;have hd1:=wR q.num.natAbs;have hlen:=congrArg List.length h;rw [pP] at h hlen;by_cases d:q.num<0
  .rw [if_pos d] at h;have:=congrArg List.head? h;simp at this
  .rw [if_neg d,Zbf] at h hlen;unfold rQ at h hlen;by_cases c:q.den=1
   .rw [if_pos c,Zbh] at h;have:=zfy h;exact Zcp.1 (by omega)
   .rw [if_neg c] at hlen;simp at hlen;omega
 .rintro rfl;rw [jv,if_pos (show (0:Rat).den=1 from rfl),Zbh];show dx 0=[48];rw [dx,if_neg (by decide)];exact vI
theorem zij {a b:List UInt8} {K:AV->OP}:za .eql .str (.str a) (.str b) K=K (.bool (decide (a=b))):=by
 have e:za .eql .str (.str a) (.str b) K=K (.bool (j5 a b)):=nr rfl;rw [e];by_cases c:a=b
 .rw [Zac c,xh.2 c]
 .rw [Zab c];cases q:j5 a b with
  | true=>exact absurd (xh.1 q) c
  | false=>rfl
theorem xX {q:Rat} (d:q.num<0):jv q=45::rQ q:=by rw [pP,if_pos d];rfl
theorem xW {q:Rat} (d:¬ q.num<0):jv q=rQ q/\∃ c,(jv q)[0]? = some c/\c≠45:=by
 have hd1:=wR q.num.natAbs;have hcut:jv q=rQ q:=by rw [pP,if_neg d];rfl
 have hc0:=Zgu (l:=gq q.num.natAbs 1) (i:=0) (by omega);exact ⟨hcut,_,by rw [hcut,rQ,Zha (by omega),hc0],(vJ (Zad hc0)).2⟩
theorem cO (q:Rat):1<=(jv q).length:=by
 have hd1:=wR q.num.natAbs;rw [pP,rQ,Zag,Zag];omega
theorem zl5 {q:Rat} (hl:(jv q).length<=1000000):Pure Tryz.prog B 207 [.str (jv q)] (· = I (uC q.num)):=by
 refine zV λh y K H0 hK=>zL zR yK 100 λhf => ?_;have l1:=cO q;rw [uo.go,uo.t15,zA,uo.zu,zA,zA,uo.zo,zij,zB,uo.v2];by_cases c:q=0
 .rw [Zac (oK.2 c),zD,zA,uo.yt];simp only [zG,zQ];rw [uo.ret];exact hK _ _ _ _ _ H0 (zK rfl) (by rw [c];rfl)
 .have hn:q.num≠0:=λe=>c (Zcp.1 e);rw [Zab (λe=>c (oK.1 e)),zC,zE,zA,zA,uo.uj,tN,kg,Zac (by omega)];simp only [yN];by_cases d:q.num<0
  .have e0:(jv q)[0]? = some 45:=by rw [xX d];rfl
   rw [eH (i:=0) (x:=0) rfl e0,qf];simp only [zT];rw [show decide (((45:UInt8).toNat:Int)=45)=true from rfl,zB,uo.v3,zD,zA,uo.ng];simp only [zG,zQ];rw [uo.ret];exact hK _ _ _ _ _ H0 (zK rfl) (by unfold uC;rw [if_pos d])
  .obtain ⟨_,c',e0,hne⟩:=xW d
   have hne2:¬ ((c'.toNat:Int)=45):=λh=>hne (by
    have e:(45:UInt8).toNat=45:=rfl;have:c'.toNat=(45:UInt8).toNat:=by omega
    exact UInt8.toNat_inj.1 this)
   rw [eH (i:=0) (x:=0) rfl e0,qf];simp only [zT];rw [Zab hne2,zB,uo.v3,zC,zE,zA,uo.qz];simp only [zG,zQ];rw [uo.ret];exact hK _ _ _ _ _ H0 (zK rfl) (by unfold uC;rw [if_neg d,if_pos (by omega)])
theorem zcc (q:Rat):rQ (-q)=rQ q:=by unfold rQ;rw [Zen,Zgk,Zed]
theorem zz6 {q:Rat} (hl:(jv q).length<=900000):Pure Tryz.prog B 145 [.str (jv q)] (· = .str (jv (-q))):=by
 refine zV λh y K H0 hK=>zL zR yK 100 λhf => ?_;have l1:=cO q;rw [uq.go,uq.t15,zA,uq.zu,zA,zA,uq.zo];refine zl5 (by omega) _ _ _ _ ?_;rintro _ rfl _;rw [yu,zB,uq.v2];by_cases d:q.num<0
 .rw [Zac (by unfold uC;rw [if_pos d];decide),zD,zA,uq.yt,dN (a:=1) (x:=1) rfl l1,xX d];simp only [zG,zQ];rw [uq.ret];exact hK _ _ _ _ _ H0 (zK rfl) (by rw [pP (-q),if_neg (by rw [Zen];omega),zcc];rfl)
 .rw [Zab (by unfold uC;rw [if_neg d];split <;> decide),zC,zE,zA,zA,uq.uj];refine zl5 (by omega) _ _ _ _ ?_;rintro _ rfl _;rw [qf,zB,uq.v3];by_cases c:q.num=0
  .have hq:=Zcp.1 c;rw [Zac (by unfold uC;rw [if_neg d,if_neg (by omega)]),zD,zA,uq.ng];simp only [zG,zQ];rw [uq.ret];exact hK _ _ _ _ _ H0 (zK rfl) (by rw [hq];rfl)
  .rw [Zab (by unfold uC;rw [if_neg d,if_pos (by omega)];decide),zC,zE,zA,uq.qz,tCat (by simp;omega)];simp only [zG,zQ];rw [uq.ret];exact hK _ _ _ _ _ H0 (zK rfl) (by rw [(xW d).1,xX (by rw [Zen];omega),zcc];rfl)
theorem Qd.neg {q:Rat} (h:Qd q):Qd (-q):=⟨by rw [Zen,Zed];exact h.1,by rw [Zgk];exact h.2⟩
theorem Qd.z9 {q:Rat} (h:Qd q):Z9 1 q.num/\Z9 1 (q.den:Int):=⟨by unfold Z9;exact h.1,by unfold Z9;rw [Zbj];exact h.2⟩
theorem Qd.txt {q:Rat} (h:Qd q):(jv q).length<=100:=by
 have l1:=vC h.z9.1;have l2:=vC h.z9.2;unfold jv;rw [Zag];split <;> simp <;> omega
theorem zz7 {p q:Rat} (hp:Qd p) (hq:Qd q):Pure Tryz.prog B 90 [.str (jv p),.str (jv q)] (· = .str (jv (p-q))):=by
 refine zV λh y K H0 hK=>zL zR yK 100 λhf => ?_;have tq:=hq.txt;rw [F90.go,F90.t3,zA,F90.zu,zA,F90.zo];refine zz6 (by omega) _ _ _ _ ?_;rintro _ rfl _;refine zz5 hp hq.neg _ _ _ _ ?_;rintro _ rfl _;simp only [zG,zQ];rw [F90.ret];exact hK _ _ _ _ _ H0 (zK rfl) (by rw [Zfh])
theorem zc1 {p:Rat} (hp:Qd p) (h0:p≠0):Pure Tryz.prog B 88 [.str (jv p)] (· = .str (jv p⁻¹)):=by
 refine zV λh y K H0 hK=>zL zR yK 100 λhf => ?_;rw [F88.go,F88.t5,zA,F88.zu,zA,F88.zo];refine zic (k:=1) (by decide) hp.z9.1 hp.z9.2 _ _ _ _ ?_;rintro _ rfl _;rw [yZ,jC];refine H0.alloc λp1 h1 y1 H1 => ?_;refine H1.alloc λp2 h2 y2 H2 => ?_;refine H2.jc (l2:=[.bool (decide (p.num<0)),wz (dg 1000000000 p.num.natAbs)]) (k:=1) rfl rfl rfl λh3 H3 => ?_;refine H3.jc (l2:=[.bool (decide ((p.den:Int)<0)),wz (dg 1000000000 (p.den:Int).natAbs)]) (k:=0) rfl rfl rfl λh4 H4 => ?_;rw [zA,F88.yt,H4.zi (k:=0) (n:=2) rfl rfl,H4.zi (k:=1) (n:=2) rfl rfl,<- vT,<- vT];refine zii (k:=1) (by decide) hp.z9.2 hp.z9.1 (λe=>h0 (Zcp.1 e)) hp.1 _ _ _ _ ?_;rintro _ rfl _;simp only [zG,zQ];rw [F88.ret];exact hK _ _ _ _ _ H4 (zK rfl) (by rw [<- Rat.inv_def])
theorem zd9 {q:Rat}:Pure Tryz.prog B 87 [.str (jv q)] (· = .bool (decide (q=0))):=by
 refine zV λh y K H0 hK=>zL zR yK 100 λhf => ?_;rw [F87.go,F87.t3,zA,F87.zu,zA,F87.zo,zij];simp only [zG,zQ];rw [F87.ret];exact hK _ _ _ _ _ H0 (zK rfl) (by congr 1;exact decide_eq_decide.2 oK)
abbrev T9 (q:Rat):AV:=.str (jv q)
def uR (l:List Rat):AV:=.lst 1 l.length (l.map T9)
def gS (M:List (List Rat)):AV:=.lst 1 M.length (M.map uR)
def rv9 (w:Nat) (r:Pa):AV:=.sl r 0 w none 1
def jY (rs:List Pa) (M:List (List Rat)):List Ob:=List.zipWith (λr l=>Ob.arr r (l.map T9)) rs M
theorem fE {rs:List Pa} {M:List (List Rat)} {r:Pa} {l:List Rat} (h:rs.length=M.length):jY (rs++[r]) (M++[l])=jY rs M++[.arr r (l.map T9)]:=by
 unfold jY;rw [List.zipWith_append h];rfl
theorem zvq (l:List Rat):(l.map T9).all gy=true:=by simp [Zaw,gy]
theorem zsk {M:List (List Rat)} {w:Nat} {h0 h:T Blk} {y p0:Pa} {K:Kw Prop} (H0:Hp h0 h y []) (hw:1<=w) (hws:w<=1000000) (hM:∀ l∈M,l.length=w) (hMs:M.length<=100000)
  (hK:∀ (o:Option Pa) (rs:List Pa) (h':T Blk) (y':Pa),rs.length=M.length->Hp h0 h' y' (.gro o 1 M.length (rs.map (rv9 w))::jY rs M)->K (uf o 1 M.length) h' y'=.ok True) :
  (CS Tryz.prog B).fn 85 p0 [gS M] h y K=.ok True:=by
 refine j7 (p:=.of 85) (K:=K) (zL zR yK 100010 λhf => ?_) λ_ _ _ _ q=>q;rw [F85.go,F85.t18,zA,F85.zu,zA,F85.zo,zA,zA,F85.yt,zJ];refine F85.zou (λm x2 x3 h' y'=>∃ (i:Nat) (o:Option Pa) (rs:List Pa),x2=uf o 1 i/\x3=I (i:Int)/\m+i=M.length/\rs.length=i/\Hp h0 h' y' (.gro o 1 i (rs.map (rv9 w))::jY rs (M.take i))) (m:=M.length) (by omega) ⟨0,none,[],rfl,rfl,rfl,rfl,H0.om 1⟩ ?_;rintro m z2 z3 z4 h3 y3 R ⟨i,o,rs,rfl,rfl,hm,hrs,H3⟩ hR;rw [F85.t10,zA,zA,F85.vk,gS,zS,yu];by_cases c:i<M.length
 .have er:=Zgu c;have hl:=hM M[i] (Zas c);have qdl:(M.map uR)[i]? = some (uR M[i]):=by rw [Zgw,er];rfl
  rw [Zac (by omega),zB,F85.v4,zD,zE,zA,zJ,F85.uj];refine H3.qw (l:=[]) rfl λe h4 y4 H4 => ?_;rw [xu (i:=i) rfl c,ldL qdl];refine H4.appE (new:=M[i].map T9) (c:=w) (λno K'=>by rw [uR,hl];rfl) (by simp [hl]) (zvq _) (by decide) hw hws λid h5 y5 H5 => ?_;have H6:=H5.zkq.perm (.swap _ _ _);refine H6.zd1 (v:=rv9 w id) (by omega) (by decide) rfl rfl λo' h7 y7 H7 => ?_;rw [F85.rE,jg (by omega)];refine hR (m-1) _ _ _ _ _ (by omega) ⟨i+1,o',rs++[id],rfl,by congr 1,by omega,by simp [hrs],?_⟩;have ht:M.take (i+1)=M.take i++[M[i]]:=by rw [Zar,er];rfl
  rw [ht,fE (by rw [Zaj];omega),Zbi];exact H7.perm ((Zdw _ _).symm.cons _)
 .obtain rfl:i=M.length:=by omega
  rw [Zan (by omega)] at H3;rw [Zab (by omega),zB,F85.v4,zC,zY,yD,zA,F85.tF];simp only [zG,zQ];rw [F85.ret];exact hK o rs _ _ hrs H3
def zl6 (c:UInt8):Nat:=c.toNat-48
theorem zn8 {x:Nat} (h:x<10):zl6 (dch x)=x:=by unfold zl6;rw [zfv h];omega
theorem zik (n w:Nat):bv 10 ((gq n w).map zl6).reverse=n:=by
 have e:((gq n w).map zl6).reverse=rP n w:=by
  unfold gq;rw [Zfe,<- List.map_reverse,Zet]
  conv=>rhs;rw [<- List.map_id (rP n w)]
  exact Zdg λx hx=>zn8 (wZ n w x hx)
 rw [e,bD]
theorem zil {n m w:Nat} (h:gq n w=gq m w):n=m:=by rw [<- zik n w,h,zik]
theorem zim {a b:Int} (h:dx a=dx b):a=b:=by
 have key:∀ {a b:Int},a<0->¬ b<0->dx a≠dx b:=λ{a b} h1 h2 e=>by
  unfold dx at e;rw [if_pos h1,if_neg h2,Zbf] at e;have hm:(45:UInt8)∈gq b.natAbs 1:=by rw [<- e];simp
  exact (vJ hm).2 rfl
 by_cases h1:a<0
 .by_cases h2:b<0
  .unfold dx at h;rw [if_pos h1,if_pos h2] at h;have:=zil (List.append_cancel_left h);omega
  .exact absurd h (key h1 h2)
 .by_cases h2:b<0
  .exact absurd h.symm (key h2 h1)
  .unfold dx at h;rw [if_neg h1,if_neg h2,Zbf,Zbf] at h;have:=zil h;omega
theorem qdm {a b c d:List UInt8} (ha:∀ x∈a,x≠47) (hb:∀ x∈b,x≠47) (hc:c=[]\/∃ l,c=47::l) (hd:d=[]\/∃ l,d=47::l) (h:a++c=b++d):a=b/\c=d:=by
 have tw:∀ {a c:List UInt8},(∀ x∈a,x≠47)->(c=[]\/∃ l,c=47::l)->(a++c).takeWhile (· != 47)=a:=λ{a c} ha hc=>by
  rw [List.takeWhile_append_of_pos λx hx=>by simpa using ha x hx];rcases hc with rfl | ⟨l,rfl⟩ <;> simp
 have e:=congrArg (List.takeWhile (· != 47)) h;rw [tw ha hc,tw hb hd] at e;subst e;exact ⟨rfl,List.append_cancel_left h⟩
theorem zsl {p q:Rat} (h:jv p=jv q):p=q:=by
 unfold jv at h;have sh:∀ q:Rat,(if q.den=1 then [] else 47::dx (q.den:Int))=[]\/∃ l,(if q.den=1 then [] else 47::dx (q.den:Int))=47::l:=λq=>by
  split
  .exact .inl rfl
  .exact .inr ⟨_,rfl⟩
 obtain ⟨h1,h2⟩:=qdm (λx hx=>pX hx) (λx hx=>pX hx) (sh p) (sh q) h;refine Rat.ext (zim h1) ?_;split at h2 <;> split at h2
 .omega
 .cases h2
 .cases h2
 .have:=zim (List.cons.inj h2).2;omega
theorem zz8 {a b:List UInt8} {K:AV->OP}:za .neq .str (.str a) (.str b) K=K (.bool (!decide (a=b))):=by
 have e:za .neq .str (.str a) (.str b) K=K (.bool (!j5 a b)):=nr rfl;rw [e];by_cases c:a=b
 .rw [Zac c,xh.2 c]
 .rw [Zab c];cases q:j5 a b with
  | true=>exact absurd (xh.1 q) c
  | false=>rfl
theorem zkt {p q:List Rat} (hp:p.length<=1000000):Pure Tryz.prog B 40 [uR p,uR q] (· = .bool (decide (p=q))):=by
 refine zV λh y K H0 hK=>zL zR yK 1000010 λhf => ?_;have ret:∀ {b:Bool},b=decide (p=q)->K (.bool b) h y=.ok True:=λe=>hK _ _ _ _ _ H0 (zK rfl) (by rw [e]);rw [F40.go,F40.t26,zA,F40.zu,zA,zA,F40.zo,uR,uR,zS,zS,qj,zB,F40.v4];by_cases c:p.length=q.length
 case neg =>
  rw [Zab (by omega),Zal,zD,zA,F40.yt];simp only [zG,zQ];rw [F40.ret];exact ret (Zab λe=>c (by rw [e])).symm
 rw [Zac (by omega),Zah,zC,zE,zA,zA,F40.uj,zJ];refine F40.zgl (λm x3 h' y'=>∃ i:Nat,x3=I (i:Int)/\m+i=p.length/\p.take i=q.take i/\h'=h/\y'=y) (m:=p.length) (by omega) ⟨0,rfl,rfl,rfl,rfl,rfl⟩ ?_;rintro m z2 z3 z5 z6 h3 y3 R ⟨i,rfl,hm,ht,rfl,rfl⟩ hR;rw [F40.t18,zA,zA,F40.ng,zS,yu,zB,F40.v5];by_cases ci:i<p.length
 .have ep:=Zgu ci;have eq:=Zgu (show i<q.length by omega);have e1:(p.map T9)[i]? = some (T9 p[i]):=by rw [Zgw,ep];rfl
  have e2:(q.map T9)[i]? = some (T9 q[i]):=by rw [Zgw,eq];rfl
  rw [Zac (by omega),zD,zE,zA,zJ,zA,F40.rC,xu (i:=i) rfl ci,ldL e1,xu (i:=i) rfl (by omega),ldL e2,zz8,zB,F40.v6];by_cases d:p[i]=q[i]
  .rw [Zac (by rw [d]),Zah,zC,zE,F40.rU,jg (by omega)];refine hR (m-1) _ _ _ _ _ _ (by omega) ⟨i+1,by congr 1,by omega,?_,rfl,rfl⟩;rw [Zar,Zar,ep,eq,ht,d]
  .rw [Zab (λe=>d (zsl e)),Zal,zD,zA,F40.qz];simp only [zG,kV,zQ];rw [F40.ret];refine ret (Zab λe=>d ?_).symm;subst e
   rfl
 .rw [Zab (by omega),zC,zY,yD,zA,F40.tT];simp only [zG,zQ];rw [F40.ret];rw [Zan (by omega),Zan (by omega)] at ht;exact ret (Zac ht).symm
theorem zfz {p q:List (List Rat)} (hp:p.length<=1000000) (hw:∀ l∈p,l.length<=1000000):Pure Tryz.prog B 13 [gS p,gS q] (· = .bool (decide (p=q))):=by
 refine zV λh y K H0 hK=>zL zR yK 1000010 λhf => ?_;have ret:∀ {b:Bool},b=decide (p=q)->K (.bool b) h y=.ok True:=λe=>hK _ _ _ _ _ H0 (zK rfl) (by rw [e]);rw [F13.go,F13.t26,zA,F13.zu,zA,zA,F13.zo,gS,gS,zS,zS,qj,zB,F13.v4];by_cases c:p.length=q.length
 case neg =>
  rw [Zab (by omega),Zal,zD,zA,F13.yt];simp only [zG,zQ];rw [F13.ret];exact ret (Zab λe=>c (by rw [e])).symm
 rw [Zac (by omega),Zah,zC,zE,zA,zA,F13.uj,zJ];refine F13.zgl (λm x3 h' y'=>∃ i:Nat,x3=I (i:Int)/\m+i=p.length/\p.take i=q.take i/\h'=h/\y'=y) (m:=p.length) (by omega) ⟨0,rfl,rfl,rfl,rfl,rfl⟩ ?_;rintro m z2 z3 z5 z6 h3 y3 R ⟨i,rfl,hm,ht,rfl,rfl⟩ hR;rw [F13.t18,zA,zA,F13.ng,zS,yu,zB,F13.v5];by_cases ci:i<p.length
 .have ep:=Zgu ci;have eq:=Zgu (show i<q.length by omega);have e1:(p.map uR)[i]? = some (uR p[i]):=by rw [Zgw,ep];rfl
  have e2:(q.map uR)[i]? = some (uR q[i]):=by rw [Zgw,eq];rfl
  rw [Zac (by omega),zD,zE,zA,zJ,zA,F13.rC,xu (i:=i) rfl ci,ldL e1,xu (i:=i) rfl (by omega),ldL e2];refine zkt (hw _ (Zas ci)) _ _ _ _ ?_;rintro _ rfl _;rw [jB,zB,F13.v6];by_cases d:p[i]=q[i]
  .rw [Zac d,Zah,zC,zE,F13.rU,jg (by omega)];refine hR (m-1) _ _ _ _ _ _ (by omega) ⟨i+1,by congr 1,by omega,?_,rfl,rfl⟩;rw [Zar,Zar,ep,eq,ht,d]
  .rw [Zab d,Zal,zD,zA,F13.qz];simp only [zG,kV,zQ];rw [F13.ret];refine ret (Zab λe=>d ?_).symm;subst e
   rfl
 .rw [Zab (by omega),zC,zY,yD,zA,F13.tT];simp only [zG,zQ];rw [F13.ret];rw [Zan (by omega),Zan (by omega)] at ht;exact ret (Zac ht).symm
theorem uS {rs:List Pa} {M:List (List Rat)} {y:Nat} {r:Pa} {l:List Rat} (hr:rs[y]? = some r) (hl:M[y]? = some l):(jY rs M)[y]? = some (.arr r (l.map T9)):=by
 unfold jY;rw [Zhh,hr,hl]
theorem zcd:∀ {rs:List Pa} {M:List (List Rat)} {y:Nat} {r:Pa} {l:List Rat},rs[y]? = some r->(jY rs M).set y (.arr r (l.map T9))=jY rs (M.set y l)
 | [],_,_,_,_,h=>by simp at h
 | _::_,[],y,_,_,_=>by simp [jY]
 | a::rs,m::M,0,r,l,h=>by
  simp at h;subst h
  rfl
 | a::rs,m::M,y+1,r,l,h=>by
  have:=zcd (rs:=rs) (M:=M) (y:=y) (r:=r) (l:=l) (by simpa using h);unfold jY at this ⊢;simp only [Zfq,Zfi];rw [this]
theorem vD {α:Type} {a b:List α} {i:Nat} {x:α} (h:a[i]? = some x):(a++b)[i]? = some x:=by
 rw [Zha (Zgv.1 h).1];exact h
def PM (h0 h:T Blk) (y tid:Pa) (rs:List Pa) (w:Nat) (L:List Ob) (M:List (List Rat)):Prop :=
 rs.length=M.length/\(∀ l∈M,l.length=w)/\Hp h0 h y (.arr tid (rs.map (rv9 w))::(jY rs M++L))
theorem PM.tab {h0 h:T Blk} {g tid:Pa} {rs:List Pa} {L:List Ob} {w:Nat} {M:List (List Rat)} (H:PM h0 h g tid rs w L M) {y:Nat} (hy:y<M.length):∃ r,rs[y]? = some r/\∀ op:AV->OP,zH (.ptr tid y) h op=op (rv9 w r):=by
 obtain ⟨h1,_,h3⟩:=H;refine ⟨rs[y],Zgu (by omega),λop => ?_⟩;exact h3.load (k:=0) rfl (by rw [Zgw,Zgu (show y<rs.length by omega)];rfl)
theorem PM.cell {h0 h:T Blk} {g tid:Pa} {rs:List Pa} {L:List Ob} {w:Nat} {M:List (List Rat)} (H:PM h0 h g tid rs w L M) {y c:Nat} {r:Pa} {l:List Rat} {q:Rat} (hr:rs[y]? = some r) (hl:M[y]? = some l) (hq:l[c]? = some q) (op:AV->OP):zH (.ptr r c) h op=op (T9 q) :=
 H.2.2.load (k:=y+1) (by rw [Zhg];exact vD (uS hr hl)) (by rw [Zgw,hq];rfl)
theorem PM.put {h0 h:T Blk} {g tid:Pa} {rs:List Pa} {L:List Ob} {w:Nat} {M:List (List Rat)} (H:PM h0 h g tid rs w L M) {y c:Nat} {r:Pa} {l:List Rat} {q:Rat} {K:Kw Prop} (hr:rs[y]? = some r) (hl:M[y]? = some l) (hc:c<l.length)
  (hK:∀ h',PM h0 h' g tid rs w L (M.set y (l.set c q))->K .u h' g=.ok True):yA 1 (.ptr r c) (T9 q) h g K=.ok True:=by
 obtain ⟨h1,h2,h3⟩:=H;have hy:=(Zgv.1 hl).1;refine h3.store (k:=y+1) (by rw [Zhg];exact vD (uS hr hl)) (by simpa using hc) rfl λh' H'=>hK h' ⟨by rw [Zat];exact h1,λl' hl' => ?_,?_⟩
 .rcases Zbt hl' with e | e
  .exact h2 _ e
  .rw [e,Zat];exact h2 _ (Zad hl)
 .have hyl:=(Zgv.1 (uS hr hl)).1;rw [Zfi,<- Zep,List.set_append_left _ _ hyl,zcd hr] at H';exact H'
theorem zin {l:List Rat} {s:Rat} {c:Nat} {q:Rat} (hq:l[c]? = some q):((l.take c).map (· * s)++l.drop c).set c (q*s)=(l.take (c+1)).map (· * s)++l.drop (c+1):=by
 have hc:=(Zgv.1 hq).1;have e:l.drop c=q::l.drop (c+1):=by
  rw [Zgu hc] at hq;rw [Zav hc,Option.some.inj hq]
 rw [e,pK (by rw [Zae,Zaj];omega),Zar,hq];simp
theorem zku {l:List Rat} {s:Rat} {c:Nat} {q:Rat} (hq:l[c]? = some q):((l.take c).map (· * s)++l.drop c)[c]? = some q:=by
 have hc:=(Zgv.1 hq).1;rw [Zgx (by rw [Zae,Zaj];omega),Zae,Zaj,Zhe,show c+(c-min c l.length)=c by omega];exact hq
theorem zz9 {M:List (List Rat)} {l:List Rat} {tid:Pa} {rs:List Pa} {L:List Ob} {w y N:Nat} {s:Rat} {h0 h:T Blk} {g:Pa} {O:pq Prop} {Kf K2:Ks Prop} {x1 x2 x3 x4 x5 x9 x10 x11 x12 x13 x14 x15 x16 x17 x18:AV}
  (H:PM h0 h g tid rs w L M) (hl:M[y]? = some l) (hM:M.length<=100000) (hw:w<=100000) (hN:100010<=N) (hs:Qd s) (hq:∀ q∈l,Qd q)
  (hK:∀ (h':T Blk) (x15:AV),PM h0 h' g tid rs w L (M.set y (l.map (· * s)))->Kf (F41.fr (.sl tid 0 M.length none 1) x1 x2 x3 x4 x5 (I (y:Int)) (.str (jv s)) (I (w:Int)) x9 x10 x11 x12 x13 x14 x15 x16 x17 x18) h' g=.ok True) :
  IR.run F41.t31 (CS Tryz.prog B) N (O.blk 4 Kf) K2 (F41.fr (.sl tid 0 M.length none 1) x1 x2 x3 x4 x5 (I (y:Int)) (.str (jv s)) (I 0) x9 x10 x11 x12 x13 x14 x15 x16 x17 x18) h g=.ok True:=by
 have hy:=(Zgv.1 hl).1;have hlw:=H.2.1 l (Zad hl)
 refine F41.zgf (λm x8 h' g'=>∃ c:Nat,x8=I (c:Int)/\m+c=w/\g'=g/\PM h0 h' g tid rs w L (M.set y ((l.take c).map (· * s)++l.drop c))) (m:=w) (by omega) ⟨0,rfl,rfl,rfl,by
  have e:M.set y ((l.take 0).map (· * s)++l.drop 0)=M:=by
   simp only [Zdj,List.map_nil,Zbf,Zcw];refine Zbp λi => ?_;rw [Zhm];split
   .rename_i e;subst e;rw [hl]
   .rfl
  rw [e];exact H⟩ ?_
 rintro m z8 z15 h3 g3 R ⟨c,rfl,hm,rfl,H3⟩ hR;have hy3:y<(M.set y ((l.take c).map (· * s)++l.drop c)).length:=by rw [Zat];exact hy
 have hMl:(M.set y ((l.take c).map (· * s)++l.drop c)).length=M.length:=Zat;have hrow:(M.set y ((l.take c).map (· * s)++l.drop c))[y]? = some ((l.take c).map (· * s)++l.drop c):=by rw [Zhc hy]
 obtain ⟨r,hr,ht⟩:=H3.tab hy3;rw [F41.t30,zA,zA,F41.zgi,sIx (i:=y) rfl hy,ht,rv9,yL,yu,zB,F41.v15];by_cases ci:c<w
 .have hc:l[c]? = some l[c]:=Zgu (by omega);have hcell:=λop=>H3.cell hr hrow (zku hc) op;rw [Zac (by omega),zD,zE,zA,zJ,F41.zow,sIx (i:=y) rfl hy,ht,sIx (i:=y) rfl hy,ht,rv9,sIx (i:=c) rfl ci,hcell];refine zsj (hq _ (Zas (by omega))) hs _ _ _ _ ?_;rintro _ rfl _;rw [zF,ht,rv9,zF,sIx (i:=y) rfl hy];simp only [zF];rw [sIx (i:=c) rfl ci];refine H3.put (q:=l[c]*s) hr hrow (by rw [Zag,Zae,Zaj,Zcl];omega) λh4 H4 => ?_;rw [List.set_set,zin hc] at H4;rw [F41.zac,jg (by omega)];exact hR (m-1) _ _ _ _ (by omega) ⟨c+1,by congr 1,by omega,rfl,H4⟩
 .obtain rfl:c=w:=by omega
  rw [Zan (by omega),Zbg (by omega),Zbh] at H3;rw [Zab (by omega),zC,zY,yD];exact hK _ _ H3
def xB (f:Rat) (a b:List Rat):List Rat:=List.zipWith (λx y=>x-f*y) a b
theorem zce {M:List (List Rat)} {y:Nat} {l:List Rat} (hl:M[y]? = some l):M.set y l=M:=by
 have hy:=(Zgv.1 hl).1;refine Zbp λi => ?_;rw [Zhm];split
 .rename_i e;subst e;rw [hl]
 .rfl
theorem zsm {l e:List Rat} {c:Nat} {q:Rat} (hle:e.length=l.length) (hq:l[c]? = some q):(e.take c++l.drop c)[c]? = some q:=by
 have hc:=(Zgv.1 hq).1;rw [Zgx (by rw [Zaj];omega),Zaj,Zhe,show c+(c-min c e.length)=c by omega];exact hq
theorem zn9 {l e:List Rat} {c:Nat} {q:Rat} (hle:e.length=l.length) (hq:e[c]? = some q):(e.take c++l.drop c).set c q=e.take (c+1)++l.drop (c+1):=by
 have hc:=(Zgv.1 hq).1;rw [Zav (show c<l.length by omega),pK (by rw [Zaj];omega),Zar,hq];simp
theorem qdn {M:List (List Rat)} {ly lr:List Rat} {tid:Pa} {rs:List Pa} {L:List Ob} {w y r N:Nat} {f:Rat} {h0 h:T Blk} {g:Pa} {O:pq Prop} {Kf K2:Ks Prop} {x1 x2 x3 x4 x5 x7 x8 x12 x13 x14 x15 x16 x17 x18:AV}
  (H:PM h0 h g tid rs w L M) (hly:M[y]? = some ly) (hlr:M[r]? = some lr) (hyr:y≠r) (hM:M.length<=100000) (hw:w<=100000) (hN:100010<=N) (hf:Qd f) (hqy:∀ q∈ly,Qd q) (hqr:∀ q∈lr,Qd q) (hqp:∀ q∈lr,Qd (f*q))
  (hK:∀ (h':T Blk) (x18:AV),PM h0 h' g tid rs w L (M.set y (xB f ly lr))->Kf (F41.fr (.sl tid 0 M.length none 1) x1 x2 x3 x4 x5 (I (r:Int)) x7 x8 (I (y:Int)) (.str (jv f)) (I (w:Int)) x12 x13 x14 x15 x16 x17 x18) h' g=.ok True) :
  IR.run F41.t51 (CS Tryz.prog B) N (O.blk 8 Kf) K2 (F41.fr (.sl tid 0 M.length none 1) x1 x2 x3 x4 x5 (I (r:Int)) x7 x8 (I (y:Int)) (.str (jv f)) (I 0) x12 x13 x14 x15 x16 x17 x18) h g=.ok True:=by
 have hy:=(Zgv.1 hly).1;have hr0:=(Zgv.1 hlr).1;have hlw:=H.2.1 ly (Zad hly);have hlw2:=H.2.1 lr (Zad hlr);have hE:(xB f ly lr).length=ly.length:=by unfold xB;rw [Zdp];omega
 refine F41.qa0 (λm x11 h' g'=>∃ c:Nat,x11=I (c:Int)/\m+c=w/\g'=g/\PM h0 h' g tid rs w L (M.set y ((xB f ly lr).take c++ly.drop c))) (m:=w) (by omega) ⟨0,rfl,rfl,rfl,by
  rw [Zdj,Zbf,Zcw,zce hly];exact H⟩ ?_
 rintro m z11 z18 h3 g3 R ⟨c,rfl,hm,rfl,H3⟩ hR;have hl3:(M.set y ((xB f ly lr).take c++ly.drop c)).length=M.length:=Zat;have hrow:(M.set y ((xB f ly lr).take c++ly.drop c))[y]? = some ((xB f ly lr).take c++ly.drop c):=by rw [Zhc hy]
 have hrow2:(M.set y ((xB f ly lr).take c++ly.drop c))[r]? = some lr:=by rw [Zhf hyr];exact hlr
 obtain ⟨ry,hry,hty⟩:=H3.tab (y:=y) (by omega);obtain ⟨rr,hrr,htr⟩:=H3.tab (y:=r) (by omega);rw [F41.t50,zA,zA,F41.qax,sIx (i:=y) rfl hy,hty,rv9,yL,yu,zB,F41.v18];by_cases ci:c<w
 .have hc:ly[c]? = some ly[c]:=Zgu (by omega);have hc2:lr[c]? = some lr[c]:=Zgu (by omega);have hce:(xB f ly lr)[c]? = some (ly[c]-f*lr[c]):=by unfold xB;rw [Zhh,hc,hc2]
  have cy:=λop=>H3.cell hry hrow (zsm hE hc) op;have cr:=λop=>H3.cell hrr hrow2 hc2 op;have mr:=Zas (l:=lr) (n:=c) (by omega);rw [Zac (by omega),zD,zE,zA,zJ,F41.qay,sIx (i:=y) rfl hy,hty,sIx (i:=y) rfl hy,hty,rv9,sIx (i:=c) rfl ci,cy,sIx (i:=r) rfl hr0,htr,rv9,sIx (i:=c) rfl ci,cr];refine zsj hf (hqr _ mr) _ _ _ _ ?_;rintro _ rfl _;rw [cy,zF,sIx (i:=c) rfl ci];simp only [zF];rw [hty,rv9,zF,sIx (i:=y) rfl hy];simp only [zF];rw [hty,rv9,zF,sIx (i:=y) rfl hy];simp only [zF];refine zz7 (hqy _ (Zas (by omega))) (hqp _ mr) _ _ _ _ ?_;rintro _ rfl _;rw [hty,rv9,zF,sIx (i:=y) rfl hy];simp only [zF];rw [sIx (i:=c) rfl ci];refine H3.put (q:=ly[c]-f*lr[c]) hry hrow (by rw [Zag,Zaj,Zcl];omega) λh4 H4 => ?_;rw [List.set_set,zn9 hE hce] at H4;rw [F41.qaz,jg (by omega)];exact hR (m-1) _ _ _ _ (by omega) ⟨c+1,by congr 1,by omega,rfl,H4⟩
 .obtain rfl:c=w:=by omega
  rw [Zan (by omega),Zbg (by omega),Zbh] at H3;rw [Zab (by omega),zC,zY,yD];exact hK _ _ H3
def vY (r j:Nat) (lr:List Rat) (i:Nat) (l:List Rat):List Rat:=if i=r then l else xB (l.getD j 0) l lr
def ay (r j:Nat) (lr:List Rat) (M:List (List Rat)):List (List Rat):=M.mapIdx (vY r j lr)
theorem zkv {a b:List Rat} (h:a.length=b.length):xB 0 a b=a:=by
 unfold xB;refine Zbp λi => ?_;rw [Zhh];by_cases c:i<a.length
 .rw [Zgu c,Zgu (show i<b.length by omega)];simp only [Zce,Zfh,Option.some.injEq];exact Rat.add_zero _
 .rw [Zgz (show a.length<=i by omega)]
theorem zcf {r j:Nat} {lr:List Rat} {M:List (List Rat)} {i:Nat} {l:List Rat} (h:M[i]? = some l):(ay r j lr M)[i]? = some (vY r j lr i l):=by
 unfold ay;rw [List.getElem?_mapIdx,h];rfl
theorem zoa {E M:List (List Rat)} {y:Nat} {l:List Rat} (hle:E.length=M.length) (hq:M[y]? = some l):(E.take y++M.drop y)[y]? = some l:=by
 have hc:=(Zgv.1 hq).1;rw [Zgx (by rw [Zaj];omega),Zaj,Zhe,show y+(y-min y E.length)=y by omega];exact hq
theorem zkw {E M:List (List Rat)} {y:Nat} {l:List Rat} (hle:E.length=M.length) (hq:E[y]? = some l):(E.take y++M.drop y).set y l=E.take (y+1)++M.drop (y+1):=by
 have hc:=(Zgv.1 hq).1;rw [Zav (show y<M.length by omega),pK (by rw [Zaj];omega),Zar,hq];simp
theorem zob {r j:Nat} {lr:List Rat} {M:List (List Rat)} {y:Nat} (hlr:M[r]? = some lr):((ay r j lr M).take y++M.drop y)[r]? = some lr:=by
 have hE:(ay r j lr M).length=M.length:=by unfold ay;rw [Zdk]
 have hr:=(Zgv.1 hlr).1;by_cases c:r<y
 .rw [Zha (by rw [Zaj];omega),Zhb c,zcf hlr,vY,if_pos rfl]
 .rw [Zgx (by rw [Zaj];omega),Zaj,Zhe,show y+(r-min y (ay r j lr M).length)=r by omega];exact hlr
theorem qdo (op:KW3->OP) (h:T Blk) (y:Pa) (k:KW3):sGW (.bool true) false op h y k=k .u h y:=nr rfl
theorem qaa (op:KW3->OP) (h:T Blk) (y:Pa) (k:KW3):sGW (.bool false) false op h y k=op k:=nr rfl
theorem qab {M:List (List Rat)} {lr:List Rat} {tid:Pa} {rs:List Pa} {L:List Ob} {w r j N:Nat} {h0 h:T Blk} {g:Pa} {O:pq Prop} {Kf K2:Ks Prop} {x1 x2 x3 x5 x7 x8 x10 x11 x12 x13 x14 x15 x16 x17 x18:AV}
  (H:PM h0 h g tid rs w L M) (hlr:M[r]? = some lr) (hj:j<w) (hM:M.length<=100000) (hw:w<=100000) (hN:100010<=N) (hq:∀ l∈M,∀ q∈l,Qd q) (hqp:∀ l∈M,∀ q∈lr,Qd (l.getD j 0*q))
  (hK:∀ (h':T Blk) (x10 x11 x16 x17 x18:AV),PM h0 h' g tid rs w L (ay r j lr M)->Kf (F41.fr (.sl tid 0 M.length none 1) x1 x2 x3 (I (j:Int)) x5 (I (r:Int)) x7 x8 (I (M.length:Int)) x10 x11 x12 x13 x14 x15 x16 x17 x18) h' g=.ok True) :
  IR.run F41.t60 (CS Tryz.prog B) N (O.blk 6 Kf) K2 (F41.fr (.sl tid 0 M.length none 1) x1 x2 x3 (I (j:Int)) x5 (I (r:Int)) x7 x8 (I 0) x10 x11 x12 x13 x14 x15 x16 x17 x18) h g=.ok True:=by
 have hr0:=(Zgv.1 hlr).1;have hlw2:=H.2.1 lr (Zad hlr);have hE:(ay r j lr M).length=M.length:=by unfold ay;rw [Zdk]
 refine F41.qa1 (λm x9 h' g'=>∃ y:Nat,x9=I (y:Int)/\m+y=M.length/\g'=g/\PM h0 h' g tid rs w L ((ay r j lr M).take y++M.drop y)) (m:=M.length) (by omega) ⟨0,rfl,rfl,rfl,by
  rw [Zdj,Zbf,Zcw];exact H⟩ ?_
 rintro m z9 z10 z11 z16 z17 z18 h3 g3 R ⟨y,rfl,hm,rfl,H3⟩ hR;have hl3:((ay r j lr M).take y++M.drop y).length=M.length:=by rw [Zag,Zaj,Zcl];omega
 rw [F41.t59,zA,zA,F41.qau,yL,yu,zB,F41.v16];by_cases cy:y<M.length
 case neg =>
  obtain rfl:y=M.length:=by omega
  rw [Zan (by omega),Zbg (by omega),Zbh] at H3;rw [Zab (by omega),zC,zY,yD];exact hK _ _ _ _ _ _ H3
 have hly:M[y]? = some M[y]:=Zgu cy;have hmy:=Zas cy;have hlw:=H.2.1 _ hmy;have hrow:=zoa hE hly;have hrow2:=zob (j:=j) (y:=y) hlr;have hstep:=zkw hE (zcf (r:=r) (j:=j) (lr:=lr) hly);obtain ⟨ry,hry,hty⟩:=H3.tab (y:=y) (by omega);have hcj:M[y][j]? = some (M[y].getD j 0):=by
  rw [Zaa,Zgu (show j<M[y].length by omega)];rfl
 have hc:=λop=>H3.cell hry hrow hcj op;have next:∀ {h4:T Blk} {x10 x11 x16 x17 x18:AV},PM h0 h4 g3 tid rs w L ((ay r j lr M).take (y+1)++M.drop (y+1))->F41.t57.run (CS Tryz.prog B) N (O.blk 6 Kf) R (F41.fr (.sl tid 0 M.length none 1) x1 x2 x3 (I (j:Int)) x5 (I (r:Int)) x7 x8 (I (y:Int)) x10 x11 x12 x13 x14 x15 x16 x17 x18) h4 g3=.ok True:=by
  intro h4 x10 x11 x16 x17 x18 H4;rw [F41.zox,jg (by omega)];exact hR (m-1) _ _ _ _ _ _ _ _ (by omega) ⟨y+1,by congr 1,by omega,rfl,H4⟩
 rw [Zac (by omega),zD,zE,zA,zJ,zA,F41.zgo,sIx (i:=y) rfl cy,hty,rv9,sIx (i:=j) rfl hj,hc,zA,zA,F41.qav,qf];by_cases e:y=r
 .have hsame:vY r j lr y M[y]=M[y]:=by rw [vY,if_pos e]
  rw [hsame,zce hrow] at hstep;rw [hstep] at H3;rw [Zac (by omega)];simp only [yU];rw [qdo];simp only [zT];rw [zB,F41.v17,zD,zY,yD];exact next H3
 rw [Zab (by omega)];simp only [yJ];rw [qaa];refine zd9 _ _ _ _ ?_;rintro _ rfl _;simp only [zW];have hclr:vY r j lr y M[y]=xB (M[y].getD j 0) M[y] lr:=by rw [vY,if_neg e]
 rw [hclr] at hstep;by_cases z:M[y].getD j 0=0
 .rw [z,zkv (by omega),zce hrow] at hstep;rw [hstep] at H3;rw [Zac z,zB,F41.v17,zD,zY,yD];exact next H3
 .rw [Zab z,zB,F41.v17,zC,zE,zA,F41.qaw,zJ,<- hl3];refine qdn H3 hrow hrow2 e (by omega) hw hN (hq _ hmy _ (Zad hcj)) (hq _ hmy) (hq _ (Zad hlr)) (hqp _ hmy) λh4 x18 H4 => ?_;rw [hstep] at H4;rw [hl3];exact next H4
theorem zvr {M:List (List Rat)} {tid:Pa} {rs:List Pa} {L:List Ob} {w r j N:Nat} {h0 h:T Blk} {g:Pa} {O:pq Prop} {Kf K2:Ks Prop} {x1 x2 x3 x6 x7 x8 x9 x10 x11 x12 x13 x14 x15 x16 x17 x18:AV}
  (H:PM h0 h g tid rs w L M) (hr:r<=M.length) (hj:j<w) (hM:M.length<=100000) (hN:100010<=N)
  (hK:∀ (i:Nat) (x13:AV),r<=i->i<=M.length->(∀ i' l,r<=i'->i'<i->M[i']? = some l->l.getD j 0=0)->(∀ l,M[i]? = some l->l.getD j 0≠0)->Kf (F41.fr (.sl tid 0 M.length none 1) x1 x2 x3 (I (j:Int)) (I (i:Int)) x6 x7 x8 x9 x10 x11 x12 x13 x14 x15 x16 x17 x18) h g=.ok True) :
  IR.run F41.t14 (CS Tryz.prog B) N (O.blk 2 Kf) K2 (F41.fr (.sl tid 0 M.length none 1) x1 x2 x3 (I (j:Int)) (I (r:Int)) x6 x7 x8 x9 x10 x11 x12 x13 x14 x15 x16 x17 x18) h g=.ok True:=by
 refine F41.zae (λm x5 h' g'=>∃ i:Nat,x5=I (i:Int)/\m+i=M.length/\r<=i/\(∀ i' l,r<=i'->i'<i->M[i']? = some l->l.getD j 0=0)/\h'=h/\g'=g) (m:=M.length-r) (by omega) ⟨r,rfl,by omega,Zaf _,λ_ _ a b=>by omega,rfl,rfl⟩ ?_;rintro m z5 z13 h3 g3 R ⟨i,rfl,hm,hri,hz,rfl,rfl⟩ hR;rw [F41.t13,zA,zA,F41.rE,F41.r6_0,F41.zeq,yL,yu];by_cases c:i<M.length
 case neg =>
  rw [Zab (by omega)];simp only [yY];rw [F41.r6_1,F41.oC];simp only [yY];rw [cJ,F41.r6_2,F41.zov];simp only [zW];rw [zB,F41.v13,zC,zY,yD];exact hK i _ hri (by omega) hz λl hl=>by rw [Zgz (by omega)] at hl;cases hl
 have hly:M[i]? = some M[i]:=Zgu c;have hlw:=H.2.1 _ (Zas c);obtain ⟨ry,hry,hty⟩:=H.tab (y:=i) c;have hcj:M[i][j]? = some (M[i].getD j 0):=by
  rw [Zaa,Zgu (show j<M[i].length by omega)];rfl
 have hc:=λop=>H.cell hry hly hcj op;rw [Zac (by omega)];simp only [yN];rw [sIx (i:=i) rfl c,F41.r6_1,F41.oC];simp only [yN];rw [hty];rw [rv9,sIx (i:=j) rfl hj,hc,zfx];refine zd9 _ _ _ _ ?_;rintro _ rfl _;rw [F41.r6_2,F41.zov];simp only [zT];by_cases z:M[i].getD j 0=0
 .rw [Zac z,zB,F41.v13,zD,zE,zJ,F41.qz,jg (by omega)];refine hR (m-1) _ _ _ _ (by omega) ⟨i+1,by congr 1,by omega,by omega,λi' l h1 h2 h3 => ?_,rfl,rfl⟩;rcases Zdv i' i with q | q
  .exact hz i' l h1 q h3
  .obtain rfl:i'=i:=by omega
   rw [hly] at h3;cases h3
   exact z
 .rw [Zab z,zB,F41.v13,zC,zY,yD];exact hK i _ hri (by omega) hz λl hl=>by rw [hly] at hl;cases hl;exact z
theorem vP {α β γ:Type} (f:α->β->γ):∀ (l:List α) (m:List β) (i:Nat) (a:α) (b:β),List.zipWith f (l.set i a) (m.set i b)=(List.zipWith f l m).set i (f a b)
 | [],_,_,_,_=>by simp
 | _::_,[],_,_,_=>by simp
 | x::l,y::m,0,a,b=>rfl
 | x::l,y::m,i+1,a,b=>by simp only [Zfi,Zfq,vP f l m i a b]
theorem zio {rs:List Pa} {M:List (List Rat)} {i r:Nat} {pi pr:Pa} {li lr:List Rat} (h1:rs[i]? = some pi) (h2:rs[r]? = some pr) (h3:M[i]? = some li) (h4:M[r]? = some lr) :
  (jY ((rs.set i pr).set r pi) ((M.set i lr).set r li)).Perm (jY rs M):=by
 unfold jY;rw [vP,vP];have e1:(List.zipWith (λr l=>Ob.arr r (l.map T9)) rs M)[i]? = some (.arr pi (li.map T9)):=uS h1 h3;have e2:(List.zipWith (λr l=>Ob.arr r (l.map T9)) rs M)[r]? = some (.arr pr (lr.map T9)):=uS h2 h4
 generalize List.zipWith (λr l=>Ob.arr r (l.map T9)) rs M=Z at *
 have l1:=(Zgv.1 e1);have l2:=(Zgv.1 e2);obtain ⟨k1,k2⟩:=l1;obtain ⟨k3,k4⟩:=l2;rw [<- k2,<- k4];exact List.set_set_perm k1 k3
theorem qdp {M:List (List Rat)} {tid:Pa} {rs:List Pa} {L:List Ob} {w i r:Nat} {li lr:List Rat} {h0 h:T Blk} {j:Pa} {K:Kw Prop} (H:PM h0 h j tid rs w L M) (h3:M[i]? = some li) (h4:M[r]? = some lr)
  (hK:∀ (h':T Blk) (rs':List Pa),PM h0 h' j tid rs' w L ((M.set i lr).set r li)->K .u h' j=.ok True) :
  (zN 1 (.sl tid 0 M.length none 1) (I (r:Int)) λv1=>zH v1 h λv2=>zN 1 (.sl tid 0 M.length none 1) (I (i:Int)) λv3=>zH v3 h λv4=>zN 1 (.sl tid 0 M.length none 1) (I (i:Int)) λv5=>yA 1 v5 v2 h j λ_ h7 n8=>zX (I (r:Int)) (I (r:Int)) (zX (.sl tid 0 M.length none 1) (.sl tid 0 M.length none 1) (zN 1 (.sl tid 0 M.length none 1) (I (r:Int)) λv9=>yA 1 v9 v4 h7 n8 K)))=.ok True:=by
 have hi:=(Zgv.1 h3).1;have hr:=(Zgv.1 h4).1;obtain ⟨pr,hpr,tr⟩:=H.tab (y:=r) hr;obtain ⟨pi,hpi,ti⟩:=H.tab (y:=i) hi;obtain ⟨g1,g2,g3⟩:=H;rw [sIx (i:=r) rfl hr,tr,sIx (i:=i) rfl hi,ti,sIx (i:=i) rfl hi];refine g3.store (k:=0) rfl (by rw [Zae];omega) rfl λh5 H5 => ?_;simp only [zF];rw [sIx (i:=r) rfl hr];refine H5.store (k:=0) rfl (by rw [Zat,Zae];omega) rfl λh6 H6 => ?_;simp only [Zff] at H6;rw [<- Zep,<- Zep] at H6;refine hK h6 ((rs.set i pr).set r pi) ⟨by simp [g1],λl hl => ?_,H6.perm (((zio hpi hpr h3 h4).symm.append_right _).cons _)⟩;rcases Zbt hl with e | e
 .rcases Zbt e with e | e
  .exact g2 _ e
  .rw [e];exact g2 _ (Zad h4)
 .rw [e];exact g2 _ (Zad h3)
def sQ (i r j:Nat) (li lr:List Rat) (M:List (List Rat)):List (List Rat) :=
 let row:=li.map (· * (li.getD j 0)⁻¹)
 ay r j row (((M.set i lr).set r li).set r row)
theorem qac {M:List (List Rat)} {P:List Nat} {li lr:List Rat} {o:Option Pa} {tid:Pa} {rs:List Pa} {w i j N:Nat} {h0 h:T Blk} {g:Pa} {O:pq Prop} {R:Ks Prop} {x1 x2 x6 x7 x8 x9 x10 x11 x12 x13 x14 x15 x16 x17 x18:AV}
  (H:PM h0 h g tid rs w [.gro o 1 P.length (P.map D)] M) (hli:M[i]? = some li) (hlr:M[P.length]? = some lr) (hz:li.getD j 0≠0) (hj:j<w) (hM:M.length<=100000) (hw:w<=100000) (hN:100010<=N)
  (hq:∀ l∈M,∀ q∈l,Qd q) (hs:Qd (li.getD j 0)⁻¹) (hrow:∀ q∈li.map (· * (li.getD j 0)⁻¹),Qd q) (hqp:∀ l∈((M.set i lr).set P.length li).set P.length (li.map (· * (li.getD j 0)⁻¹)),∀ q∈li.map (· * (li.getD j 0)⁻¹),Qd (l.getD j 0*q)) (hP:P.length<100000)
  (hK:∀ (o':Option Pa) (rs':List Pa) (h':T Blk) (g':Pa) (x5 x6 x7 x8 x9 x10 x11 x12 x13 x14 x15 x16 x17 x18:AV),PM h0 h' g' tid rs' w [.gro o' 1 (P.length+1) ((P++[j]).map D)] (sQ i P.length j li lr M)->R (F41.fr (.sl tid 0 M.length none 1) x1 x2 (uf o' 1 (P.length+1)) (I (j:Int)) x5 x6 x7 x8 x9 x10 x11 x12 x13 x14 x15 x16 x17 x18) h' g'=.ok True) :
  IR.run F41.t69 (CS Tryz.prog B) N O R (F41.fr (.sl tid 0 M.length none 1) x1 x2 (uf o 1 P.length) (I (j:Int)) (I (i:Int)) x6 x7 x8 x9 x10 x11 x12 x13 x14 x15 x16 x17 x18) h g=.ok True:=by
 have hi:=(Zgv.1 hli).1;have hlen:∀ KK:AV->OP,sLen (uf o 1 P.length) KK=KK (I (P.length:Int)):=λKK=>by
  cases o with
  | some id=>exact yL ..
  | none =>
   obtain ⟨_,e⟩:P.map D=[]/\P.length=0:=H.2.2.own (.gro none 1 P.length (P.map D)) (by simp);rw [e];exact yH ..
 rw [F41.t69,zA,zA,F41.rU,yL,qf,Zab (by omega),zB,F41.v14,zC,zE,zA,F41.rY,hlen,zA,F41.aI];refine qdp H hli hlr λh1 rs1 H1 => ?_;have hl1:((M.set i lr).set P.length li).length=M.length:=by rw [Zat,Zat]
 have hr:=(Zgv.1 hlr).1;have zxz:((M.set i lr).set P.length li)[P.length]? = some li:=Zhc (by rw [Zat];exact hr);have hlw:=H.2.1 _ (Zad hli);obtain ⟨r1,hr1,ht1⟩:=H1.tab (y:=P.length) (by omega);have hcj:li[j]? = some (li.getD j 0):=by
  rw [Zaa,Zgu (show j<li.length by omega)];rfl
 have hc:=λop=>H1.cell hr1 zxz hcj op;rw [zA,F41.eO,sIx (i:=P.length) rfl hr,ht1,rv9,sIx (i:=j) rfl hj,hc];refine zc1 (hq _ (Zad hli) _ (Zad hcj)) hz _ _ _ _ ?_;rintro _ rfl _;rw [zA,zA,F41.tT,zJ,<- hl1];refine zz9 H1 zxz (by omega) hw hN hs (hq _ (Zad hli)) λh2 y15 H2 => ?_;have hl2:(((M.set i lr).set P.length li).set P.length (li.map (· * (li.getD j 0)⁻¹))).length=((M.set i lr).set P.length li).length:=Zat;have hrow2:(((M.set i lr).set P.length li).set P.length (li.map (· * (li.getD j 0)⁻¹)))[P.length]? = some (li.map (· * (li.getD j 0)⁻¹)):=Zhc (by omega);rw [zA,zA,F41.zc5,zJ,<- hl2];refine qab H2 hrow2 hj (by omega) hw hN ?_ hqp λh3 y10 y11 y16 y17 y18 H3 => ?_
 .intro l hl q hq';rcases Zbt hl with e | e
  .rcases Zbt e with e | e
   .rcases Zbt e with e | e
    .exact hq _ e _ hq'
    .subst e;exact hq _ (Zad hlr) _ hq'
   .subst e;exact hq _ (Zad hli) _ hq'
  .subst e;exact hrow _ hq'
 rw [hl2,hl1,F41.qa2];obtain ⟨k1,k2,k3⟩:=H3;have H4:=k3.perm ((Zdw _ _).cons _ |>.trans (.swap _ _ _));refine H4.zd1 (v:=D j) (by omega) (by decide) rfl rfl λo' h4 g4 H5 => ?_;refine hK o' rs1 h4 g4 _ _ _ _ _ _ _ _ _ _ _ _ _ _ ⟨k1,k2,?_⟩;have H6:=H5.perm ((List.Perm.swap _ _ _).trans ((Zdw _ _).symm.cons _));rw [Zbi];exact H6
theorem vQ {l c:List AV} {off:Nat} (h:off+c.length<=l.length):(gN l off c).length=l.length:=by
 unfold gN;rw [Zag,Zag,Zaj,Zcl];omega
theorem mL {l c:List AV} {off m:Nat} (h:off+c.length<=l.length):(gN l off c)[m]? = if off<=m/\m<off+c.length then c[m-off]? else l[m]? := by
 unfold gN;have ht:(l.take off).length=off:=by rw [Zaj];omega
 by_cases h1:m<off
 .rw [if_neg (by omega),Zcg,Zha (by omega),Zhb h1]
 .by_cases h2:m<off+c.length
  .rw [if_pos (by omega),Zcg,Zgx (by omega),ht,Zha (by omega)]
  .rw [if_neg (by omega),Zcg,Zgx (by omega),ht,Zgx (by omega),Zhe]
   congr 1;omega
theorem Hp.aR {h0 h:T Blk} {y:Pa} {L:List Ob} {k n off:Nat} {id:Pa} {l l2:List AV} {K:Kw Prop} (H:Hp h0 h y L) (hk:L[k]? = some (.arr id l)) (hle:off+n<=l.length) (hl2:l2.length=n) (hK:∀ h',Hp h0 h' y (L.set k (.arr id (gN l off l2)))->K .u h' y=.ok True):yA n (.ptr id off) (.agg l2) h y K=.ok True:=by
 obtain ⟨o,t,h1,h2⟩:=H.own _ (Zad hk);show qb (T.get .no id h) _ _=_;rw [h1];show (bif Nat.beq l2.length n&&Nat.ble (off+n) l.length then uW l2 t off (λt'=>T.fq Blk.no (.cells o l.length t') id h λh'=>K .u h' y) else .no 42)=_;rw [aZ hl2,Zak hle];simp only [Zgp,cond_true];rw [jQ,T.jo];refine hK _ (H.upd hk (by simp [Ob.names]) rfl ⟨o,_,by rw [T.get_set_same,vQ (by omega)],?_⟩);rw [vQ (by omega)];apply Zbp;intro i;rw [mL (by omega)];by_cases hi:i<l.length
 .rw [yF _ _ _ _ hi,Zbd,uB];have hr:=yF t 0 l.length i hi;rw [h2,Zbd] at hr;by_cases hc:off<=i/\i<off+l2.length
  .rw [if_pos hc,if_pos hc,Zaa,Zgu (by omega)];rfl
  .rw [if_neg hc,if_neg hc];exact hr.symm
 .rw [Zgz (by simp;omega),if_neg (by omega),Zgz (by omega)]
def aO (c:List AV) (j:Nat) (x:Rat):Prop:=∃ s w s' w',(c.drop (j*4)).take 4=[s,w,s',w']/\vw s w x.num/\vw s' w' (x.den:Int)
def sF (c:List AV) (q:List Rat):Prop:=c.length=q.length*4/\∀ j x,q[j]? = some x->aO c j x
theorem zx0 {c d:List AV} {i j:Nat} (h:∀ t,t<4->c[i+t]? = d[j+t]?):(c.drop i).take 4=(d.drop j).take 4:=by
 apply Zbp;intro t;by_cases ht:t<4
 .rw [Zhb ht,Zhb ht,Zhe,Zhe];exact h t ht
 .rw [Zgz (by rw [Zaj];omega),Zgz (by rw [Zaj];omega)]
theorem aO.same {c:List AV} {j:Nat} {x:Rat} {s w s' w':AV} (hj:j*4+4<=c.length) (h1:vw s w x.num) (h2:vw s' w' (x.den:Int)):aO (gN c (j*4) [s,w,s',w']) j x:=by
 refine ⟨s,w,s',w',?_,h1,h2⟩;have:[s,w,s',w']=(([s,w,s',w']:List AV).drop 0).take 4:=rfl;rw [this];refine zx0 λt ht => ?_;rw [mL (by simpa using hj),if_pos ⟨by omega,by simp;omega⟩];simp
theorem aO.other {c:List AV} {i j:Nat} {x:Rat} {s w s' w':AV} (hj:j*4+4<=c.length) (hij:i≠j) (h:aO c i x):aO (gN c (j*4) [s,w,s',w']) i x:=by
 obtain ⟨a,b,a',b',e,h1,h2⟩:=h;refine ⟨a,b,a',b',?_,h1,h2⟩;rw [<- e];refine zx0 λt ht => ?_;rw [mL (by simpa using hj),if_neg];simp only [Zbc,Zey];omega
theorem sF.put {c:List AV} {q:List Rat} {j:Nat} {x:Rat} {s w s' w':AV} (h:sF c q) (hj:j<q.length) (h1:vw s w x.num) (h2:vw s' w' (x.den:Int)):sF (gN c (j*4) [s,w,s',w']) (q.set j x):=by
 have hl:j*4+4<=c.length:=by rw [h.1];omega
 refine ⟨by rw [vQ (by simpa using hl),Zat];exact h.1,λi y hy => ?_⟩;by_cases e:i=j
 .subst e;rw [Zhc hj] at hy;obtain rfl:=Option.some.inj hy;exact aO.same hl h1 h2
 .rw [Zhf (by omega)] at hy;exact aO.other hl e (h.2 i y hy)
theorem sF.get {c:List AV} {q:List Rat} {j:Nat} {x:Rat} (h:sF c q) (hx:q[j]? = some x):∃ cs,(c.drop (j*4)).take 4=cs/\j*4+4<=c.length/\j<q.length/\jR (.agg cs) x:=by
 obtain ⟨s,w,s',w',e,h1,h2⟩:=h.2 j x hx;have hj:=(Zgv.1 hx).1;exact ⟨_,e,by rw [h.1];omega,hj,s,w,s',w',rfl,h1,h2⟩
abbrev rwV (n:Nat) (r:Pa):AV:=.sl r 0 n (some n) 4
theorem oL {r:Pa} {n j:Nat} {z:Int} {op:AV->OP} (hz:z=(j:Int)) (hj:j<n):zN 4 (rwV n r) (I z) op=op (.ptr r (j*4)):=by
 subst hz;rw [qZ hj,Zbd]
theorem zx1 {n j:Nat} {l:List AV} {z:Int} {op:AV->OP} (hz:z=(j:Int)) (hj:j<n):zN 4 (.lst 4 n l) (I z) op=op (.fp (l.drop (j*4))):=xu hz hj
theorem rat0:((0:Int):Rat)=0:=rfl
theorem rat1:((1:Int):Rat)=1:=rfl
theorem m9 (n:Nat) (z:List AV):(fe n z).length=n*z.length:=by
 induction n with
 | zero=>show ([]:List AV).length=_;rw [Nat.zero_mul];rfl
 | succ n ih=>show (z++fe n z).length=_;rw [Zag,ih,Zbu,Nat.one_mul,Zdt]
theorem ziq {h0 h:T Blk} {y p:Pa} {L:List Ob} {n:Nat} {K:Kw Prop} (H:Hp h0 h y L) (hn:n<=1000) (hK:∀ id c h' y',sF c (List.replicate n 0)->Hp h0 h' y' (.arr id c::L)->K (rwV n id) h' y'=.ok True):(CS Tryz.prog B).fn 79 p [I (n:Int)] h y K=.ok True:=by
 refine zL zR yK 2000 λhf => ?_;rw [F79.go,F79.t20,zA,F79.zu,zA,F79.zo];refine H.mkN (n:=n) (c:=n) rfl rfl (Zaf _) (by omega) (by omega) λid h1 y1 H1 => ?_;rw [zA,zA,F79.yt,yL,zJ];refine F79.eU (λm x5 h' y'=>∃ (i:Nat) (c:List AV),x5=I (i:Int)/\m+i=n/\c.length=n*4/\(∀ j,j<i->aO c j 0)/\Hp h0 h' y' (.arr id c::L)) (m:=n) (by omega) ⟨0,_,rfl,rfl,m9 _ _,λj hj=>by omega,H1⟩ ?_;rintro m z3 z5 z6 h3 y3 R ⟨i,c,rfl,hm,hc,hall,H3⟩ hR;rw [F79.t12,zA,F79.vk,yu,zA,zB,F79.v6];by_cases ci:i<n
 .rw [Zac (by omega),zD,zE,zA,zJ,zA,F79.dz,F79.uj];refine zl3 (by unfold ru;omega) _ _ _ _ ?_;rintro _ ⟨s,w,s',w',rfl,i1,i2⟩ _;rw [rat0] at i1 i2;rw [oL (j:=i) rfl ci];refine H3.aR (k:=0) (off:=i*4) rfl (by omega) rfl λh4 H4 => ?_;rw [F79.rF,jg (by omega)];refine hR (m-1) _ _ _ _ _ (by omega) ⟨i+1,_,by congr 1,by omega,by rw [vQ (by simp;omega)];exact hc,λj hj => ?_,H4⟩;by_cases e:j=i
  .subst e;exact aO.same (by omega) i1 i2
  .exact aO.other (by omega) e (hall j (by omega))
 .rw [Zab (by omega),zC,zY,yD,zA,F79.rU];simp only [zG,zQ];rw [F79.ret];refine hK id c _ _ ⟨by rw [Zaz];exact hc,λj x hx => ?_⟩ H3;have hj:=(Zgv.1 hx).1;rw [Zaz] at hj;rw [Zhn,if_pos hj] at hx;obtain rfl:=Option.some.inj hx;exact hall j (by omega)
def sD (n:Nat) (l:List Int):List Rat:=l.foldl (λq c=>q.set c.toNat 1) (List.replicate n 0)
theorem zea (n:Nat) (l:List Int) (c:Int):sD n (l++[c])=(sD n l).set c.toNat 1:=by unfold sD;rw [Zgs];rfl
theorem mF:∀ (l:List Int) (q:List Rat),(l.foldl (λq c=>q.set c.toNat 1) q).length=q.length
 | [],_=>rfl
 | c::l,q=>by rw [Zco,mF l,Zat]
theorem jH (n:Nat) (l:List Int):(sD n l).length=n:=by unfold sD;rw [mF,Zaz]
theorem bJ {h0 h:T Blk} {y p:Pa} {L:List Ob} {n:Nat} {l:List Int} {K:Kw Prop} (H:Hp h0 h y L) (hn:n<=1000) (hl:l.length<=1000) (hr:∀ c∈l,0<=c/\c<(n:Int)) (hK:∀ id c h' y',sF c (sD n l)->Hp h0 h' y' (.arr id c::L)->K (rwV n id) h' y'=.ok True):(CS Tryz.prog B).fn 72 p [I (n:Int),encI l] h y K=.ok True:=by
 refine zL zR yK 2000 λhf => ?_;rw [F72.go,F72.t20,zA,F72.zu,zA,F72.zo];refine ziq H hn λid c h1 y1 hc H1 => ?_;rw [zA,zA,F72.yt,zS,zJ];refine F72.eU (λm x7 h' y'=>∃ (i:Nat) (c:List AV),x7=I (i:Int)/\m+i=l.length/\sF c (sD n (l.take i))/\Hp h0 h' y' (.arr id c::L)) (m:=l.length) (by omega) ⟨0,c,rfl,rfl,hc,H1⟩ ?_;rintro m z4 z7 z8 h3 y3 R ⟨i,c,rfl,hm,hc,H3⟩ hR;rw [F72.t12,zA,F72.vk,yu,zA,zB,F72.v8];by_cases ci:i<l.length
 .have hx:l[i]? = some l[i]:=Zgu ci;have hb:=hr _ (Zas ci);rw [Zac (by omega),zD,zE,zA,zJ,zA,F72.dz,xu rfl ci,ldL (rH hx),F72.uj];refine zl3 (by unfold ru;omega) _ _ _ _ ?_;rintro _ ⟨s,w,s',w',rfl,i1,i2⟩ _;rw [rat1] at i1 i2;have hcl:=hc.1;rw [jH] at hcl;rw [oL (j:=l[i].toNat) (by omega) (by omega)];refine H3.aR (k:=0) (off:=l[i].toNat*4) rfl (by omega) rfl λh4 H4 => ?_;rw [F72.rF,jg (by omega)];refine hR (m-1) _ _ _ _ _ (by omega) ⟨i+1,_,by congr 1,by omega,?_,H4⟩;rw [Zar,hx,Zde,zea];exact hc.put (by rw [jH];omega) i1 i2
 .rw [Zab (by omega),zC,zY,yD,zA,F72.rU];simp only [zG,zQ];rw [F72.ret];rw [Zan (by omega)] at hc;exact hK id c _ _ hc H3
def jZ (b:Rat) (r o:List Rat):List Rat:=List.zipWith (λx y=>x-b*y) r o
theorem pget {l e:List Rat} {c:Nat} {q:Rat} (hle:e.length=l.length) (hq:l[c]? = some q):(e.take c++l.drop c)[c]? = some q:=by
 have hc:=(Zgv.1 hq).1;rw [Zgx (by rw [Zaj];omega),Zaj,Zhe,show c+(c-min c e.length)=c by omega];exact hq
theorem zx2 {l e:List Rat} {c:Nat} {q:Rat} (hle:e.length=l.length) (hq:e[c]? = some q):(e.take c++l.drop c).set c q=e.take (c+1)++l.drop (c+1):=by
 have hc:=(Zgv.1 hq).1;rw [Zav (show c<l.length by omega),pK (by rw [Zaj];omega),Zar,hq];simp
theorem zx3 {l e:List Rat} {c:Nat} {q:Rat} (hle:e.length=l.length) (hq:e[c]? = some q) (hl:l[c]? = some q):e.take c++l.drop c=e.take (c+1)++l.drop (c+1):=by
 have hc:=(Zgv.1 hq).1;have h1:l[c]'(by omega)=q:=by rw [Zgu (by omega)] at hl;exact Option.some.inj hl
 rw [Zav (show c<l.length by omega),Zar,hq,h1];simp
theorem zf0 {h0 h:T Blk} {y p r o:Pa} {L:List Ob} {kr ko n M N P R:Nat} {cr co:List AV} {qr qo:List Rat} {v:AV} {b:Rat} {K:Kw Prop} (H:Hp h0 h y L) (hkr:L[kr]? = some (.arr r cr)) (hko:L[ko]? = some (.arr o co)) (hne:ko≠kr) (hr:sF cr qr) (ho:sF co qo) (hlr:qr.length=n) (hlo:qo.length=n) (hn:n<=1000) (hv:jR v b) (hb:dh M b) (hqr:∀ x∈qr,dh P x) (hqo:∀ x∈qo,dh N x) (hqp:∀ x∈qo,dh R (b*x)) (hMN:M*N<=9223372036854775807) (hPR:2*(P*R)<=9223372036854775807)
  (hK:∀ c h' y',sF c (jZ b qr qo)->Hp h0 h' y' (L.set kr (.arr r c))->K (.tup []) h' y'=.ok True):(CS Tryz.prog B).fn 73 p [rwV n r,v,rwV n o] h y K=.ok True:=by
 refine zL zR yK 2000 λhf => ?_;obtain ⟨sb,wb,sb',wb',rfl,b1,b2⟩:=hv;have hkl:=(Zgv.1 hkr).1;have hE:(jZ b qr qo).length=qr.length:=by unfold jZ;rw [Zdp];omega
 rw [F73.go,F73.t18,zA,F73.zu];refine H.box (l:=[sb,wb,sb',wb']) rfl λbb h1 y1 H1 => ?_;rw [zA,F73.zo,yL,zJ]
 refine F73.zgg (λm x8 h' y'=>∃ (i:Nat) (c:List AV),x8=I (i:Int)/\m+i=n/\sF c ((jZ b qr qo).take i++qr.drop i)/\Hp h0 h' y' (.arr bb [sb,wb,sb',wb']::L.set kr (.arr r c))) (m:=n) (by omega) ⟨0,cr,rfl,rfl,by rw [Zdj,Zbf,Zcw];exact hr,by
  have:L.set kr (.arr r cr)=L:=by
   rw [Zgu hkl] at hkr;rw [<- Option.some.inj hkr,List.set_getElem_self]
  rw [this];exact H1⟩ ?_
 rintro m z4 z5 z8 z9 z10 h3 y3 R ⟨i,c,rfl,hm,hc,H3⟩ hR;rw [F73.t14,zA,F73.yt,yu,zA,zB,F73.v9];by_cases ci:i<n
 .have hx:qo[i]? = some qo[i]:=Zgu (by omega);have hy:qr[i]? = some qr[i]:=Zgu (by omega);have hz:(jZ b qr qo)[i]? = some (qr[i]-b*qo[i]):=by unfold jZ;rw [Zhh,hy,hx]
  have mo:=Zas (l:=qo) (n:=i) (by omega);have mr:=Zas (l:=qr) (n:=i) (by omega);obtain ⟨cs,e1,e2,_,fo⟩:=ho.get hx;obtain ⟨cs2,e3,e4,hcj,fr⟩:=hc.get (pget hE hy);have hko3:(Ob.arr bb [sb,wb,sb',wb']::L.set kr (.arr r c))[ko+1]? = some (.arr o co):=by
   show (L.set kr (.arr r c))[ko]? = _;rw [Zhf (by omega)];exact hko
  have hkr3:(Ob.arr bb [sb,wb,sb',wb']::L.set kr (.arr r c))[kr+1]? = some (.arr r c):=by
   show (L.set kr (.arr r c))[kr]? = _;rw [Zhc hkl]
  obtain ⟨so,wo,so',wo',e5,o1,o2⟩:=fo;obtain rfl:=AV.agg.inj e5;rw [Zac (by omega),zD,zE,zA,zJ,zA,F73.nY,oL (j:=i) rfl ci,H3.um hko3 e2 e1];refine H3.alloc λxb h4 y4 H4 => ?_;refine H4.jc (l2:=[so,wo,so',wo']) (k:=0) rfl rfl rfl λh5 H5 => ?_;rw [zA,F73.dz,H5.zi (k:=0) (n:=4) rfl rfl];refine cY ⟨_,_,_,_,rfl,o1,o2⟩ _ _ _ _ ?_;rintro _ rfl _;rw [qj,zB,F73.v10];by_cases d:qo[i]=0
  .have d2:qr[i]-b*qo[i]=qr[i]:=by rw [d,Zbo,Zfh,Rat.neg_zero,Rat.add_zero]
   rw [Zac (sP.2 (Zcp.2 d)),Zah,zC,zE,F73.qz,jg (by omega)];rw [d2] at hz;exact hR (m-1) _ _ _ _ _ _ _ (by omega) ⟨i+1,c,by congr 1,by omega,by rw [<- zx3 hE hz hy];exact hc,H5.drop⟩
  .rw [Zab (λq=>d (Zcp.1 (sP.1 q))),Zal,zD,F73.uj];have lr:∀ op:AV->OP,zI 4 (.ptr r (i*4)) h5 op=op (.agg cs2):=λop=>H5.um (k:=kr+2) hkr3 e4 e3;have lb:∀ op:AV->OP,zI 4 (.ptr bb 0) h5 op=op (.agg [sb,wb,sb',wb']):=λop=>H5.zi (k:=1) (n:=4) rfl rfl;have lx:∀ op:AV->OP,zI 4 (.ptr xb 0) h5 op=op (.agg [so,wo,so',wo']):=λop=>H5.zi (k:=0) (n:=4) rfl rfl;have ix:∀ op:AV->OP,zN 4 (rwV n r) (I (i:Int)) op=op (.ptr r (i*4)):=λop=>oL (j:=i) rfl ci;simp only [ix,lr,lb,lx];refine zih ⟨_,_,_,_,rfl,b1,b2⟩ ⟨_,_,_,_,rfl,o1,o2⟩ hb (hqo _ mo) hMN _ _ _ _ ?_;rintro v5 f5 _;simp only [lr,zF];refine zn7 fr f5 (hqr _ mr) (hqp _ mo) hPR _ _ _ _ ?_;rintro _ ⟨s6,w6,s6',w6',rfl,i1,i2⟩ _;refine H5.aR (k:=kr+2) (off:=i*4) hkr3 e4 rfl λh6 H6 => ?_;rw [F73.qz,jg (by omega)];refine hR (m-1) _ _ _ _ _ _ _ (by omega) ⟨i+1,gN c (i*4) [s6,w6,s6',w6'],by congr 1,by omega,?_,?_⟩
   .rw [<- zx2 hE hz];exact hc.put hcj i1 i2
   .exact (H6.cast (show ((Ob.arr xb [I 0,.zb,I 0,.zb]::Ob.arr bb [sb,wb,sb',wb']::L.set kr (.arr r c)).set 0 (Ob.arr xb [so,wo,so',wo'])).set (kr+2) (.arr r (gN c (i*4) [s6,w6,s6',w6']))=Ob.arr xb [so,wo,so',wo']::Ob.arr bb [sb,wb,sb',wb']::L.set kr (.arr r (gN c (i*4) [s6,w6,s6',w6'])) by
     show Ob.arr xb _::Ob.arr bb _::(L.set kr (.arr r c)).set kr _=_;rw [List.set_set])).drop
 .rw [Zab (by omega),zC,zY,yD];rw [F73.ret];rw [Zan (by omega),Zbg (by omega),Zbh] at hc;exact hK c _ _ hc H3.drop
def jE (b:Rat) (r:List Rat):List Rat:=r.map λx=>x*b
theorem zsn {h0 h:T Blk} {y p r:Pa} {L:List Ob} {kr n M N:Nat} {cr:List AV} {qr:List Rat} {v:AV} {b:Rat} {K:Kw Prop} (H:Hp h0 h y L) (hkr:L[kr]? = some (.arr r cr)) (hr:sF cr qr) (hlr:qr.length=n) (hn:n<=1000) (hv:jR v b) (hb:dh M b) (hqr:∀ x∈qr,dh N x) (hMN:N*M<=9223372036854775807)
  (hK:∀ c h' y',sF c (jE b qr)->Hp h0 h' y' (L.set kr (.arr r c))->K (.tup []) h' y'=.ok True):(CS Tryz.prog B).fn 76 p [rwV n r,v] h y K=.ok True:=by
 refine zL zR yK 2000 λhf => ?_;obtain ⟨sb,wb,sb',wb',rfl,b1,b2⟩:=hv;have hkl:=(Zgv.1 hkr).1;have hE:(jE b qr).length=qr.length:=by unfold jE;rw [Zae]
 rw [F76.go,F76.t18,zA,F76.zu];refine H.box (l:=[sb,wb,sb',wb']) rfl λbb h1 y1 H1 => ?_;rw [zA,F76.zo,yL,zJ]
 refine F76.zgg (λm x7 h' y'=>∃ (i:Nat) (c:List AV),x7=I (i:Int)/\m+i=n/\sF c ((jE b qr).take i++qr.drop i)/\Hp h0 h' y' (.arr bb [sb,wb,sb',wb']::L.set kr (.arr r c))) (m:=n) (by omega) ⟨0,cr,rfl,rfl,by rw [Zdj,Zbf,Zcw];exact hr,by
  have:L.set kr (.arr r cr)=L:=by
   rw [Zgu hkl] at hkr;rw [<- Option.some.inj hkr,List.set_getElem_self]
  rw [this];exact H1⟩ ?_
 rintro m z3 z4 z7 z8 z9 h3 y3 R ⟨i,c,rfl,hm,hc,H3⟩ hR;rw [F76.t14,zA,F76.yt,yu,zA,zB,F76.v8];by_cases ci:i<n
 .have hy:qr[i]? = some qr[i]:=Zgu (by omega);have hz:(jE b qr)[i]? = some (qr[i]*b):=by unfold jE;rw [Zgw,hy];rfl
  have mr:=Zas (l:=qr) (n:=i) (by omega);obtain ⟨cs2,e3,e4,hcj,fr⟩:=hc.get (pget hE hy);have hkr3:(Ob.arr bb [sb,wb,sb',wb']::L.set kr (.arr r c))[kr+1]? = some (.arr r c):=by
   show (L.set kr (.arr r c))[kr]? = _;rw [Zhc hkl]
  obtain ⟨so,wo,so',wo',e5,o1,o2⟩:=fr;obtain rfl:=AV.agg.inj e5;rw [Zac (by omega),zD,zE,zA,zJ,zA,F76.nY,oL (j:=i) rfl ci,H3.um hkr3 e4 e3];refine H3.alloc λxb h4 y4 H4 => ?_;refine H4.jc (l2:=[so,wo,so',wo']) (k:=0) rfl rfl rfl λh5 H5 => ?_;rw [zA,F76.dz,H5.zi (k:=0) (n:=4) rfl rfl];refine cY ⟨_,_,_,_,rfl,o1,o2⟩ _ _ _ _ ?_;rintro _ rfl _;rw [qj,zB,F76.v9];by_cases d:qr[i]=0
  .have d2:qr[i]*b=qr[i]:=by rw [d,Zce]
   rw [Zac (sP.2 (Zcp.2 d)),Zah,zC,zE,F76.qz,jg (by omega)];rw [d2] at hz;exact hR (m-1) _ _ _ _ _ _ _ (by omega) ⟨i+1,c,by congr 1,by omega,by rw [<- zx3 hE hz hy];exact hc,H5.drop⟩
  .rw [Zab (λq=>d (Zcp.1 (sP.1 q))),Zal,zD,F76.uj,H5.zi (k:=0) (n:=4) rfl rfl,H5.zi (k:=1) (n:=4) rfl rfl];refine zih ⟨_,_,_,_,rfl,o1,o2⟩ ⟨_,_,_,_,rfl,b1,b2⟩ (hqr _ mr) hb hMN _ _ _ _ ?_;rintro _ ⟨s6,w6,s6',w6',rfl,i1,i2⟩ _;rw [oL (j:=i) rfl ci];refine H5.aR (k:=kr+2) (off:=i*4) hkr3 e4 rfl λh6 H6 => ?_;rw [F76.qz,jg (by omega)];refine hR (m-1) _ _ _ _ _ _ _ (by omega) ⟨i+1,gN c (i*4) [s6,w6,s6',w6'],by congr 1,by omega,?_,?_⟩
   .rw [<- zx2 hE hz];exact hc.put hcj i1 i2
   .exact (H6.cast (show ((Ob.arr xb [I 0,.zb,I 0,.zb]::Ob.arr bb [sb,wb,sb',wb']::L.set kr (.arr r c)).set 0 (Ob.arr xb [so,wo,so',wo'])).set (kr+2) (.arr r (gN c (i*4) [s6,w6,s6',w6']))=Ob.arr xb [so,wo,so',wo']::Ob.arr bb [sb,wb,sb',wb']::L.set kr (.arr r (gN c (i*4) [s6,w6,s6',w6'])) by
     show Ob.arr xb _::Ob.arr bb _::(L.set kr (.arr r c)).set kr _=_;rw [List.set_set])).drop
 .rw [Zab (by omega),zC,zY,yD];rw [F76.ret];rw [Zan (by omega),Zbg (by omega),Zbh] at hc;exact hK c _ _ hc H3.drop
end Go.Ev
namespace Go.Ev
open Go Go.Proofs
def Dn (t M:Nat) (q:Rat):Prop:=∃ z:Int,q*((t:Int):Rat)=(z:Rat)/\z.natAbs<=M
theorem c9 {t:Int} (h:t≠0):(t:Rat)≠0:=λe=>by
 have:=congrArg Rat.num e;rw [Rat.num_intCast] at this;exact h this
theorem Dn.nm {t M:Nat} {q:Rat} (ht:1<=t) (htM:t<=M) (h:Dn t M q):dh M q:=by
 obtain ⟨z,e,hz⟩:=h;have h0:((t:Int):Rat)≠0:=c9 (by omega);have eq:q=Rat.divInt z (t:Int):=by rw [Rat.divInt_eq_div];grind
 obtain ⟨d1,d2⟩:=qW (n:=z) (d:=(t:Int)) (by omega);have hg:0<(Int.gcd z (t:Int):Int):=by have:=Int.gcd_pos_of_ne_zero_right z (show (t:Int)≠0 by omega);omega
 have hg1:1<=Int.gcd z (t:Int):=by omega
 refine ⟨?_,?_⟩
 .rw [eq,d1,Int.natAbs_ediv_of_dvd (Zfv ..)];exact Zbe (Zdn _ _) hz
 .have:((Rat.divInt z (t:Int)).den:Int).natAbs<=M:=by
   rw [d2,Int.natAbs_ediv_of_dvd (Zgr ..)];exact Zbe (Zdn _ _) (by omega)
  rw [eq];exact this
theorem Dn.mono {t M N:Nat} {q:Rat} (h:Dn t M q) (hMN:M<=N):Dn t N q:=by
 obtain ⟨z,e,hz⟩:=h;exact ⟨z,e,Zbe hz hMN⟩
theorem Dn.zero (t M:Nat):Dn t M 0:=⟨0,by grind,by simp⟩
theorem Dn.sub {t M N:Nat} {p q:Rat} (hp:Dn t M p) (hq:Dn t N q):Dn t (M+N) (p-q):=by
 obtain ⟨z,e,hz⟩:=hp;obtain ⟨w,f,hw⟩:=hq;refine ⟨z-w,by rw [Rat.intCast_sub];grind,?_⟩;have:=Int.natAbs_sub_le z w;omega
theorem Dn.mul {t s M N:Nat} {p q:Rat} (hp:Dn t M p) (hq:Dn s N q):Dn (t*s) (M*N) (p*q):=by
 obtain ⟨z,e,hz⟩:=hp;obtain ⟨w,f,hw⟩:=hq;refine ⟨z*w,?_,?_⟩
 .rw [Zge,show ((t*s:Nat):Int)=(t:Int)*(s:Int) by simp,Zge];grind
 .rw [Zci];exact Zbl hz hw
def Sg (b:Rat):Prop:=b = -1\/b=0\/b=1
theorem Sg.dn {b:Rat} (h:Sg b) {t M:Nat} (hM:t<=M):Dn t M b:=by
 rcases h with rfl | rfl | rfl
 .exact ⟨-(t:Int),by rw [Zcz];grind,by omega⟩
 .exact Dn.zero _ _
 .exact ⟨(t:Int),by grind,by omega⟩
theorem Sg.mul {b q:Rat} (h:Sg b) {t M:Nat} (hq:Dn t M q):Dn t M (b*q):=by
 obtain ⟨z,e,hz⟩:=hq;rcases h with rfl | rfl | rfl
 .exact ⟨-z,by rw [Zcz];grind,by omega⟩
 .rw [Zce];exact Dn.zero _ _
 .exact ⟨z,by grind,hz⟩
abbrev at' (q:List Rat) (j:Nat):Rat:=q.getD j 0
theorem uU {q:List Rat} {j:Nat} (h:j<q.length):q[j]? = some (at' q j):=by
 rw [at',Zaa,Zgu h];rfl
theorem gG {q:List Rat} {j:Nat} (h:q.length<=j):at' q j=0:=by
 rw [at',Zaa,Zgz h];rfl
theorem mT {q:List Rat} {x:Rat} (h:x∈q):∃ j,j<q.length/\x=at' q j:=by
 obtain ⟨j,hj⟩:=Zau.1 h;have hl:=(Zgv.1 hj).1;rw [uU hl] at hj;exact ⟨j,hl,(Option.some.inj hj).symm⟩
theorem gY {b:Rat} {r o:List Rat} (h:r.length=o.length):(jZ b r o).length=r.length:=by
 unfold jZ;rw [Zdp];omega
theorem uH {b:Rat} {r o:List Rat} (h:r.length=o.length) (j:Nat):at' (jZ b r o) j=at' r j-b*at' o j:=by
 by_cases hj:j<r.length
 .have h1:=uU (q:=jZ b r o) (j:=j) (by rw [gY h];exact hj);unfold jZ at h1;rw [Zhh,uU hj,uU (q:=o) (by omega)] at h1;exact (Option.some.inj h1).symm
 .rw [gG (by rw [gY h];omega),gG (by omega),gG (by omega)];grind
theorem wH {b:Rat} {r:List Rat}:(jE b r).length=r.length:=by unfold jE;rw [Zae]
theorem xU {b:Rat} {r:List Rat} (j:Nat):at' (jE b r) j=at' r j*b:=by
 by_cases hj:j<r.length
 .have h1:=uU (q:=jE b r) (j:=j) (by rw [wH];exact hj);unfold jE at h1;rw [Zgw,uU hj] at h1;exact (Option.some.inj h1).symm
 .rw [gG (by rw [wH];omega),gG (by omega),Zce]
def dot:List Rat->List Rat->Rat
 | a::q,b::f=>a*b+dot q f
 | _,_=>0
theorem gZ (b:Rat):∀ (r o f:List Rat),r.length=o.length->dot (jZ b r o) f=dot r f-b*dot o f
 | [],[],f,_=>by unfold jZ;simp [dot];grind
 | x::r,y::o,[],_=>by unfold jZ;simp [dot];grind
 | x::r,y::o,z::f,h=>by
  have ih:=gZ b r o f (by simpa using h);unfold jZ at ih ⊢;rw [Zfq,dot,dot,dot,ih];grind
 | [],_::_,_,h=>by simp at h
 | _::_,[],_,h=>by simp at h
theorem qB (b:Rat):∀ (r f:List Rat),dot (jE b r) f=b*dot r f
 | [],f=>by simp [jE,dot]
 | x::r,[]=>by simp [jE,dot]
 | x::r,z::f=>by
  have ih:=qB b r f;unfold jE at ih ⊢;rw [Zdh,dot,dot,ih];grind
def redF:List (List Rat×Nat)->List Rat->List Rat
 | [],r=>r
 |(q,p)::l,r=>redF l (jZ (at' r p) r q)
theorem zeb (q:List Rat) (p:Nat):∀ (l:List (List Rat×Nat)) (r:List Rat),redF (l++[(q,p)]) r=jZ (at' (redF l r) p) (redF l r) q
 | [],r=>rfl
 |(q',p')::l,r=>by rw [Zbs,redF,zeb q p l,redF]
theorem uA {α:Type} {l:List α} {i:Nat} {d:α} (h:i<l.length):l[i]? = some (l.getD i d):=by
 rw [Zaa,Zgu h];rfl
theorem yI {α:Type} {l:List α} {i:Nat} {d:α} (h:i<l.length):l.getD i d∈l:=Zad (uA h)
abbrev oM (Q:List (List Rat)) (ps:List Nat):List (List Rat×Nat):=List.zip Q ps
theorem cG {Q:List (List Rat)} {ps:List Nat} {k:Nat} (hl:ps.length=Q.length) (hk:k<Q.length):(oM Q ps).take (k+1)=(oM Q ps).take k++[(Q.getD k [],ps.getD k 0)]:=by
 have h1:Q[k]? = some (Q.getD k []):=uA hk;have h2:ps[k]? = some (ps.getD k 0):=uA (by omega);have h3:(oM Q ps)[k]? = some (Q.getD k [],ps.getD k 0):=List.getElem?_zip_eq_some.2 ⟨h1,h2⟩;rw [Zar,h3];rfl
def qI (Q:List (List Rat)) (p:Nat) (r:List Rat):List (List Rat):=Q.map λo=>jZ (at' o p) o r
theorem qad {t N:Nat} {v:Rat} (ht:1<=t) (hv:v≠0) (h:Dn t N v):∃ s:Nat,1<=s/\s<=N/\Dn s t v⁻¹/\∀ {x:Rat} {R:Nat},Dn t R x->Dn s R (x*v⁻¹):=by
 obtain ⟨z,e,hz⟩:=h;have ht0:((t:Int):Rat)≠0:=c9 (by omega);have hz0:z≠0:=λq=>by subst q;rw [show ((0:Int):Rat)=0 from rfl] at e;grind
 have hzr:(z:Rat)≠0:=c9 hz0;refine ⟨z.natAbs,by omega,hz,?_,λ{x R} hx => ?_⟩
 .by_cases c:0<z
  .refine ⟨(t:Int),?_,by omega⟩;rw [show ((z.natAbs:Nat):Int)=z by omega];grind
  .refine ⟨-(t:Int),?_,by omega⟩;rw [show ((z.natAbs:Nat):Int) = -z by omega,Zcz,Zcz];grind
 .obtain ⟨w,f,hw⟩:=hx;by_cases c:0<z
  .refine ⟨w,?_,hw⟩;rw [show ((z.natAbs:Nat):Int)=z by omega];grind
  .refine ⟨-w,?_,by omega⟩;rw [show ((z.natAbs:Nat):Int) = -z by omega,Zcz,Zcz];grind
abbrev SL (n:Nat) (o4 o5:Option Pa) (rs:List Pa) (cs:List (List AV)) (ps:List Nat) (T:List Ob):List Ob :=
 .gro o4 1 rs.length (rs.map (rwV n))::.gro o5 1 ps.length (ps.map λp=>I ((p:Nat):Int))::(List.zipWith Ob.arr rs cs++T)
structure SM (rs:List Pa) (cs:List (List AV)) (Q:List (List Rat)):Prop where
 lr:rs.length=Q.length
 lc:cs.length=Q.length
 row:∀ a,a<Q.length->sF (cs.getD a []) (Q.getD a [])
theorem vO {rs:List Pa} {cs:List (List AV)} {Q:List (List Rat)} (S:SM rs cs Q):(List.zipWith Ob.arr rs cs).length=Q.length:=by
 rw [Zdp,S.lr,S.lc,Nat.min_self]
theorem SM.ob {rs:List Pa} {cs:List (List AV)} {Q:List (List Rat)} (S:SM rs cs Q) {n a:Nat} {o4 o5:Option Pa} {ps:List Nat} {T:List Ob} (ha:a<Q.length) (X:List Ob) :
  ∃ r,rs[a]? = some r/\(X++SL n o4 o5 rs cs ps T)[X.length+(a+2)]? = some (.arr r (cs.getD a [])):=by
 have hr:rs[a]? = some (rs[a]'(by rw [S.lr];exact ha)):=Zgu _;have hc:cs[a]? = some (cs.getD a []):=uA (by rw [S.lc];exact ha);refine ⟨_,hr,?_⟩;rw [Zgx (by omega),Zch];show (List.zipWith Ob.arr rs cs++T)[a]? = _;rw [Zha (by rw [vO S];exact ha),Zhh,hr,hc]
theorem zl7:∀ {rs:List Pa} {cs:List (List AV)} {a:Nat} {r:Pa} {c:List AV},rs[a]? = some r->(List.zipWith Ob.arr rs cs).set a (.arr r c)=List.zipWith Ob.arr rs (cs.set a c)
 | [],_,_,_,_,h=>by simp at h
 | _::_,[],_,_,_,_=>by simp
 | x::rs,y::cs,0,r,c,h=>by
  obtain rfl:=Option.some.inj h
  rfl
 | x::rs,y::cs,a+1,r,c,h=>by
  have:=zl7 (rs:=rs) (cs:=cs) (a:=a) (r:=r) (c:=c) (by simpa using h);simp [this]
theorem SM.put {rs:List Pa} {cs:List (List AV)} {Q:List (List Rat)} (S:SM rs cs Q) {n a:Nat} {o4 o5:Option Pa} {ps:List Nat} {T:List Ob} {r:Pa} {c:List AV} {q:List Rat} (ha:a<Q.length) (hr:rs[a]? = some r) (hc:sF c q) (X:List Ob) :
  SM rs (cs.set a c) (Q.set a q)/\(X++SL n o4 o5 rs cs ps T).set (X.length+(a+2)) (.arr r c)=X++SL n o4 o5 rs (cs.set a c) ps T:=by
 refine ⟨⟨by rw [Zat];exact S.lr,by rw [Zat,Zat];exact S.lc,λb hb => ?_⟩,?_⟩
 .rw [Zat] at hb;by_cases e:b=a
  .subst e;rw [Zaa,Zaa,Zhc (by rw [S.lc];exact hb),Zhc hb];exact hc
  .rw [Zaa,Zaa,Zhf (by omega),Zhf (by omega),<- Zaa,<- Zaa];exact S.row b hb
 .rw [Zfx _ _ (by omega),Zch];show X++(Ob.gro o4 1 rs.length (rs.map (rwV n))::Ob.gro o5 1 ps.length (ps.map λp=>I ((p:Nat):Int))::(List.zipWith Ob.arr rs cs++T).set a (.arr r c))=_;rw [List.set_append_left _ _ (by rw [vO S];exact ha),zl7 hr]
theorem SM.add {rs:List Pa} {cs:List (List AV)} {Q:List (List Rat)} (S:SM rs cs Q) {r:Pa} {c:List AV} {q:List Rat} (hc:sF c q):SM (rs++[r]) (cs++[c]) (Q++[q]):=by
 refine ⟨by simp [S.lr],by simp [S.lc],λb hb => ?_⟩;rw [Zag,Zbw] at hb;by_cases e:b<Q.length
 .rw [Zaa,Zaa,Zha (by rw [S.lc];exact e),Zha e,<- Zaa,<- Zaa];exact S.row b e
 .obtain rfl:b=Q.length:=by omega
  rw [Zaa,Zaa,Zgx (by rw [S.lc];exact Zaf _),Zgx (Zaf _),S.lc,Zcv];exact hc
theorem zl8 {rs:List Pa} {cs:List (List AV)} {r:Pa} {c:List AV} (h:rs.length=cs.length):List.zipWith Ob.arr (rs++[r]) (cs++[c])=List.zipWith Ob.arr rs cs++[.arr r c]:=by
 rw [List.zipWith_append h];rfl
theorem zso {a g4 g5:Ob} {Z T:List Ob}:(a::g4::g5::(Z++T)).Perm (g4::g5::((Z++[a])++T)):=by
 refine (List.Perm.swap ..).trans (List.Perm.cons _ ((List.Perm.swap ..).trans (List.Perm.cons _ ?_)));rw [Zcg];exact List.perm_middle.symm
theorem zsp {α:Type} {l e:List α} {c:Nat} {q:α} (hle:e.length=l.length) (hq:e[c]? = some q):(e.take c++l.drop c).set c q=e.take (c+1)++l.drop (c+1):=by
 have hc:=(Zgv.1 hq).1;rw [Zav (show c<l.length by omega),pK (by rw [Zaj];omega),Zar,hq];simp
theorem qdq {α:Type} {l e:List α} {c:Nat} {q:α} (hle:e.length=l.length) (hq:l[c]? = some q):(e.take c++l.drop c)[c]? = some q:=by
 have hc:=(Zgv.1 hq).1;rw [Zgx (by rw [Zaj];omega),Zaj,Zhe,show c+(c-min c e.length)=c by omega];exact hq
theorem bN:∀ (l:List Int) (q:List Rat) (j:Nat),(at' q j=0\/at' q j=1)->at' (l.foldl (λq c=>q.set c.toNat 1) q) j=0\/at' (l.foldl (λq c=>q.set c.toNat 1) q) j=1
 | [],_,_,h=>h
 | c::l,q,j,h=>by
  rw [Zco];refine bN l _ j ?_;by_cases e:c.toNat=j
  .by_cases hj:j<q.length
   .right;rw [at',Zaa,e,Zhc hj];rfl
   .left;exact gG (by rw [Zat];omega)
  .rw [at',Zaa,Zhf e,<- Zaa];exact h
theorem pY (n:Nat) (l:List Int) (j:Nat):at' (sD n l) j=0\/at' (sD n l) j=1:=by
 refine bN l _ j (.inl ?_);by_cases hj:j<n
 .rw [at',Zaa,Zhn,if_pos hj];rfl
 .exact gG (by rw [Zaz];omega)
def aS (n:Nat) (lines:List (List Int)) (i:Nat):List Rat:=jZ 1 (sD n (lines.getD i [])) (sD n (lines.getD 0 []))
theorem dP (n:Nat) (lines:List (List Int)) (i:Nat):(aS n lines i).length=n:=by unfold aS;rw [gY (by rw [jH,jH]),jH]
theorem m7 (n:Nat) (lines:List (List Int)) (i j:Nat):Sg (at' (aS n lines i) j):=by
 unfold aS;rw [uH (by rw [jH,jH])];rcases pY n (lines.getD i []) j with e | e <;> rcases pY n (lines.getD 0 []) j with f | f <;> rw [e,f]
 .right;left;grind
 .left;grind
 .right;right;grind
 .right;left;grind
def Mgf (n:Nat) (lines:List (List Int)) (f:List Rat):Prop:=f.length=n/\∀ l∈lines,dot (sD n l) f=dot (sD n (lines.getD 0 [])) f
theorem zsq {n:Nat} {lines:List (List Int)} {f:List Rat} (h:Mgf n lines f) {i:Nat} (hi:i<lines.length):dot (aS n lines i) f=0:=by
 unfold aS;rw [gZ _ _ _ _ (by rw [jH,jH]),h.2 _ (yI hi)];grind
theorem zcg {n:Nat} {f:List Rat}:∀ (l:List (List Rat×Nat)) (r:List Rat),(∀ x∈l,x.1.length=n/\dot x.1 f=0)->r.length=n->dot (redF l r) f=dot r f
 | [],r,_,_=>rfl
 |(q,p)::l,r,h,hr=>by
  obtain ⟨h1,h2⟩:=h (q,p) (Zai ..);have hl:r.length=q.length:=by rw [hr];exact h1.symm
  rw [redF,zcg l _ (λx hx=>h x (Zam _ hx)) (by rw [gY hl];exact hr),gZ _ _ _ _ hl];have h2:dot q f=0:=h2;rw [h2];grind
end Go.Ev
namespace Go.Ev
open Go Go.Proofs
variable {B:Nat}
set_option maxRecDepth 100000
theorem zsr {h0 h:T Blk} {y p:Pa} {L:List Ob} {k x:Nat} {o:Option Pa} {l:List Nat} {K:Kw Prop} (H:Hp h0 h y L) (hk:L[k]? = some (.gro o 1 l.length (l.map λp=>I ((p:Nat):Int)))) (hl:l.length<=1000) (hK:∀ z:Int,(0<=z↔x∈l)->K (I z) h y=.ok True):(CS Tryz.prog B).fn 134 p [uf o 1 l.length,I (x:Int)] h y K=.ok True:=by
 refine zL zR yK 2000 λhf => ?_;rw [jf.go,jf.t22,zA,jf.zu,zA,zA,jf.zo,H.oH hk,zJ];refine jf.eT (λm x5 h' y'=>∃ i:Nat,x5=I (i:Int)/\m+i=l.length/\x∉l.take i/\h'=h/\y'=y) (m:=l.length) (by omega) ⟨0,rfl,rfl,by simp,rfl,rfl⟩ ?_;rintro m z2 z3 z5 z6 z7 h3 y3 R ⟨i,rfl,hm,hn,rfl,rfl⟩ hR;rw [jf.t15,zA,jf.yt,yu,zA,zB,jf.v6];by_cases ci:i<l.length
 .have hx:l[i]? = some l[i]:=Zgu ci;obtain ⟨id,g,d⟩:=H.zdj hk (j:=i) (v:=I ((l[i]:Nat):Int)) (by rw [Zgw,hx];rfl);rw [Zac (by omega),zD,zE,zA,zJ,zA,jf.nY,zA,jf.dz,g,d,qf,zB,jf.v7];by_cases e:x=l[i]
  .rw [Zac (by omega),zD,zA,jf.uj];simp only [zG,kV,zQ];rw [jf.ret];exact hK _ ⟨λ_=>e ▸ Zas ci,λ_=>by omega⟩
  .rw [Zab (by omega),zC,zE,jf.nZ,jg (by omega)];refine hR (m-1) _ _ _ _ _ _ _ (by omega) ⟨i+1,by congr 1,by omega,?_,rfl,rfl⟩;rw [Zar,hx,Zde,Zbb,Zba];exact λq=>q.elim hn e
 .rw [Zab (by omega),zC,zY,yD,zA,jf.rY];simp only [zG,zQ];rw [jf.ret];rw [Zan (by omega)] at hn;exact hK _ ⟨λq=>by omega,λq=>absurd q hn⟩
theorem zvs {h0 h:T Blk} {y p:Pa} {L:List Ob} {k x:Nat} {o:Option Pa} {l:List Nat} {K:Kw Prop} (H:Hp h0 h y L) (hk:L[k]? = some (.gro o 1 l.length (l.map λp=>I ((p:Nat):Int)))) (hl:l.length<=1000) (hK:K (.bool (decide (x∈l))) h y=.ok True):(CS Tryz.prog B).fn 78 p [uf o 1 l.length,I (x:Int)] h y K=.ok True:=by
 refine zL zR yK 2000 λhf => ?_;rw [F78.go,F78.t3,zA,F78.zu,zA,F78.zo];refine zsr H hk hl λz hz => ?_;rw [bq];simp only [zG,zQ];rw [F78.ret];have:decide (0<=z)=decide (x∈l):=decide_eq_decide.2 hz;rw [this];exact hK
def oN (c:Nat):List (List Rat×Nat)->List Rat->List Rat
 | [],b=>b
 |(q,p)::l,b=>oN c l (b.set p (-at' q c))
theorem zec (c:Nat) (q:List Rat) (p:Nat):∀ (l:List (List Rat×Nat)) (b:List Rat),oN c (l++[(q,p)]) b=(oN c l b).set p (-at' q c)
 | [],b=>rfl
 |(q',p')::l,b=>by rw [Zbs,oN,zec c q p l,oN]
theorem cA (c:Nat):∀ (l:List (List Rat×Nat)) (b:List Rat),(oN c l b).length=b.length
 | [],_=>rfl
 |(q,p)::l,b=>by rw [oN,cA c l,Zat]
def kL (n c:Nat):List Rat:=(List.replicate n 0).set c 1
def oo (n:Nat) (Q:List (List Rat)) (ps:List Nat) (c:Nat):List Rat:=oN c (oM Q ps) (kL n c)
theorem gT (n c:Nat):(kL n c).length=n:=by unfold kL;rw [Zat,Zaz]
theorem bY (n:Nat) (Q:List (List Rat)) (ps:List Nat) (c:Nat):(oo n Q ps c).length=n:=by unfold oo;rw [cA,gT]
theorem bS:∀ (b g:List Rat) (p:Nat) (x:Rat),p<b.length->b.length=g.length->dot (b.set p x) g=dot b g+(x-at' b p)*at' g p
 | [],_,p,x,h,_=>by simp at h
 | y::b,[],p,x,h,h2=>by simp at h2
 | y::b,z::g,0,x,_,_=>by
  rw [Zff,dot,dot];show _=_+(x-y)*z
  grind
 | y::b,z::g,p+1,x,h,h2=>by
  have ih:=bS b g p x (by simpa using h) (by simpa using h2);rw [Zfi,dot,dot,ih];show _=_+(x-at' b p)*at' g p
  grind
def sumA (c:Nat) (g:List Rat):List (List Rat×Nat)->Rat
 | []=>0
 |(q,p)::l=>at' g p*at' q c+sumA c g l
theorem zf1 {b:List Rat} {p j:Nat} {x:Rat} (h:p≠j):at' (b.set p x) j=at' b j:=by
 rw [at',Zaa,Zhf h,<- Zaa]
theorem zir {n c:Nat} {g:List Rat} (hg:g.length=n):∀ (l:List (List Rat×Nat)) (b:List Rat),b.length=n->(l.map (·.2)).Nodup->(∀ x∈l,x.2<n/\at' b x.2=0)->dot (oN c l b) g=dot b g-sumA c g l
 | [],b,_,_,_=>by rw [oN,sumA];grind
 |(q,p)::l,b,hb,hd,hz=>by
  obtain ⟨h1,h2⟩:=hz (q,p) (Zai ..);have h1:p<n:=h1;have h2:at' b p=0:=h2;rw [Zdh,Zcc] at hd;rw [oN,zir hg l _ (by rw [Zat];exact hb) hd.2 (λx hx => ?_),bS _ _ _ _ (by omega) (by omega),h2,sumA]
  .grind
  .obtain ⟨h3,h4⟩:=hz x (Zam _ hx);refine ⟨h3,?_⟩;rw [zf1 (λe=>hd.1 (Zao.2 ⟨x,hx,e.symm⟩))];exact h4
end Go.Ev
namespace Go.Ev
open Go Go.Proofs
theorem gE:∀ (a b:List Rat),dot a b=dot b a
 | [],[]=>rfl
 | [],_::_=>rfl
 | _::_,[]=>rfl
 | x::a,y::b=>by rw [dot,dot,gE a b];grind
theorem d7:∀ (r f:List Rat),(∀ j,at' r j=0)->dot r f=0
 | [],_,_=>by cases ‹List Rat› <;> rfl
 | x::r,[],_=>rfl
 | x::r,y::f,h=>by
  have h0:x=0:=h 0;rw [dot,d7 r f λj=>h (j+1),h0];grind
theorem cN (n j:Nat):at' (List.replicate n (0:Rat)) j=0:=by
 by_cases hj:j<n
 .rw [at',Zaa,Zhn,if_pos hj];rfl
 .exact gG (by rw [Zaz];omega)
theorem zss {n c:Nat} {g:List Rat} (hg:g.length=n) (hc:c<n):dot (kL n c) g=at' g c:=by
 unfold kL;rw [bS _ _ _ _ (by rw [Zaz];exact hc) (by rw [Zaz];exact hg.symm),cN,d7 _ _ (cN n)];grind
theorem zf2 {n c j:Nat} (h:j≠c):at' (kL n c) j=0:=by
 unfold kL;rw [zf1 (λe=>h e.symm),cN]
theorem zed (c:Nat) (g:List Rat) (q:List Rat) (p:Nat):∀ l:List (List Rat×Nat),sumA c g (l++[(q,p)])=sumA c g l+at' g p*at' q c
 | []=>by simp only [Zbf,sumA];grind
 |(q',p')::l=>by rw [Zbs,sumA,sumA,zed c g q p l];grind
theorem zvt {Q:List (List Rat)} {ps:List Nat} (h:ps.length=Q.length):(oM Q ps).map (·.2)=ps:=by
 exact List.map_snd_zip (by omega)
theorem zf3 {n:Nat} {l:List Int} {c:Int} {b:List Rat} (hb:b.length=n) (hc:0<=c/\c<(n:Int)) (hn:c∉l) (hl:∀ x∈l,0<=x):dot (sD n (l++[c])) b=dot (sD n l) b+at' b c.toNat:=by
 have hz:∀ (l:List Int) (q:List Rat),c∉l->(∀ x∈l,0<=x)->at' q c.toNat=0->at' (l.foldl (λq c=>q.set c.toNat 1) q) c.toNat=0:=by
  intro l
  induction l with
  | nil=>intro q _ _ h;exact h
  | cons x l ih =>
   intro q hcl hx h;rw [Zco];have hx0:=hx x (Zai ..);have hne:x≠c:=λe=>hcl (by rw [e];exact Zai ..);refine ih _ (λhm=>hcl (Zam _ hm)) (λy hy=>hx y (Zam _ hy)) ?_;rw [zf1 (by omega)];exact h
 rw [zea,bS _ _ _ _ (by rw [jH];omega) (by rw [jH];exact hb.symm)];have h0:at' (sD n l) c.toNat=0:=hz l _ hn hl (cN n _);rw [h0];grind
def wdg:List Int->(List Bool->Int)->List Bool->Int
 | _::a,w,false::s=>wdg a (λt=>w (false::t)) s
 | x::a,w,true::s=>x*w (false::s)-wdg a (λt=>w (true::t)) s
 | _,_,_=>0
def ctr:List Int->(List Bool->Int)->List Bool->Int
 | x::a,w,false::s=>ctr a (λt=>w (false::t)) s+x*w (true::s)
 | _::a,w,true::s => -ctr a (λt=>w (true::t)) s
 | _,_,_=>0
def ipf:Nat->(List Bool->Int)->(List Bool->Int)->Int
 | 0,v,w=>v []*w []
 | n+1,v,w=>ipf n (λt=>v (false::t)) (λt=>w (false::t))+ipf n (λt=>v (true::t)) (λt=>w (true::t))
def sZ:List Int->Int
 | []=>0
 | x::a=>x*x+sZ a
def dtI:List Int->List Int->Int
 | x::a,y::b=>x*y+dtI a b
 | _,_=>0
theorem kP:∀ n v w,ipf n v w=ipf n w v
 | 0,_,_=>Int.mul_comm ..
 | n+1,v,w=>by rw [ipf,ipf,kP n,kP n (λt=>v (true::t))]
theorem fY (c:Int):∀ n u v w,ipf n u (λs=>c*v s-w s)=c*ipf n u v-ipf n u w
 | 0,_,_,_=>by simp only [ipf];grind
 | n+1,u,v,w=>by
  simp only [ipf];rw [fY c n _ (λt=>v (false::t)) (λt=>w (false::t)),fY c n _ (λt=>v (true::t)) (λt=>w (true::t))];grind
theorem bI (c:Int):∀ n u v w,ipf n (λs=>v s+c*w s) u=ipf n v u+c*ipf n w u
 | 0,_,_,_=>by simp only [ipf];grind
 | n+1,u,v,w=>by
  simp only [ipf];rw [bI c n _ (λt=>v (false::t)) (λt=>w (false::t)),bI c n _ (λt=>v (true::t)) (λt=>w (true::t))];grind
theorem fX:∀ n u v,ipf n (λs => -v s) u = -ipf n v u
 | 0,_,_=>by simp only [ipf];grind
 | n+1,u,v=>by
  simp only [ipf];rw [fX n _ (λt=>v (false::t)),fX n _ (λt=>v (true::t))];grind
theorem zch:∀ n w,ipf n (λ_=>0) w=0
 | 0,_=>Int.zero_mul _
 | n+1,w=>by rw [ipf,zch n,zch n];rfl
theorem xC:∀ n w,0<=ipf n w w
 | 0,w=>by
  rcases Int.le_total 0 (w []) with h | h
  .exact Zgi h h
  .exact Zea h h
 | n+1,w=>Int.add_nonneg (xC n _) (xC n _)
theorem zl9 (x:Int):0<=x*x:=by
 rcases Int.le_total 0 x with h | h
 .exact Zgi h h
 .exact Zea h h
theorem zkx:∀ (a:List Int) (v w),ipf a.length v (wdg a w)=ipf a.length (ctr a v) w
 | [],v,w=>by simp only [ipf,wdg,ctr,Zey];grind
 | x::a,v,w=>by
  show ipf a.length (λt=>v (false::t)) (wdg a λt=>w (false::t))+ipf a.length (λt=>v (true::t)) (λs=>x*w (false::s)-wdg a (λt=>w (true::t)) s)=ipf a.length (λs=>ctr a (λt=>v (false::t)) s+x*v (true::s)) (λt=>w (false::t))+ipf a.length (λs => -ctr a (λt=>v (true::t)) s) (λt=>w (true::t));rw [zkx a,fY x _ _ (λs=>w (false::s)) (λs=>wdg a (λt=>w (true::t)) s),bI x _ _ (λs=>ctr a (λt=>v (false::t)) s) (λs=>v (true::s)),fX,show (λs=>wdg a (λt=>w (true::t)) s)=wdg a λt=>w (true::t) from rfl,zkx a]
  grind
theorem zci:∀ (a:List Int) w,ipf a.length (wdg a w) (wdg a w)+ipf a.length (ctr a w) (ctr a w)=sZ a*ipf a.length w w
 | [],w=>by simp only [ipf,wdg,ctr,sZ,Zey];grind
 | x::a,w=>by
  have e1:=zci a λt=>w (false::t);have e2:=zci a λt=>w (true::t);have e3:=zkx a (λt=>w (false::t)) (λt=>w (true::t));show ipf a.length (wdg a λt=>w (false::t)) (wdg a λt=>w (false::t))+ipf a.length (λs=>x*w (false::s)-wdg a (λt=>w (true::t)) s) (λs=>x*w (false::s)-wdg a (λt=>w (true::t)) s)+(ipf a.length (λs=>ctr a (λt=>w (false::t)) s+x*w (true::s)) (λs=>ctr a (λt=>w (false::t)) s+x*w (true::s))+ipf a.length (λs => -ctr a (λt=>w (true::t)) s) (λs => -ctr a (λt=>w (true::t)) s))=(x*x+sZ a)*(ipf a.length (λt=>w (false::t)) (λt=>w (false::t))+ipf a.length (λt=>w (true::t)) (λt=>w (true::t)));have c1:∀ u,ipf a.length u (λs=>x*w (false::s)-wdg a (λt=>w (true::t)) s)=x*ipf a.length u (λs=>w (false::s))-ipf a.length u (wdg a λt=>w (true::t)):=λu=>fY x _ _ (λs=>w (false::s)) (λs=>wdg a (λt=>w (true::t)) s);have c2:∀ u,ipf a.length (λs=>ctr a (λt=>w (false::t)) s+x*w (true::s)) u=ipf a.length (ctr a λt=>w (false::t)) u+x*ipf a.length (λs=>w (true::s)) u:=λu=>bI x _ _ (λs=>ctr a (λt=>w (false::t)) s) (λs=>w (true::s));have c3:∀ u,ipf a.length (λs => -ctr a (λt=>w (true::t)) s) u = -ipf a.length (ctr a λt=>w (true::t)) u:=λu=>fX ..;rw [c1,kP _ (λs=>x*w (false::s)-wdg a (λt=>w (true::t)) s),c1,kP _ (λs=>x*w (false::s)-wdg a (λt=>w (true::t)) s),c1,c2,c3,kP _ _ (λs => -ctr a (λt=>w (true::t)) s),c3,kP _ _ (λs=>ctr a (λt=>w (false::t)) s+x*w (true::s)),c2,kP _ _ (λs=>ctr a (λt=>w (false::t)) s+x*w (true::s)),c2];rw [kP _ (wdg a λt=>w (true::t)) (λs=>w (false::s)),kP _ (λs=>w (true::s)) (ctr a λt=>w (false::t)),e3]
  grind
theorem zst (a:List Int) (w):ipf a.length (wdg a w) (wdg a w)<=sZ a*ipf a.length w w:=by
 have:=zci a w;have:=xC a.length (ctr a w);omega
theorem mY (c:Int):∀ (a:List Int) v w s,wdg a (λt=>c*v t-w t) s=c*wdg a v s-wdg a w s
 | [],_,_,_=>by simp only [wdg];grind
 | _::_,_,_,[]=>by simp only [wdg];grind
 | x::a,v,w,false::s=>mY c a (λt=>v (false::t)) (λt=>w (false::t)) s
 | x::a,v,w,true::s=>by
  have:=mY c a (λt=>v (true::t)) (λt=>w (true::t)) s;simp only [wdg] at this ⊢;rw [this];grind
theorem xR:∀ (a b:List Int) w s,a.length=b.length->wdg a (wdg b w) s = -wdg b (wdg a w) s
 | [],[],_,_,_=>by simp only [wdg];rfl
 | _::_,_::_,_,[],_=>by simp only [wdg];rfl
 | x::a,y::b,w,false::s,h=>xR a b (λt=>w (false::t)) s (by simpa using h)
 | x::a,y::b,w,true::s,h=>by
  have ih:=xR a b (λt=>w (true::t)) s (by simpa using h);show x*wdg b (λt=>w (false::t)) s-wdg a (λt=>y*w (false::t)-wdg b (λt=>w (true::t)) t) s = -(y*wdg a (λt=>w (false::t)) s-wdg b (λt=>x*w (false::t)-wdg a (λt=>w (true::t)) t) s);rw [mY y a (λt=>w (false::t)) (wdg b λt=>w (true::t)),mY x b (λt=>w (false::t)) (wdg a λt=>w (true::t)),ih]
  grind
 | [],_::_,_,_,h=>by simp at h
 | _::_,[],_,_,h=>by simp at h
theorem dM:∀ (a:List Int) w s,(∀ t:List Bool,t.length=s.length->w t=0)->wdg a w s=0
 | [],_,_,_=>by simp only [wdg]
 | _::_,_,[],_=>by simp only [wdg]
 | x::a,w,false::s,h=>dM a _ s λt ht=>h _ (by simpa using ht)
 | x::a,w,true::s,h=>by
  simp only [wdg];rw [h (false::s) rfl,dM a _ s λt ht=>h _ (by simpa using ht)];grind
theorem fU:∀ (a:List Int) w s,wdg a w s≠0->∃ t:List Bool,t.length=s.length/\w t≠0/\t.count true+1=s.count true
 | [],_,_,h=>absurd (by simp only [wdg]) h
 | _::_,_,[],h=>absurd (by simp only [wdg]) h
 | x::a,w,false::s,h=>by
  obtain ⟨t,h1,h2,h3⟩:=fU a (λt=>w (false::t)) s h;exact ⟨false::t,by simp [h1],h2,by simpa using h3⟩
 | x::a,w,true::s,h=>by
  by_cases c:w (false::s)=0
  .obtain ⟨t,h1,h2,h3⟩:=fU a (λt=>w (true::t)) s λe=>h (by simp only [wdg];rw [c,e];grind);exact ⟨true::t,by simp [h1],h2,by simpa using h3⟩
  .exact ⟨false::s,rfl,c,by simp⟩
def xvL:List Bool->(List Bool->Int)->List Int
 | [],_=>[]
 | false::s,w=>0::xvL s λt=>w (false::t)
 | true::s,w=>w (false::s)::(xvL s λt=>w (true::t)).map λx => -x
theorem fT:∀ s w,(xvL s w).length=s.length
 | [],_=>rfl
 | false::s,_=>congrArg (· + 1) (fT s _)
 | true::s,_=>congrArg (· + 1) (by rw [Zae];exact fT s _)
theorem zma:∀ a b:List Int,dtI a (b.map λx => -x) = -dtI a b
 | [],_=>by simp only [dtI];rfl
 | _::_,[]=>rfl
 | x::a,y::b=>by rw [Zdh,dtI,dtI,zma a b];grind
theorem zmb:∀ b:List Int,sZ (b.map λx => -x)=sZ b
 | []=>rfl
 | y::b=>by rw [Zdh,sZ,sZ,zmb b];grind
theorem zf4:∀ (a:List Int) w s,s.length=a.length->wdg a w s=dtI a (xvL s w)
 | [],_,[],_=>rfl
 | x::a,w,false::s,h=>by
  show wdg a (λt=>w (false::t)) s=x*0+dtI a _;rw [zf4 a _ s (by simpa using h)];grind
 | x::a,w,true::s,h=>by
  show x*w (false::s)-wdg a (λt=>w (true::t)) s=x*w (false::s)+dtI a _;rw [zf4 a _ s (by simpa using h),zma];grind
 | [],_,_::_,h=>by simp at h
 | _::_,_,[],h=>by simp at h
theorem zsu:∀ s w,w s*w s<=ipf s.length w w
 | [],_=>Zgl _
 | false::s,w=>by
  have:=zsu s λt=>w (false::t);have:=xC s.length λt=>w (true::t);show _<=ipf s.length (λt=>w (false::t)) (λt=>w (false::t))+ipf s.length (λt=>w (true::t)) (λt=>w (true::t));omega
 | true::s,w=>by
  have:=zsu s λt=>w (true::t);have:=xC s.length λt=>w (false::t);show _<=ipf s.length (λt=>w (false::t)) (λt=>w (false::t))+ipf s.length (λt=>w (true::t)) (λt=>w (true::t));omega
theorem zmc:∀ s w,sZ (xvL s w)<=ipf s.length w w
 | [],w=>xC 0 w
 | false::s,w=>by
  have:=zmc s λt=>w (false::t);have:=xC s.length λt=>w (true::t);show 0*0+sZ (xvL s λt=>w (false::t))<=ipf s.length (λt=>w (false::t)) (λt=>w (false::t))+ipf s.length (λt=>w (true::t)) (λt=>w (true::t));omega
 | true::s,w=>by
  have:=zmc s λt=>w (true::t);have:=zsu s λt=>w (false::t);show w (false::s)*w (false::s)+sZ ((xvL s λt=>w (true::t)).map λx => -x)<=ipf s.length (λt=>w (false::t)) (λt=>w (false::t))+ipf s.length (λt=>w (true::t)) (λt=>w (true::t));rw [zmb];omega
theorem zsv:∀ (s:List Bool) w,w s≠0->s.count true<s.length->∃ S:List Bool,S.length=s.length/\∃ j,(xvL S w).getD j 0≠0
 | [],_,_,h=>by simp at h
 | false::s,w,h,_=>⟨true::s,rfl,0,h⟩
 | true::s,w,h,hc=>by
  obtain ⟨S,h1,j,hj⟩:=zsv s (λt=>w (true::t)) h (by simpa using hc);refine ⟨true::S,by simp [h1],j+1,?_⟩;show ((xvL S λt=>w (true::t)).map λx => -x).getD j 0≠0;rw [Zaa] at hj ⊢;rw [Zgw];cases e:(xvL S λt=>w (true::t))[j]? with
  | none=>rw [e] at hj;exact absurd rfl hj
  | some y=>rw [e] at hj;show -y≠0;have:y≠0:=hj;omega
def oneF:List Bool->Int
 | []=>1
 | false::s=>oneF s
 | true::_=>0
theorem zmd:∀ n,ipf n oneF oneF=1
 | 0=>rfl
 | n+1=>by
  show ipf n oneF oneF+ipf n (λ_=>0) (λ_=>0)=1;rw [zmd n,zch];rfl
theorem zme:∀ n,oneF (List.replicate n false)≠0
 | 0=>by decide
 | n+1=>by rw [Zex];exact zme n
theorem zmf:∀ s,oneF s≠0->s.count true<=0
 | [],_=>by simp
 | false::s,h=>by simpa using zmf s h
 | true::_,h=>absurd rfl h
theorem zky {n:Nat} {B:Int} (hB:1<=B):∀ L:List (List Int),(∀ a∈L,a.length=n/\sZ a<=B)->∃ w:List Bool->Int,(∃ s:List Bool,s.length=n/\w s≠0)/\(∀ s:List Bool,s.length=n->w s≠0->s.count true<=L.length)/\ipf n w w<=B ^ L.length/\∀ a∈L,∀ s:List Bool,s.length=n->wdg a w s=0
 | [],_=>⟨oneF,⟨_,Zaz,zme n⟩,λs _ h=>zmf s h,by rw [zmd];simp,by simp⟩
 | a::L,h=>by
  obtain ⟨w,⟨s0,hs0,hw0⟩,hd,hi,hk⟩:=zky hB L λb hb=>h b (Zam _ hb);obtain ⟨hal,haB⟩:=h a (Zai ..);have hp:(0:Int)<=B ^ L.length:=Zfl (by omega);have hpow:B ^ (L.length+1)=B*B ^ L.length:=by rw [Int.pow_succ,Int.mul_comm]
  by_cases c:∀ s:List Bool,s.length=n->wdg a w s=0
  .refine ⟨w,⟨s0,hs0,hw0⟩,λs hs e=>Zgt (hd s hs e),?_,λb hb => ?_⟩
   .rw [Zbc,hpow];have:=Zck hB hp;omega
   .rcases Zaq.1 hb with rfl | hb
    .exact c
    .exact hk b hb
  .obtain ⟨s1,h1,hw1⟩:∃ s:List Bool,s.length=n/\wdg a w s≠0:=by
    refine Classical.byContradiction λe=>c λs hs=>Classical.byContradiction λq=>e ⟨s,hs,q⟩
   refine ⟨wdg a w,⟨s1,h1,hw1⟩,λs hs e => ?_,?_,λb hb s hs => ?_⟩
   .obtain ⟨t,t1,t2,t3⟩:=fU a w s e;have:=hd t (by rw [t1];exact hs) t2;rw [Zbc];omega
   .rw [Zbc,hpow];have e1:=zst a w;rw [hal] at e1;have e2:=Zck haB (xC n w);have e3:=Zdo hi (show (0:Int)<=B by omega);omega
   .rcases Zaq.1 hb with rfl | hb
    .have:=xR b b w s rfl;omega
    .rw [xR b a w s (by rw [(h b (Zam _ hb)).1,hal]),dM a _ s λt ht=>hk b hb t (by rw [ht];exact hs)]
     rfl
theorem hada {n:Nat} {B:Int} (hB:1<=B) (L:List (List Int)) (h:∀ a∈L,a.length=n/\sZ a<=B) (hn:L.length<n):∃ x:List Int,x.length=n/\(∃ j,x.getD j 0≠0)/\sZ x<=B ^ L.length/\∀ a∈L,dtI a x=0:=by
 obtain ⟨w,⟨s,hs,hw⟩,hd,hi,hk⟩:=zky hB L h;obtain ⟨S,hS,hj⟩:=zsv s w hw (by have:=hd s hs hw;omega);have hSn:S.length=n:=by rw [hS,hs]
 refine ⟨xvL S w,by rw [fT];exact hSn,hj,?_,λa ha => ?_⟩
 .have:=zmc S w;rw [hSn] at this;omega
 .rw [<- zf4 a w S (by rw [hSn,(h a ha).1])];exact hk a ha S hSn
def sI:Nat->(Nat->Int)->Int
 | 0,_=>0
 | k+1,F=>sI k F+F k
theorem zis {F G:Nat->Int}:∀ {k:Nat},(∀ j,j<k->F j=G j)->sI k F=sI k G
 | 0,_=>rfl
 | k+1,h=>by rw [sI,sI,zis (k:=k) λj hj=>h j (by omega),h k (by omega)]
theorem zcj (x y:Int):∀ a b:List Int,a.length=b.length->dtI (a++[x]) (b++[y])=dtI a b+x*y
 | [],[],_=>by simp only [Zbf,dtI];omega
 | u::a,v::b,h=>by
  rw [Zbs,Zbs,dtI,dtI,zcj x y a b (by simpa using h)];omega
 | [],_::_,h=>by simp at h
 | _::_,[],h=>by simp at h
theorem bR (f g:Nat->Int):∀ k,dtI ((List.range k).map f) ((List.range k).map g)=sI k λj=>f j*g j
 | 0=>rfl
 | k+1=>by
  rw [Zga,Zbi,Zbi];show dtI (_++[f k]) (_++[g k])=_;rw [zcj _ _ _ _ (by simp),bR f g k,sI]
theorem zsw:∀ l:List Int,(∀ x∈l,x = -1\/x=0\/x=1)->sZ l<=(l.length:Int)
 | [],_=>Zgl _
 | x::l,h=>by
  have:=zsw l λy hy=>h y (Zam _ hy);rw [sZ,Zbc];rcases h x (Zai ..) with rfl | rfl | rfl <;> omega
theorem zmg:∀ l:List Int,0<=sZ l
 | []=>Zgl _
 | x::l=>Int.add_nonneg (zl9 x) (zmg l)
theorem zf5:∀ (l:List Int) (j:Nat),l.getD j 0*l.getD j 0<=sZ l
 | [],_=>Zgl _
 | x::l,0=>by
  have:=zmg l;show x*x<=x*x+sZ l;omega
 | x::l,j+1=>by
  have:=zf5 l j;have:=zl9 x;show l.getD j 0*l.getD j 0<=x*x+sZ l;omega
def HB:Nat:=861979
theorem zvu (r:Nat) (hr:r<=11) (a:Nat->Nat->Int) (ha:∀ i j,a i j = -1\/a i j=0\/a i j=1):∃ x:Nat->Int,(∃ j,j<=r/\x j≠0)/\(∀ j,(x j).natAbs<=HB)/\∀ i,i<r->sI (r+1) (λj=>a i j*x j)=0:=by
 obtain ⟨x,hx,⟨j,hj⟩,hs,hk⟩:=hada (n:=r+1) (B:=((r+1:Nat):Int)) (by omega) ((List.range r).map λi=>(List.range (r+1)).map (a i)) (λb hb=>by
  obtain ⟨i,_,rfl⟩:=Zao.1 hb;refine ⟨by simp,?_⟩;have:=zsw ((List.range (r+1)).map (a i)) λy hy=>by
   obtain ⟨j,_,rfl⟩:=Zao.1 hy;exact ha i j
  simpa using this) (by simp)
 have hxe:x=(List.range (r+1)).map λj=>x.getD j 0:=by
  refine Zef (by simp [hx]) λi h1 h2 => ?_;simp [Zaa,h1]
 refine ⟨λj=>x.getD j 0,⟨j,?_,hj⟩,λj => ?_,λi hi => ?_⟩
 .refine Classical.byContradiction λc=>hj ?_;rw [Zaa,Zgz (by omega)];rfl
 .have h1:=zf5 x j;rw [Zae,Zdf] at hs;have h2:(r+1) ^ r<=12 ^ 11:=Zbe (Nat.pow_le_pow_left (show r+1<=12 by omega) r) (Zec (by decide) hr);have h3:(((r+1:Nat):Int)) ^ r=(((r+1) ^ r:Nat):Int):=by simp
  rw [h3] at hs;have h4:(12:Nat) ^ 11=743008370688:=by decide
  rw [h4] at h2;show (x.getD j 0).natAbs<=861979;refine Zfs λc => ?_;have h5:=Zbl (show 861980<=(x.getD j 0).natAbs from c) (show 861980<=(x.getD j 0).natAbs from c);have h6:=Zgg (a:=x.getD j 0);omega
 .have:=hk _ (Zao.2 ⟨i,Zay.2 hi,rfl⟩);rw [hxe,bR] at this;exact this
def sR:Nat->(Nat->Rat)->Rat
 | 0,_=>0
 | k+1,F=>sR k F+F k
theorem jF {F G:Nat->Rat}:∀ {k:Nat},(∀ j,j<k->F j=G j)->sR k F=sR k G
 | 0,_=>rfl
 | k+1,h=>by rw [sR,sR,jF (k:=k) λj hj=>h j (by omega),h k (by omega)]
theorem zf6 (F:Nat->Int):∀ k,sR k (λj=>(F j:Rat))=((sI k F:Int):Rat)
 | 0=>rfl
 | k+1=>by rw [sR,sI,zf6 F k,Rat.intCast_add]
theorem zf7 (x:Nat->Rat) (i:Nat):∀ k,sR k (λb=>(if i=b then 1 else 0)*x b)=if i<k then x i else 0
 | 0=>by rw [if_neg (by omega)];rfl
 | k+1=>by
  rw [sR,zf7 x i k];by_cases e:i=k
  .subst e;rw [if_neg (by omega),if_pos rfl,if_pos (by omega)];grind
  .rw [if_neg e];by_cases c:i<k
   .rw [if_pos c,if_pos (by omega)];grind
   .rw [if_neg c,if_neg (by omega)];grind
theorem zit (y:Rat):∀ (o f:List Rat) (c:Nat),o.length=f.length->c<f.length->dot o (f.set c (at' f c+y))=dot o f+at' o c*y
 | [],[],c,_,h=>by simp at h
 | a::o,b::f,0,_,_=>by
  show dot (a::o) ((b+y)::f)=dot (a::o) (b::f)+a*y;rw [dot,dot];grind
 | a::o,b::f,c+1,h,hc=>by
  have ih:=zit y o f c (by simpa using h) (by simpa using hc);show dot (a::o) (b::f.set c (at' f c+y))=dot (a::o) (b::f)+at' o c*y;rw [dot,dot,ih];grind
 | [],_::_,_,h,_=>by simp at h
 | _::_,[],_,h,_=>by simp at h
theorem zck:∀ (o:List Rat) (n:Nat),dot o (List.replicate n 0)=0
 | [],_=>by cases ‹Nat› <;> rfl
 | a::o,0=>rfl
 | a::o,n+1=>by rw [Zex,dot,zck o n];grind
def plF (n:Nat) (c:Nat->Nat) (x:Nat->Rat):Nat->List Rat
 | 0=>List.replicate n 0
 | k+1=>(plF n c x k).set (c k) (at' (plF n c x k) (c k)+x k)
theorem qT {n:Nat} {c:Nat->Nat} {x:Nat->Rat}:∀ k,(plF n c x k).length=n
 | 0=>Zaz
 | k+1=>by rw [plF,Zat];exact qT k
theorem vW {n:Nat} {c:Nat->Nat} {x:Nat->Rat} {o:List Rat} (ho:o.length=n):∀ k,(∀ i,i<k->c i<n)->dot o (plF n c x k)=sR k λi=>at' o (c i)*x i
 | 0,_=>zck ..
 | k+1,h=>by rw [plF,zit _ _ _ _ (by rw [qT];exact ho) (by rw [qT];exact h k (by omega)),vW ho k λi hi=>h i (by omega),sR]
structure Sv (n:Nat) (O Q:List (List Rat)) (ps:List Nat):Prop where
 len:ps.length=Q.length
 olen:O.length=Q.length
 row:∀ q∈Q,q.length=n
 orow:∀ o∈O,o.length=n
 osg:∀ o∈O,∀ j,Sg (at' o j)
 rng:∀ p∈ps,p<n
 one:∀ a b,a<Q.length->b<Q.length->at' (Q.getD a []) (ps.getD b 0)=if a=b then 1 else 0
 ker:∀ f:List Rat,f.length=n->(∀ o∈O,dot o f=0)->∀ q∈Q,dot q f=0
 tri:∀ a,a<Q.length->∀ b,ps.getD a 0<b->at' (Q.getD a []) b=0
theorem Sv.nil (n:Nat):Sv n [] [] []:=⟨rfl,rfl,by simp,by simp,by simp,by simp,λa b h=>by simp at h,by simp,λa h=>by simp at h⟩
def sgI (q:Rat):Int:=if q = -1 then -1 else if q=1 then 1 else 0
theorem Sg.int {q:Rat} (h:Sg q):(sgI q:Rat)=q:=by
 unfold sgI;rcases h with rfl | rfl | rfl
 .rw [if_pos rfl];rfl
 .rw [if_neg (by decide),if_neg (by decide)];rfl
 .rw [if_neg (by decide),if_pos rfl];rfl
theorem qae (q:Rat):sgI q = -1\/sgI q=0\/sgI q=1:=by
 unfold sgI;split
 .exact .inl rfl
 .split
  .exact .inr (.inr rfl)
  .exact .inr (.inl rfl)
theorem Sv.col {n:Nat} {O Q:List (List Rat)} {ps:List Nat} (h:Sv n O Q ps) (hQ:Q.length<=11) (j:Nat):∃ t,1<=t/\t<=HB/\∀ q∈Q,Dn t (HB) (at' q j):=by
 rcases Zdv j n with hj | hj
 case inr =>
  refine ⟨1,Zaf _,(by decide:1<=HB),λq hq => ?_⟩;rw [gG (by rw [h.row q hq];exact hj)];exact Dn.zero _ _
 obtain ⟨c,hc⟩:∃ c:Nat->Nat,c=λi=>if i<Q.length then ps.getD i 0 else j:=⟨_,rfl⟩
 obtain ⟨x,⟨b,hb,hb0⟩,hx,hz⟩:=zvu Q.length hQ (λi k=>sgI (at' (O.getD i []) (c k))) λi k=>qae _;have hcn:∀ i,i<Q.length+1->c i<n:=λi _=>by
  rw [hc];show (if i<Q.length then ps.getD i 0 else j)<n;by_cases q:i<Q.length
  .rw [if_pos q];exact h.rng _ (yI (by rw [h.len];exact q))
  .rw [if_neg q];exact hj
 have hk:=h.ker (plF n c (λi=>(x i:Rat)) (Q.length+1)) (qT _) λo ho=>by
  obtain ⟨i,hi⟩:=Zau.1 ho;have hil:=(Zgv.1 hi).1;have hio:O.getD i []=o:=by rw [Zaa,hi];rfl
  rw [vW (h.orow o ho) _ hcn];have:=hz i (by rw [<- h.olen];exact hil);rw [show (0:Rat)=((0:Int):Rat) from rfl,<- this,<- zf6];refine jF λk _ => ?_;rw [hio,Zge,(h.osg o ho _).int]
 have hrow:∀ i,i<Q.length->(x i:Rat)+at' (Q.getD i []) j*(x Q.length:Rat)=0:=λi hi=>by
  have hm:=yI (l:=Q) (d:=[]) hi;have e:=hk _ hm;rw [vW (h.row _ hm) _ hcn,sR] at e;have e2:sR Q.length (λk=>at' (Q.getD i []) (c k)*(x k:Rat))=(x i:Rat):=by
   rw [jF (G:=λb=>(if i=b then 1 else 0)*(x b:Rat)) λk hk => ?_,zf7 (λb=>(x b:Rat)),if_pos hi];have:c k=ps.getD k 0:=by rw [hc];exact if_pos hk
   rw [this,h.one i k hi hk]
  rw [e2,show c Q.length=j by rw [hc];exact if_neg (Zct _)] at e;exact e
 have hxr:x Q.length≠0:=λe=>by
  rcases Zdv b Q.length with q | q
  .have:=hrow b q;rw [e,show ((0:Int):Rat)=0 from rfl,Zbo,Rat.add_zero] at this;exact c9 hb0 this
  .obtain rfl:b=Q.length:=by omega
   exact hb0 e
 refine ⟨(x Q.length).natAbs,by omega,hx _,λq hq => ?_⟩;obtain ⟨i,hi⟩:=Zau.1 hq;have hil:=(Zgv.1 hi).1;have hqi:Q.getD i []=q:=by rw [Zaa,hi];rfl
 have e:=hrow i hil;rw [hqi] at e;by_cases s:0<x Q.length
 .refine ⟨-x i,?_,by rw [Zed];exact hx i⟩;rw [show (((x Q.length).natAbs:Nat):Int)=x Q.length by omega,Zcz];grind
 .refine ⟨x i,?_,hx i⟩;rw [show (((x Q.length).natAbs:Nat):Int) = -x Q.length by omega,Zcz];grind
theorem Sv.den {n:Nat} {O Q:List (List Rat)} {ps:List Nat} (h:Sv n O Q ps) (hQ:Q.length<=11):∃ t:Nat->Nat,(∀ j,1<=t j/\t j<=HB)/\∀ q∈Q,∀ j,Dn (t j) (HB) (at' q j) :=
 ⟨λj=>Classical.choose (h.col hQ j),λj=>⟨(Classical.choose_spec (h.col hQ j)).1,(Classical.choose_spec (h.col hQ j)).2.1⟩,λq hq j=>(Classical.choose_spec (h.col hQ j)).2.2 q hq⟩
structure Rvq (n:Nat) (t:Nat->Nat) (M:Nat) (Q:List (List Rat)) (ps:List Nat) (r0:List Rat) (k:Nat) (r:List Rat):Prop where
 eq:r=redF ((oM Q ps).take k) r0
 len:r.length=n
 den:∀ j,Dn (t j) (M+k*M) (at' r j)
 late:∀ b,k<=b->b<Q.length->at' r (ps.getD b 0)=at' r0 (ps.getD b 0)
 done:∀ b,b<k->b<Q.length->at' r (ps.getD b 0)=0
theorem Rvq.zero {n M:Nat} {t:Nat->Nat} {Q:List (List Rat)} {ps:List Nat} {r0:List Rat} (ht:∀ j,t j<=M) (hl:r0.length=n) (hs:∀ j,Sg (at' r0 j)):Rvq n t M Q ps r0 0 r0 :=
 ⟨rfl,hl,λj=>(hs j).dn (by have:=ht j;omega),λb _ _=>rfl,λb h=>by omega⟩
theorem Rvq.next {n M k:Nat} {t:Nat->Nat} {O Q:List (List Rat)} {ps:List Nat} {r0 r:List Rat} (hS:Sv n O Q ps) (hd:∀ q∈Q,∀ j,Dn (t j) M (at' q j)) (hs:∀ j,Sg (at' r0 j)) (h:Rvq n t M Q ps r0 k r) (hk:k<Q.length):Rvq n t M Q ps r0 (k+1) (jZ (at' r (ps.getD k 0)) r (Q.getD k [])):=by
 have hq:=yI (d:=[]) hk;have hql:=hS.row _ hq;have hll:r.length=(Q.getD k []).length:=by rw [h.len,hql]
 have hb:Sg (at' r (ps.getD k 0)):=by rw [h.late k (Zaf _) hk];exact hs _
 refine ⟨by rw [cG hS.len hk,zeb,<- h.eq],by rw [gY hll];exact h.len,λj => ?_,λb h1 h2 => ?_,λb h1 h2 => ?_⟩
 .rw [uH hll];have:=(h.den j).sub (hb.mul (hd _ hq j));exact this.mono (by rw [Zbu];omega)
 .rw [uH hll,hS.one k b hk h2,if_neg (by omega),Zbo,h.late b (by omega) h2];grind
 .rw [uH hll,hS.one k b hk h2];by_cases e:b=k
  .subst e;rw [if_pos rfl,Rat.mul_one];grind
  .rw [if_neg (by omega),Zbo,h.done b (by omega) h2];grind
theorem zvv {t N:Nat} {v:Rat} (ht:1<=t) (hv:v≠0) (h:Dn t N v):∃ z:Nat,1<=z/\z<=N/\Dn z t v⁻¹/\∀ {s R:Nat} {x:Rat},Dn s R x->Dn (s*z) (R*t) (x*v⁻¹):=by
 obtain ⟨z,h1,h2,h3,_⟩:=qad ht hv h;exact ⟨z,h1,h2,h3,λhx=>hx.mul h3⟩
structure Nv (n:Nat) (Q:List (List Rat)) (ps:List Nat) (p:Nat) (r:List Rat):Prop where
 len:r.length=n
 one:at' r p=1
 out:∀ b,b<Q.length->at' r (ps.getD b 0)=0
 p1:p<n
 tri:∀ b,p<b->at' r b=0
theorem Sv.next {n p:Nat} {O Q:List (List Rat)} {ps:List Nat} {r r0:List Rat} (hS:Sv n O Q ps) (h:Nv n Q ps p r) (hl0:r0.length=n) (hs0:∀ j,Sg (at' r0 j)) (hk:∀ f:List Rat,f.length=n->(∀ q∈Q,dot q f=0)->dot r0 f=0->dot r f=0):Sv n (O++[r0]) (qI Q p r++[r]) (ps++[p]):=by
 have hnl:(qI Q p r).length=Q.length:=by unfold qI;rw [Zae]
 refine ⟨by rw [Zag,Zag,hnl,hS.len];rfl,by rw [Zag,Zag,hnl,hS.olen];rfl,λq hq => ?_,λo ho => ?_,λo ho => ?_,λx hx => ?_,λa b ha hb => ?_,λf hf ho q hq => ?_,λa ha b hb => ?_⟩
 .rcases Zbb.1 hq with hq | hq
  .obtain ⟨o,ho,rfl⟩:=Zao.1 hq;rw [gY (by rw [hS.row o ho,h.len])];exact hS.row o ho
  .obtain rfl:=Zba.1 hq;exact h.len
 .rcases Zbb.1 ho with ho | ho
  .exact hS.orow o ho
  .obtain rfl:=Zba.1 ho;exact hl0
 .rcases Zbb.1 ho with ho | ho
  .exact hS.osg o ho
  .obtain rfl:=Zba.1 ho;exact hs0
 .rcases Zbb.1 hx with hx | hx
  .exact hS.rng x hx
  .obtain rfl:=Zba.1 hx;exact h.p1
 .rw [Zag,hnl,Zbw] at ha hb;have eb:(ps++[p]).getD b 0=if b<Q.length then ps.getD b 0 else p:=by
   by_cases c:b<Q.length
   .rw [if_pos c,Zaa,Zha (by rw [hS.len];exact c),<- Zaa]
   .rw [if_neg c,Zaa,Zgx (by rw [hS.len];omega),hS.len,show b-Q.length=0 by omega];rfl
  have ea:(qI Q p r++[r]).getD a []=if a<Q.length then jZ (at' (Q.getD a []) p) (Q.getD a []) r else r:=by
   by_cases c:a<Q.length
   .rw [if_pos c,Zaa,Zha (by rw [hnl];exact c),qI,Zgw,uA (d:=[]) c];rfl
   .rw [if_neg c,Zaa,Zgx (by rw [hnl];omega),hnl,show a-Q.length=0 by omega];rfl
  rw [ea,eb];by_cases c1:a<Q.length
  .have hl:(Q.getD a []).length=r.length:=by rw [hS.row _ (yI c1),h.len]
   rw [if_pos c1,uH hl];by_cases c2:b<Q.length
   .rw [if_pos c2,h.out b c2,hS.one a b c1 c2,Zbo];grind
   .rw [if_neg c2,h.one,if_neg (by omega)];grind
  .rw [if_neg c1];by_cases c2:b<Q.length
   .rw [if_pos c2,h.out b c2,if_neg (by omega)]
   .rw [if_neg c2,h.one,if_pos (by omega)]
 .have hQ:=hS.ker f hf λo h1=>ho o (Zcr _ h1);have hr:=hk f hf hQ (ho r0 (by simp));rcases Zbb.1 hq with hq | hq
  .obtain ⟨o,h1,rfl⟩:=Zao.1 hq;rw [gZ _ _ _ _ (by rw [hS.row o h1,h.len]),hQ o h1,hr,Zbo];grind
  .obtain rfl:=Zba.1 hq;exact hr
 .rw [Zag,hnl,Zbw] at ha;by_cases c1:a<Q.length
  .have eb:(ps++[p]).getD a 0=ps.getD a 0:=by
    rw [Zaa,Zha (by rw [hS.len];exact c1),<- Zaa]
   have ea:(qI Q p r++[r]).getD a []=jZ (at' (Q.getD a []) p) (Q.getD a []) r:=by
    rw [Zaa,Zha (by rw [hnl];exact c1),qI,Zgw,uA (d:=[]) c1];rfl
   rw [eb] at hb;have hl:(Q.getD a []).length=r.length:=by rw [hS.row _ (yI c1),h.len]
   rw [ea,uH hl,hS.tri a c1 b hb];by_cases c2:p<b
   .rw [h.tri b c2,Zbo];grind
   .rw [hS.tri a c1 p (by omega),Zce];grind
  .obtain rfl:a=Q.length:=by omega
   have eb:(ps++[p]).getD Q.length 0=p:=by
    rw [Zaa,Zgx (by rw [hS.len];exact Zaf _),hS.len,Zcv];rfl
   have ea:(qI Q p r++[r]).getD Q.length []=r:=by
    rw [Zaa,Zgx (by rw [hnl];exact Zaf _),hnl,Zcv];rfl
   rw [eb] at hb;rw [ea];exact h.tri b hb
end Go.Ev
