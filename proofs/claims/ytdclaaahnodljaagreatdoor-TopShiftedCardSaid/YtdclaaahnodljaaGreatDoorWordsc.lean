import Derived.Test.YtdclaaahnodljaaGreatDoorWordsb
set_option linter.unusedSimpArgs false
set_option linter.unusedVariables false
namespace Go.Ev
open Go Go.Proofs
variable {B:Nat}
set_option maxRecDepth 100000
theorem zq2:∀ n<6,(shL n n).length=n*n:=by decide +kernel
theorem zxd:∀ n<6,1<=n->0<(rcL n).length/\(rcL n).length<=2000:=by decide +kernel
theorem zxe:((List.range 5).all fun n=>(rcL (n+1)).all fun s=>decide s.1.Nodup)=true:=by decide +kernel
theorem zq3:((List.range 5).all fun n=>(shL (n+1) (n+1)).all fun s=>decide s.1.Nodup&&decide (s.1.length=(n+1)*(n+1))&&s.1.all fun x=>decide (0<=x)&&decide (x<(((n+1)*(n+1):Nat):Int)))=true:=by decide +kernel
theorem zsm {r c:Int} {f:List Int} {z:Nat} (hj:∀ B,JOk Tryz.prog B qE) (hz:z<256) (haw:∀ {B},Pure Tryz.prog B 18 [] (· = .bool true)):Pure Tryz.prog B 5 [.agg [I r,I c,encI f],.int .u8 (z:Int)] (· = .bool true):=by
 refine yC fun h nx K H0 hK=>zM zP yh 100000 fun hf => ?_;have awk:∀ (h:T Blk) (nx:Pa) (Z:Kw Prop),Z (.bool true) h nx=.ok True->(CS Tryz.prog B).fn 18 (.of 18) [] h nx Z=.ok True:=fun h nx Z hZ=>haw _ _ _ _ fun v hv _=>by rw [hv];exact hZ
 have ret:∀ {h1 nx1 L},Hp h h1 nx1 L->K (.bool true) h1 nx1=.ok True:=fun H=>hK _ _ _ _ _ H (zK rfl) rfl;rw [F5.go,F5.t85,zA,F5.fG];refine H0.box (l:=[I r,I c,encI f]) rfl fun bx h1 nx1 H1 => ?_;have l0:∀ op:AV->OP,zB (.ptr bx (0+0)) h1 op=op (I r):=fun op=>H1.load (k:=0) (i:=0) rfl rfl;have l2:∀ op:AV->OP,zB (.ptr bx (0+2)) h1 op=op (encI f):=fun op=>H1.load (k:=0) (i:=2) rfl rfl;rw [F5.t84,zA,F5.t5,zA,F5.fK,F5.r1_0,F5.zar,H1.zk (k:=0) (n:=3) rfl rfl];refine ztc _ _ _ _ ?_;rintro _ rfl _;rw [F5.oK,F5.sN];by_cases ce:jQ r c f=0
 case neg =>
  simp only [qm,ce,decide_false,Zah,yQ,zV];rw [F5.aV,F5.rY];simp only [yQ,zul];rw [F5.aU,F5.rZ];simp only [yQ,zV];rw [F5.t4,zR,F5.v31,zD,F5.t3,zA,F5.rE];refine awk _ _ _ ?_;simp only [yA,yP];rw [F5.ret];exact ret H1
 obtain ⟨rfl,hr1,hr16,hlen⟩:=zq1 ce;obtain ⟨n,rfl⟩:=Int.eq_ofNat_of_zero_le (show 0<=r by omega);simp only [qm,ce,decide_true,Zaf,yL,sFx,l0,xk,zT];by_cases c5:(5:Int)<(n:Int)
 ·simp only [c5,decide_true,yQ];rw [F5.aV,F5.rY];simp only [yQ,zul];rw [F5.aU,F5.rZ];simp only [yQ,zV];rw [F5.t4,zR,F5.v31,zD,F5.t3,zA,F5.rE];refine awk _ _ _ ?_;simp only [yA,yP];rw [F5.ret];exact ret H1
 have h1n:1<=n:=by omega
 have h5n:n<=5:=by omega
 have hfl:f.length=n*n:=by
  have:((f.length:Nat):Int)=((n*n:Nat):Int):=by rw [hlen];simp
  omega
 have h25:n*n<=25:=Zba h5n h5n;have h01:1<=n*n:=Zba h1n h1n;simp only [c5,decide_false,yL];rw [F5.aV,F5.rY];simp only [yL,l2,zf3];refine zw9 (by omega) _ _ _ _ ?_;rintro _ rfl _;rw [F5.aU,F5.rZ];simp only [yL,qm,zT];by_cases cf:wN f=0
 case neg =>
  simp only [cf,decide_false,Zah];rw [F5.t4,zR,F5.v31,zD,F5.t3,zA,F5.rE];refine awk _ _ _ ?_;simp only [yA,yP];rw [F5.ret];exact ret H1
 simp only [cf,decide_true,Zaf];rw [F5.t4,zR,F5.v31,zE,yB,F5.t83,zA,F5.tY,sFx,l0,F5.t82,zA,F5.t7_s];refine zqo h1n (by omega) zi8 (zqr n) (zq2 n (by omega)) _ _ _ _ ?_;rintro _ ⟨S,hSp,_,rfl⟩ _;have hSl:S.length=n*n:=by rw [hSp.length_eq];exact zq2 n (by omega)
 obtain ⟨rc0,rc1⟩:=zxd n (by omega) h1n;rw [jA,jB,F5.t81,zA,F5.oL];refine zqq h1n (by omega) (zqw h1n (by omega)) zqu ⟨rc0,rc1⟩ _ _ _ _ ?_;rintro _ ⟨M,hMp,_,rfl⟩ _;have hMl:M.length=(rcL n).length:=hMp.length_eq;have kin:∀ g:List Int,g.length=n*n->jQ n n g=0->∀ {B},Pure Tryz.prog B 20 [.agg [I (n:Int),I (n:Int),encI g]] (· = .tup [zfz (kinR n g),I 0]):=fun g hg he {B}=>by
  have:=zjz (B:=B) (r:=(n:Int)) (f:=g) hj (fun m h1 h2=>zuh h1 (by omega)) (by omega) (by omega) he
  rwa [Int.toNat_natCast] at this
 rw [jA,jB,F5.t80,zA,F5.ak,H1.zk (k:=0) (n:=3) rfl rfl];refine kin f hfl ce _ _ _ _ ?_;rintro _ rfl _;rw [jA,jB,F5.t79,zA,F5.t14,zA,F5.tq,F5.r7_0,F5.zu3,jf (by omega),jf (by omega),qm,decide_eq_true (by decide),Zaf];have lS:∀ op:AV->OP,sLen (fB S) op=op (I ((n*n:Nat):Int)):=fun op=>by rw [<- hSl];rfl
 have lM:∀ op:AV->OP,sLen (fB M) op=op (I (M.length:Int)):=fun op=>rfl;have hmul:(n:Int)*(n:Int)=((n*n:Nat):Int):=by simp
 have mu:∀ op:AV->OP,zf .mul .int (I (n:Int)) (I (n:Int)) op=op (I ((n*n:Nat):Int)):=fun op=>by rw [rV (by rw [hmul];omega),hmul]
 simp only [yL];rw [F5.r7_1,F5.zu4];simp only [yL,lS,mu,qm,decide_true,Zaf,zT];rw [F5.r7_2,F5.zu5];simp only [yL,lM,fQ,zT];rw [decide_eq_false (by omega),F5.t13,zR,F5.v32,zE,yB,F5.t78,zA,F5.zas,show (true&&(true&&true))=true from rfl,jE];have a1:=Nat.mod_lt z (show 0<S.length by omega);have a2:=Nat.mod_lt z (show 0<M.length by omega);have rS:∀ op:AV->OP,zf .rem .int (I (z:Int)) (I ((n*n:Nat):Int)) op=op (I ((z%S.length:Nat):Int)):=fun op=>by rw [<- hSl];exact zux (by omega)
 have rM:∀ op:AV->OP,zf .rem .int (I (z:Int)) (I (M.length:Int)) op=op (I ((z%M.length:Nat):Int)):=fun op=>zux (by omega)
 generalize z%S.length=iS at a1 rS
 generalize z%M.length=iM at a2 rM
 have cz:∀ op:AV->OP,kL .i64 (.int .u8 (z:Int)) op=op (I (z:Int)):=fun op=>ztp (by omega);have xS:∀ op:AV->OP,zS 2 (fB S) (I (iS:Int)) op=op (.fp (encI S[iS].1::.bool S[iS].2::(yY S).drop ((iS+1)*2))):=fun op=>(cZ (i:=iS) rfl a1).trans (congrArg (fun x=>op (.fp x)) (uZ a1));have xM:∀ op:AV->OP,zS 2 (fB M) (I (iM:Int)) op=op (.fp (encI M[iM].1::.bool M[iM].2::(yY M).drop ((iM+1)*2))):=fun op=>(cZ (i:=iM) rfl a2).trans (congrArg (fun x=>op (.fp x)) (uZ a2));have mS:S[iS]∈shL n n:=hSp.mem_iff.1 (Zal a1);have mM:M[iM]∈rcL n:=hMp.mem_iff.1 (Zal a2)
 generalize S[iS]=s at xS mS
 generalize M[iM]=m at xM mM
 have en:n-1+1=n:=by omega
 have VS:Moved n [0,2] s f:=by
  have q1:=List.all_eq_true.1 (List.all_eq_true.1 zg7 (n-1) (List.mem_range.2 (by omega))) s (by rw [en];exact mS);have q2:=List.all_eq_true.1 (List.all_eq_true.1 zq3 (n-1) (List.mem_range.2 (by omega))) s (by rw [en];exact mS);rw [en] at q1 q2;simp only [Zad,decide_eq_true_eq,Zae] at q2;exact moved h1n h5n (by decide) q1 ⟨q2.1.2,q2.2⟩ q2.1.1 hfl cf ce
 have VM:Moved n [0,1] m f:=by
  have q1:=List.all_eq_true.1 (List.all_eq_true.1 zmk (n-1) (List.mem_range.2 (by omega))) m (by rw [en];exact mM);have q2:=List.all_eq_true.1 (List.all_eq_true.1 zxe (n-1) (List.mem_range.2 (by omega))) m (by rw [en];exact mM);rw [en] at q1;exact moved h1n h5n (by decide) q1 (zqu m mM) (of_decide_eq_true q2) hfl cf ce
 simp only [cz,lS,lM,rS,rM,xS,xM,zqz];refine H1.alloc fun sa h2 nx2 H2 => ?_;simp only [cz,lS,lM,rS,rM,xS,xM,zqz,zC];refine H2.alloc fun ma h3 nx3 H3 => ?_;refine H3.qo (l2:=[encI s.1,.bool s.2]) (k:=1) rfl rfl rfl fun h4 H4 => ?_;refine H4.qo (l2:=[encI m.1,.bool m.2]) (k:=0) rfl rfl rfl fun h5 H5 => ?_;simp only [List.set_cons_zero,List.set_cons_succ] at H5;have hsl:s.1.length<=100000:=by
  have q2:=List.all_eq_true.1 (List.all_eq_true.1 zq3 (n-1) (List.mem_range.2 (by omega))) s (by rw [en];exact mS);rw [en] at q2;simp only [Zad,decide_eq_true_eq] at q2;have:=q2.1.2;omega
 have hml:m.1.length<=100000:=by have:=(zqu m mM).1;omega
 rw [F5.t77,zA,F5.zae,H5.zk (k:=1) (n:=2) rfl rfl,sFx,H5.load (k:=2) (i:=2) rfl rfl];refine zg2 (a:=s) hsl (by omega) _ _ _ _ ?_;rintro _ rfl _;rw [VS.app,jA,jB,F5.t76,zA,F5.eU,H5.zk (k:=0) (n:=2) rfl rfl,sFx,H5.load (k:=2) (i:=2) rfl rfl];refine zg2 (a:=m) hml (by omega) _ _ _ _ ?_;rintro _ rfl _;rw [VM.app,jA,jB,F5.t75,zA,F5.zxl,zg8];refine kin _ VS.len VS.err _ _ _ _ ?_;rintro _ rfl _;rw [jA,jB,F5.t74,zA,F5.zmv,zg8];refine kin _ VM.len VM.err _ _ _ _ ?_;rintro _ rfl _;have cS:=VS.cst;have cM:=VM.cst;have kS:=VS.kp;have kM:=VM.kp
 clear VS VM
 generalize jH false s.1 f=fs at cS
 generalize jH false m.1 f=fm at cM
 rw [jA,jB,F5.t73,zA,F5.t24,zA,F5.ze1,jf (by omega),jf (by omega),jf (by omega),qm,decide_eq_true (by decide),Zaf,F5.t23,zR,F5.v33,zE,yB,F5.t72,zA,F5.t46,zA,F5.zxm];refine H5.yc (l:=[.str (jG 0),.str (jG 2)]) rfl fun tb h6 nx6 H6 => ?_;rw [yX,F5.t45,yI];refine F5.zxs (fun m' x36 h' nx'=>∃ i:Nat,x36=I i/\m'=2-i/\i<=2/\Hp h h' nx' (.arr tb [.str (jG 0),.str (jG 2)]::[.arr ma [encI m.1,.bool m.2],.arr sa [encI s.1,.bool s.2],.arr bx [I (n:Int),I (n:Int),encI f]])) (m:=2) (by omega) ⟨0,rfl,by omega,by omega,H6⟩ ?_;rintro m' z3 z21 z22 z23 z24 z25 z36 z37 z38 h7 nx7 R ⟨i,rfl,rfl,hi,H7⟩ hR;rw [F5.t43,zA,F5.zxn,jk];by_cases hlt:i<2
 case pos =>
  obtain ⟨k,hk,hk3,hg⟩:∃ k:Nat,k∈[0,2]/\k<3/\([.str (jG 0),.str (jG 2)]:List AV)[i]? = some (.str (jG k)):=by
   match i,hlt with
   | 0,_=>exact ⟨0,by decide,by decide,rfl⟩
   | 1,_=>exact ⟨2,by decide,by decide,rfl⟩
  obtain ⟨sy,l5⟩:=zck h1n h5n hk3;rw [decide_eq_true (by omega),F5.t42,zA,F5.t27,zR,F5.v37,zD,yB,F5.t41,zA,F5.t39,yI,F5.t38,zA,F5.zxo,sIx rfl hlt,H7.load (k:=0) rfl hg,F5.t37,zA,F5.zmr];refine zb1 h1n (by omega) hk3 _ _ _ _ ?_;rintro _ rfl _;rw [sqVZ,jA,jB];refine H7.alloc fun ya h8 nx8 H8 => ?_;refine H8.qo (l2:=[I ((n*n:Nat):Int),pz (sqL k n)]) (k:=0) rfl rfl rfl fun h9 H9 => ?_;rw [F5.t36,zA,F5.zxp,H9.zk (k:=0) (n:=2) rfl rfl,H9.zk (k:=3) (n:=2) rfl rfl];refine zkn (fun q hq=>by have:=l5 q hq;omega) hsl _ _ _ _ ?_;rintro _ rfl _;rw [kS k hk,jA,jB,F5.t35,zA,F5.zxq,F5.zmw,F5.zq4,jf (by omega),qm,decide_eq_true (by decide),Zaf];simp only [yL,yW,Zaf,zT];rw [F5.zts,F5.zq5];simp only [yL,zf3];refine zkt (kinL _ _) _ _ _ _ ?_;rintro _ rfl _;rw [F5.ztr,F5.zq6];simp only [yL,zf3];refine zkt (kinL _ _) _ _ _ _ ?_;rintro _ rfl _;rw [F5.ztq,F5.zq7];simp only [yL];rw [zew hk3,zew hk3,cS k hk,zq0,bne_self_eq_false,zT,F5.t34,zR,F5.v38,zE,yB,F5.zxr,jf (by omega)];exact hR (2-(i+1)) _ _ _ _ _ _ _ _ _ _ _ (by omega) ⟨i+1,rfl,rfl,by omega,H9.drop⟩
 obtain rfl:i=2:=by omega
 rw [decide_eq_false (by omega),F5.t42,zA,F5.t27,zR,F5.v37,zE,jP,uD,F5.t71,zA,F5.t68,zA,F5.zxt]
 clear hR
 refine H7.drop.yc (l:=[.str (jG 0),.str (jG 1)]) rfl fun tb2 h6 nx6 H6 => ?_;rw [yX,F5.t67,yI];refine F5.zx0 (fun m' x41 h' nx'=>∃ i:Nat,x41=I i/\m'=2-i/\i<=2/\Hp h h' nx' (.arr tb2 [.str (jG 0),.str (jG 1)]::[.arr ma [encI m.1,.bool m.2],.arr sa [encI s.1,.bool s.2],.arr bx [I (n:Int),I (n:Int),encI f]])) (m:=2) (by omega) ⟨0,rfl,by omega,by omega,H6⟩ ?_;rintro m' z3 z26 z27 z28 z29 z30 z41 z42 z43 h7 nx7 R ⟨i,rfl,rfl,hi,H7⟩ hR;rw [F5.t65,zA,F5.zxu,jk];by_cases hlt:i<2
 case pos =>
  obtain ⟨k,hk,hk3,hg⟩:∃ k:Nat,k∈[0,1]/\k<3/\([.str (jG 0),.str (jG 1)]:List AV)[i]? = some (.str (jG k)):=by
   match i,hlt with
   | 0,_=>exact ⟨0,by decide,by decide,rfl⟩
   | 1,_=>exact ⟨1,by decide,by decide,rfl⟩
  obtain ⟨sy,l5⟩:=zck h1n h5n hk3;rw [decide_eq_true (by omega),F5.t64,zA,F5.t49,zR,F5.v42,zD,yB,F5.t63,zA,F5.t61,yI,F5.t60,zA,F5.zxv,sIx rfl hlt,H7.load (k:=0) rfl hg,F5.t59,zA,F5.zxw];refine zb1 h1n (by omega) hk3 _ _ _ _ ?_;rintro _ rfl _;rw [sqVZ,jA,jB];refine H7.alloc fun ya h8 nx8 H8 => ?_;refine H8.qo (l2:=[I ((n*n:Nat):Int),pz (sqL k n)]) (k:=0) rfl rfl rfl fun h9 H9 => ?_;rw [F5.t58,zA,F5.zxx,H9.zk (k:=0) (n:=2) rfl rfl,H9.zk (k:=2) (n:=2) rfl rfl];refine zkn (fun q hq=>by have:=l5 q hq;omega) hml _ _ _ _ ?_;rintro _ rfl _;rw [kM k hk,jA,jB,F5.t57,zA,F5.zxy,F5.zmx,F5.zq8,jf (by omega),qm,decide_eq_true (by decide),Zaf];simp only [yL,yW,Zaf,zT];rw [F5.ztv,F5.zq9];simp only [yL,zf3];refine zkt (kinL _ _) _ _ _ _ ?_;rintro _ rfl _;rw [F5.ztu,F5.zra];simp only [yL,zf3];refine zkt (kinL _ _) _ _ _ _ ?_;rintro _ rfl _;rw [F5.ztt,F5.zrb];simp only [yL];rw [zew hk3,zew hk3,cM k hk,zq0,bne_self_eq_false,zT,F5.t56,zR,F5.v43,zE,yB,F5.zxz,jf (by omega)];exact hR (2-(i+1)) _ _ _ _ _ _ _ _ _ _ _ (by omega) ⟨i+1,rfl,rfl,by omega,H9.drop⟩
 obtain rfl:i=2:=by omega
 rw [decide_eq_false (by omega),F5.t64,zA,F5.t49,zR,F5.v42,zE,jP,uD,F5.t70,zA,F5.zx1];refine awk _ _ _ ?_;simp only [yA,yP];rw [F5.ret];exact ret H7
end Go.Ev
